/- Walks and plain laws for this claim (texts Gen1, Gop1, Gop2, Cm1, LayCh, Gch1, LaySort, Zo1, joined). Each theorem states its own conditions. -/
import Derived.Test.YtfeopecgedbfpaaGreatDoorJ04
import Derived.ProofKit
import Derived.OpenShut
import Derived.ShutString
import Derived.ChangeOld
import Derived.Lib.SmallJoins
import Derived.Deep.Slices
import Derived.WalkKit
import Derived.Shelf.Strconv.Itoa0
import Derived.Shelf.SlSortCmp.WholeK
import Derived.Shelf.SlSortCmp.NoneTotal
import Derived.Lib.ItoaNum
set_option linter.all false
namespace Go.Proofs.YtfeopecgedbfpaaGreatDoor
namespace V
open Go.RowKit
abbrev wq4 (x : Nat) : Value := .int .u32 (x : Int)
structure En where
 (id off len run : Nat)
def En.ok (e : En) : Prop := e.id < 18446744073709551616 ∧ e.off < 18446744073709551616 ∧ e.len < 4294967296 ∧ e.run < 4294967296
abbrev En.cells (e : En) : List Value := [uq e.id, uq e.off, wq4 e.len, wq4 e.run]
abbrev En.val (e : En) : Value := .agg e.cells.toArray
def En.wide (e : En) : Nat := max 1 e.run
def En.next (e : En) : Nat := (e.off + e.len) % 18446744073709551616
def chkE (e : En) : Nat :=
 if e.len = 0 then 2 else if 6004799503160661 - e.wide < e.id then 8 else if 1099511627776 < e.off ∨ 1099511627776 < e.next then 8 else 0
def jK7 (e : En) : Nat := if chkE e = 0 then e.id + e.wide - 1 else 0
theorem wT6 (x : Nat) : IntKind.u64.wrap (x : Int) = ((x % 18446744073709551616 : Nat) : Int) := by simp [IntKind.wrap, IntKind.bits, IntKind.signed]
theorem vT5 (e : En) (h : e.ok) : Fn Tryz.prog 125 [e.val] [] fun v _ => v = uq e.wide := by
 obtain ⟨h1, h2, h3, h4⟩ := h
 refine Fn.enter (N := 7) Tryz.func125 rfl (by kernel_rfl) rfl (fun w0 => ?_)
 refine aR (fun Z hZ => jB5 (fun g1 => ?_))
 refine sAN hZ rfl rfl <| f1K 1 rfl <| aR (fun Z hZ => sFA0 jN0 ?_)
 first | refine sL0 0 tyA78 tyS78 ?_
 refine yG3 rfl rfl ((e.wide : Nat) : Int) (by simp only [En.wide]; omega) rfl ?_
 refine jB7 Tryz.underlying78 Tryz.underlying25 rfl ((e.wide : Nat) : Int) (by rw [l6 _ (by simp only [En.wide]; omega)]) rfl ?_
 refine sAN hZ rfl rfl <| f1K 2 rfl <| aE <| nR10 rfl
theorem yU9 (e : En) (h : e.ok) : Fn Tryz.prog 151 [e.val] [] fun v _ => v = uq e.next := by
 obtain ⟨h1, h2, h3, h4⟩ := h
 refine Fn.enter (N := 9) Tryz.func151 rfl (by kernel_rfl) rfl (fun w0 => ?_)
 refine aR (fun Z hZ => jB5 (fun g1 => ?_))
 refine sAN hZ rfl rfl <| f1K 1 rfl <| aR (fun Z hZ => sFA0 jH7 ?_)
 first | refine sL0 0 tyA25 tyS25 ?_
 refine sFA0 jL8 ?_
 first | refine sL0 0 tyA78 tyS78 ?_
 refine jB7 Tryz.underlying78 Tryz.underlying25 rfl ((e.len : Nat) : Int) (by rw [l6 _ (by omega)]) rfl ?_
 refine jZ5 ((e.next : Nat) : Int) (by rw [← Int.natCast_add, wT6]; rfl) ?_
 refine sAN hZ rfl rfl <| f1K 2 rfl <| aE <| nR10 rfl
theorem vG1 (e : En) (h : e.ok) : Fn Tryz.prog 102 [e.val] [] fun v _ => v = iq (chkE e) := by
 have hok := h
 obtain ⟨h1, h2, h3, h4⟩ := h
 have hw : e.wide ≤ 4294967296 := by simp only [En.wide]; omega
 refine Fn.enter (N := 23) Tryz.func102 rfl (by kernel_rfl) rfl (fun w0 => ?_)
 refine aR (fun Z hZ => jB5 (fun g1 => ?_))
 refine sAN hZ rfl rfl <| f1K 1 rfl <| aS (aB <| aR (fun Z hZ => sFA0 jL8 ?_))
 first | refine sL0 0 tyA78 tyS78 ?_
 refine jB0 ?_
 refine sAN hZ rfl rfl <| f2K 1 3 rfl <| aC0 (fun ha => ?_) (fun ha => ?_)
 ·have h0 : e.len = 0 := by simp at ha; omega
  rw [show chkE e = 2 by unfold chkE; rw [if_pos h0]]
  refine aA rfl rfl <| f1K 2 rfl <| aE ?_
  repeat (with_reducible (first | refine nTR ?_ | refine nBR ?_))
  exact nR10 rfl
 have h0 : e.len ≠ 0 := by simp at ha; omega
 refine jC6 mixed (by kernel_rfl) (fun Z hZ => ?_)
 refine qFA0 jK0 ?_
 first | refine jB6 0 tyA25 tyS25 ?_
 first | refine jP6 0 rfl rfl tyA80 tyS80 rfl (by simp only [qS, Value.cells]; rfl) rfl ?_
 refine jH4 (vT5 e hok) rfl rfl <| vC9 rfl rfl ((6004799503160661 - e.wide : Nat) : Int) (by rw [l6 _ (by omega)]; omega) rfl ?_
 refine kQ7 rfl rfl rfl <| jC8 rfl rfl <| jF0 (hZ _ _ <| f2K 1 7 rfl <| aC0 (fun hb => ?_) (fun hb => ?_))
 ·have hb' : 6004799503160661 - e.wide < e.id := by simp at hb; omega
  rw [show chkE e = 8 by unfold chkE; rw [if_neg h0, if_pos hb']]
  refine aA rfl rfl <| f1K 2 rfl <| aE ?_
  repeat (with_reducible (first | refine nTR ?_ | refine nBR ?_))
  exact nR10 rfl
 have hb' : ¬ 6004799503160661 - e.wide < e.id := by simp at hb; omega
 refine jA3 [(14, .bool (decide (1099511627776 < e.off ∨ 1099511627776 < e.next)))] [] (fun Z hZ => ?_) ?_
 ·refine sFA0 jH7 ?_
  first | refine sL0 0 tyA25 tyS25 ?_
  refine jC4 ?_
  refine sM rfl rfl <| jD0 18 rfl (fun hb3 => ?_) (fun hb3 => ?_)
  ·refine sO0 ?_
   refine sO0 ?_
   refine sO0 ?_
   refine sP rfl rfl rfl <| sA rfl rfl <| sN (hZ _ _ ?_ ?_)
   ·exact Kn.cons (congrArg some (congrArg Value.bool (by simp at hb3; rw [lR]; simp; omega))) Kn.nil
   ·exact HLe.pick [] (by simp) rfl
  ·refine sOn0 ?_
   first | refine sLA0 0 tyA80 tyS80 ?_
   refine sOn0 ?_
   refine sCP0 (yU9 e hok) ?_
   refine sOn0 ?_
   refine jC4 ?_
   refine sP rfl rfl rfl <| sA rfl rfl <| sN (hZ _ _ ?_ ?_)
   ·exact Kn.cons (congrArg some (congrArg Value.bool (by simp at hb3; rw [lR]; simp; omega))) Kn.nil
   ·exact HLe.pick [] (by simp) rfl
 refine aC0 (fun hc => ?_) (fun hc => ?_)
 ·have hc' : 1099511627776 < e.off ∨ 1099511627776 < e.next := by simpa using hc
  rw [show chkE e = 8 by unfold chkE; rw [if_neg h0, if_neg hb', if_pos hc']]
  refine aA rfl rfl <| f1K 2 rfl <| aE ?_
  repeat (with_reducible (first | refine nTR ?_ | refine nBR ?_))
  exact nR10 rfl
 have hc' : ¬ (1099511627776 < e.off ∨ 1099511627776 < e.next) := by simpa using hc
 rw [show chkE e = 0 by unfold chkE; rw [if_neg h0, if_neg hb', if_neg hc']]
 refine aK ?_
 repeat refine nBN ?_
 refine nN <| aA rfl rfl <| f1K 2 rfl <| aE <| nR10 rfl
theorem vM9 (e : En) (h : e.ok) : Fn Tryz.prog 71 [e.val] [] fun v _ => v = .bool (decide (chkE e = 0)) := by
 refine Fn.enter (N := 6) Tryz.func71 rfl (by kernel_rfl) rfl (fun w0 => ?_)
 refine aR (fun Z hZ => jB5 (fun g1 => ?_))
 refine sAN hZ rfl rfl <| f1K 1 rfl <| aR (fun Z hZ => ?_)
 first | refine sLA0 0 tyA80 tyS80 ?_
 refine sCP0 (vG1 e h) ?_
 refine jB0 ?_
 refine sAN hZ rfl rfl ?_
 refine f1K 2 rfl ?_
 refine aE ?_
 exact nR1 rfl rfl (congrArg Value.bool (by rw [lR]; simp))
theorem En.ok.wide {e : En} (h : e.ok) : 1 ≤ e.wide ∧ e.wide ≤ 4294967296 := by
 obtain ⟨_, _, _, h4⟩ := h
 simp only [En.wide]; omega
theorem kI6 {e : En} (ho : e.ok) (h : chkE e = 0) : e.len ≠ 0 ∧ e.id + e.wide ≤ 6004799503160661 ∧ e.off ≤ 1099511627776 ∧ e.next ≤ 1099511627776 := by
 have hw := ho.wide
 unfold chkE at h
 split at h
 ·cases h
 split at h
 ·cases h
 split at h
 ·cases h
 ·rename_i a b c
  exact ⟨a, by omega, by omega, by omega⟩
theorem kE2 (e : En) (h : e.ok) : Fn Tryz.prog 72 [e.val] [] fun v _ => v = uq (jK7 e) := by
 have hok := h
 obtain ⟨h1, h2, h3, h4⟩ := h
 have hw : 1 ≤ e.wide ∧ e.wide ≤ 4294967296 := by simp only [En.wide]; omega
 refine Fn.enter (N := 12) Tryz.func72 rfl (by kernel_rfl) rfl (fun w0 => ?_)
 refine aR (fun Z hZ => jB5 (fun g1 => ?_))
 refine sAN hZ rfl rfl <| f1K 1 rfl <| aS <| aR (fun Z hZ => ?_)
 first | refine sLA0 0 tyA80 tyS80 ?_
 refine sCP0 (vM9 e hok) ?_
 refine jI8 rfl rfl <| sN (hZ _ _ <| f2K 1 5 rfl <| aC0 (fun ha => ?_) (fun ha => ?_))
 ·have h0 : chkE e ≠ 0 := by simpa using ha
  rw [show jK7 e = 0 by unfold jK7; rw [if_neg h0]]
  refine aA rfl rfl <| f1K 2 rfl <| aE ?_
  repeat refine nTR ?_
  exact nR10 rfl
 have h0 : chkE e = 0 := by simpa using ha
 obtain ⟨_, h5, _, _⟩ := kI6 hok h0
 rw [show jK7 e = e.id + e.wide - 1 by unfold jK7; rw [if_pos h0]]
 refine aK <| nN <| jC6 mixed (by kernel_rfl) (fun Z hZ => ?_)
 refine qFA0 jK0 ?_
 first | refine jB6 0 tyA25 tyS25 ?_
 first | refine jP6 0 rfl rfl tyA80 tyS80 rfl (by simp only [qS, Value.cells]; rfl) rfl ?_
 refine jH4 (vT5 e hok) rfl rfl <| vQ0 rfl rfl ((e.id + e.wide : Nat) : Int) (by rw [l6 _ (by omega)]; omega) rfl ?_
 refine vC9 rfl rfl ((e.id + e.wide - 1 : Nat) : Int) (by rw [l6 _ (by omega)]; omega) rfl ?_
 refine jC8 rfl rfl <| jF0 (hZ _ _ <| f1K 2 rfl <| aE <| nR10 rfl)
end V
namespace V
open Go.RowKit
abbrev jA1 (L : List En) : List Value := L.flatMap En.cells
theorem jW3 (e : En) : e.cells.length = 4 := rfl
theorem jG6 (L : List En) : (jA1 L).length = L.length * 4 := kD6 jW3 L
theorem jG4 {L : List En} {i : Nat} {x : En} (h : L[i]? = some x) : rdV true 4 (jA1 L) (i * 4) = some x.val := wL7 jW3 h
def rowQ : Nat → List En → Nat
 | _, [] => 0
 | free, e :: r => if chkE e = 0 then (if e.id < free then 10 else rowQ (jK7 e + 1) r) else chkE e
def rowC (L : List En) : Nat := if 4096 < L.length then 21 else rowQ 0 L
def jF4 (L : List En) : Prop := ∀ e ∈ L, e.ok
theorem kY6 {e : En} (h : e.ok) : jK7 e < 6004799503160661 := by
 have := h.wide
 unfold jK7
 split
 ·rename_i h0
  have := kI6 h h0
  omega
 ·omega
theorem kA6 (A : Option Addr) (c : Nat) (L : List En) (T : Heap) (hA : jH6 A L.length) (hT : 0 < L.length → T = roE A (jA1 L)) (hro : Ro T) (hL : L.length ≤ maxLen) (hE : jF4 L) :
  Fn Tryz.prog 49 [.slice A L.length c] T fun v _ => v = iq (rowC L) := by
 have hL' : L.length ≤ 9223372036854775807 := hL
 refine Fn.enter (N := 29) Tryz.func49 rfl (by kernel_rfl) rfl (fun w0 => ?_)
 refine aA rfl rfl <| f1K 0 rfl <| aS <| aR fun Z hZ => sM rfl rfl <| jE2 Tryz.underlying58 rfl rfl <| jC4 ?_
 refine sN (hZ _ _ <| f2K 0 9 rfl <| aC0 (fun ha => ?_) (fun ha => ?_))
 ·have h0 : 4096 < L.length := by simp at ha; omega
  rw [show rowC L = 21 by unfold rowC; rw [if_pos h0]]
  refine aA rfl rfl <| f1K 2 rfl <| aE ?_
  repeat refine nTR ?_
  exact nR10 rfl
 have h0 : ¬ 4096 < L.length := by simp at ha; omega
 rw [show rowC L = rowQ 0 L by unfold rowC; rw [if_neg h0]]
 refine aK <| nN <| aA rfl rfl <| f2K 0 3 rfl <| aS <| aR fun Z hZ => sM rfl rfl <| jE2 Tryz.underlying58 rfl rfl <| sMN hZ rfl rfl <| f4K 3 10 11 12 rfl <| aB ?_
 refine jB9 (ι := Nat × Nat) (fun i => [(3, uq i.2), (10, .slice A L.length c), (11, iq (L.length : Nat)), (12, iq (i.1 : Nat))]) (fun i => T)
  (fun i => i.1 ≤ L.length ∧ i.2 < 9000000000000000 ∧ rowQ i.2 (L.drop i.1) = rowQ 0 L) (fun i => L.length - i.1) (0, 0) ⟨by simp, by simp, rfl⟩ (kR rfl) (HLe.refl _) ?_
 rintro ⟨k, free⟩ ⟨hk, hf, hq⟩
 simp only at hk hf hq
 refine aR (fun Z hZ => jB2 ?_)
 refine sN (hZ _ _ <| f5K 3 10 11 12 13 rfl <| aS (aC0 (fun h => ?_) (fun h => ?_)))
 ·have hlt : k < L.length := by simpa using h
  obtain ⟨x, hx⟩ : ∃ x, L[k]? = some x := ⟨_, xC hlt⟩
  have hxe : L[k] = x := lV ((xC hlt).symm.trans hx)
  have hok : x.ok := hE x (xM hx)
  have hl := kY6 hok
  obtain ⟨g, o, rfl⟩ := hA (by omega)
  obtain rfl := hT (by omega)
  have hdr : L.drop k = x :: L.drop (k + 1) := by rw [qR hlt, hxe]
  rw [hdr, rowQ] at hq
  refine aK <| nN <| aS (aB <| aR (fun Z hZ => jB3 (o + k * 4) Tryz.underlying58 tyS80 rfl rfl (by omega) (by simp) rfl ?_))
  refine jB4 0 rfl rfl (k * 4) rfl tyA80 tyS80 (jG4 hx) rfl <| sAl tyZ80 rfl (fun g1 => sS0 0 tyS80 ?_)
  refine sN (hZ _ _ <| f5K 3 5 10 11 12 rfl <| aS <| aR (fun Z hZ => sLA0 0 tyA80 tyS80 ?_))
  refine sCP0 (vG1 x hok) ?_
  refine sAN hZ rfl rfl <| f6K 3 5 6 10 11 12 rfl <| aR fun Z hZ => sM rfl rfl <| jC7 ?_
  refine sN (hZ _ _ <| f7K 3 5 6 10 11 12 19 rfl <| aC0 (fun hb => ?_) (fun hb => ?_))
  ·have hb' : chkE x ≠ 0 := by simp at hb; omega
   rw [if_neg hb'] at hq
   rw [← hq]
   refine aR fun Z hZ => sM rfl rfl <| sAN hZ rfl rfl <| f1K 2 rfl <| aE ?_
   repeat (with_reducible (first | refine nTR ?_ | refine nBR ?_))
   exact nR10 rfl
  have hb' : chkE x = 0 := by simp at hb; omega
  rw [if_pos hb'] at hq
  refine aK <| nN <| aS <| aR (fun Z hZ => sFA0 jK0 ?_)
  refine sL0 0 tyA25 tyS25 ?_
  refine sM rfl rfl <| jB2 ?_
  refine sN (hZ _ _ <| f5K 5 10 11 12 24 rfl <| aC0 (fun hc => ?_) (fun hc => ?_))
  ·have hc' : x.id < free := by simp at hc; omega
   rw [if_pos hc'] at hq
   rw [← hq]
   refine aA rfl rfl <| f1K 2 rfl <| aE ?_
   repeat (with_reducible (first | refine nTR ?_ | refine nBR ?_))
   exact nR10 rfl
  have hc' : ¬ x.id < free := by simp at hc; omega
  rw [if_neg hc'] at hq
  refine aK <| nN <| aG (fun Z hZ => sLA0 0 tyA80 tyS80 ?_)
  refine sCP0 (kE2 x hok) ?_
  refine jC2 rfl rfl ((jK7 x + 1 : Nat) : Int) (by rw [l6 _ (by omega)]; omega) rfl ?_
  refine sAN hZ rfl rfl <| nF [(3, _), (10, _), (11, _), (12, _)] (kR rfl) ?_
  repeat refine nBN ?_
  refine nN ?_
  refine aG (fun Z hZ => ?_)
  refine jC2 rfl rfl ((k + 1 : Nat) : Int) (by rw [lT _ (by omega)]; omega) rfl ?_
  refine sMN hZ rfl rfl <| nF [(3, _), (10, _), (11, _), (12, _)] (kR rfl) <| jB8 (k + 1, jK7 x + 1) ⟨by show k + 1 ≤ _; omega, by show jK7 x + 1 < _; omega, hq⟩ (by simp; omega) (kR rfl) (HLe.drop 1 rfl)
 ·refine jB1 ?_
  repeat refine nTE ?_
  refine nBE <| nN ?_
  have hke : k = L.length := by simp at h; omega
  subst hke
  rw [zW, rowQ] at hq
  rw [← hq]
  refine aA rfl rfl <| f1K 2 rfl <| aE <| nR10 rfl
end V
namespace V
open Go.RowKit
theorem kI4 : ElemOk Tryz.prog 58 80 4 24 := ElemOk.mk_ (z := .agg #[uq 0, uq 0, wq4 0, wq4 0]) Tryz.underlying58 (by kernel_rfl) rfl (by omega)
theorem kG7 (L : List En) : (jA1 L).all Value.oneCell' = true := List.all_eq_true.2 fun v hv => by
 obtain ⟨e, _, he⟩ := List.mem_flatMap.1 hv
 simp only [En.cells, lY, List.not_mem_nil, or_false] at he
 rcases he with rfl | rfl | rfl | rfl <;> rfl
end V
namespace V
open Go.RowKit
end V
section
open Go.RowKit Go.ChangeShapes Go.WideShapes Go.ChangeAt Go.Joins
open Go.ChangeMaps (open_string)
section
variable {H : Type} {enc : TypeId × Value → H} {w : World} {base : Nat} {spare : Nat → Bool} {held : Bool}
theorem yY6 {x : Int} (h : (Lit.int .i64 x).wf = true) : -9223372036854775808 ≤ x ∧ x < 9223372036854775808 := by
 simp [Lit.wf, IntKind.min, IntKind.max, IntKind.signed, IntKind.bits] at h
 exact ⟨by omega, by omega⟩
theorem yY5 {x : Int} (h : (Lit.int .u64 x).wf = true) : 0 ≤ x ∧ x < 18446744073709551616 := by
 simp [Lit.wf, IntKind.min, IntKind.max, IntKind.signed, IntKind.bits] at h
 exact ⟨by omega, by omega⟩
theorem zG6 {x : Int} (h : (Lit.int .u8 x).wf = true) : 0 ≤ x ∧ x < 256 := by
 simp [Lit.wf, IntKind.min, IntKind.max, IntKind.signed, IntKind.bits] at h
 exact ⟨by omega, by omega⟩
theorem World.lt_of_cell {w : World} {a : Addr} {v : Value} (h : w.cell? a = some v) : a.block < w.heap.size := by
 rcases xP a.block w.heap.size with h' | h'
 ·exact h'
 ·simp [World.cell?, Array.getElem?_eq_none h'] at h
theorem wR5 (a : Addr) (j : Nat) (h : a.spot = none) : a.add j = ⟨a.block, a.off + j, none⟩ := by
 obtain ⟨g, o, s⟩ := a
 simp only at h
 subst h
 unfold Addr.add
 split <;> simp_all
end
end
section
open Go.RowKit Go.ChangeShapes Go.WideShapes Go.ChangeAt Go.Joins
end
section
open Go.RowKit Go.ChangeShapes Go.WideShapes Go.ChangeAt Go.Joins
def Scal : TypeDesc → Value → Prop
 | .bool, v => ∃ b, v = .bool b
 | .int k, v => ∃ n, v = .int k n ∧ (Lit.int k n).wf = true
 | .string, v => ∃ l, v = .string (str l) ∧ l.length ≤ maxLen
 | _, _ => False
def kG2 (lv : TypeId → Option (List TypeDesc)) (sz : TypeId → Nat) : Nat → List Field → Option (List TypeDesc)
 | _, [] => some []
 | off, f :: r => match lv f.type, kG2 lv sz (off + sz f.type) r with
  | some a, some b => bif Nat.beq f.offset off && Nat.beq a.length (sz f.type) then some (a ++ b) else none
  | _, _ => none
def leaves (P : Program) : Nat → TypeId → Option (List TypeDesc)
 | 0, _ => none
 | n + 1, t => match P.underlying t with
  | some .bool => some [.bool]
  | some (.int k) => some [.int k]
  | some .string => some [.string]
  | some (.struct fs) => match kG2 (leaves P n) P.cellsOf 0 fs.toList with
   | some L => bif Nat.beq L.length (P.cellsOf t) then some L else none
   | none => none
  | _ => none
inductive Alike : List TypeDesc → List Value → Prop
 | nil : Alike [] []
 | cons {d : TypeDesc} {v : Value} {L : List TypeDesc} {cs : List Value} (h : Scal d v) (t : Alike L cs) : Alike (d :: L) (v :: cs)
theorem Alike.append : ∀ {L M : List TypeDesc} {a b : List Value}, Alike L a → Alike M b → Alike (L ++ M) (a ++ b)
 | [], _, _, _, .nil, h => h
 | _ :: _, _, _, _, .cons h t, k => .cons h (t.append k)
section
variable {H : Type} {enc : TypeId × Value → H} {P : Program} {w : World} {base : Nat} {spare : Nat → Bool} {held : Bool}
theorem kR7 {lv : TypeId → Option (List TypeDesc)} {fuel : Nat} {cs : List Value} (ih : ∀ t L ds x, lv t = some L → DataW.trod enc P w base spare held fuel t ds = some x → Alike L ds) :
  ∀ (fs : List Field) (off : Nat) (L : List TypeDesc) (xs : List (DataW H × List MemPlace)), kG2 lv P.cellsOf off fs = some L → fs.mapM (fun f => DataW.trod enc P w base spare held fuel f.type ((cs.drop f.offset).take (P.cellsOf f.type))) = some xs → Alike L ((cs.drop off).take L.length)
 | [], off, L, xs, h, _ => by
  obtain rfl := lV h
  simpa using Alike.nil
 | f :: r, off, L, xs, h, hx => by
  simp only [kG2] at h
  cases h1 : lv f.type with
  | none => simp [h1] at h
  | some a =>
   cases h2 : kG2 lv P.cellsOf (off + P.cellsOf f.type) r with
   | none => simp [h1, h2] at h
   | some b =>
    simp only [h1, h2] at h
    cases hb : Nat.beq f.offset off && Nat.beq a.length (P.cellsOf f.type) with
    | false => rw [hb] at h; cases h
    | true =>
     rw [hb] at h
     obtain rfl := lV h
     simp only [xW] at hb
     have e1 := x7 hb.1
     have e2 := x7 hb.2
     rw [List.mapM_cons] at hx
     cases k1 : DataW.trod enc P w base spare held fuel f.type ((cs.drop f.offset).take (P.cellsOf f.type)) with
     | none => simp [k1] at hx
     | some y =>
      cases k2 : r.mapM (fun f => DataW.trod enc P w base spare held fuel f.type ((cs.drop f.offset).take (P.cellsOf f.type))) with
      | none => simp [k1, k2] at hx
      | some ys =>
       have h3 := ih _ _ _ _ h1 k1
       have h4 := kR7 ih r _ b ys h2 k2
       rw [e1, ← e2] at h3
       rw [← e2] at h4
       rw [lX, List.take_add, List.drop_drop]
       exact h3.append h4
theorem kN7 : ∀ (n fuel : Nat) (t : TypeId) (L : List TypeDesc) (cs : List Value) (x : DataW H × List MemPlace), leaves P n t = some L → DataW.trod enc P w base spare held fuel t cs = some x → Alike L cs
 | 0, _, _, _, _, _, h, _ => by simp [leaves] at h
 | n + 1, 0, _, _, _, _, _, h => by simp [DataW.trod] at h
 | n + 1, fuel + 1, t, L, cs, x, hL, h => by
  unfold leaves at hL
  unfold DataW.trod at h
  cases hu : P.underlying t with
  | none => simp [hu] at hL
  | some d =>
   rw [hu] at hL
   simp only [hu] at h
   cases d with
   | bool =>
    obtain rfl := lV hL
    rcases cs with _ | ⟨c, _ | ⟨c2, cs⟩⟩
    ·simp at h
    ·cases c <;> simp at h
     exact .cons ⟨_, rfl⟩ .nil
    ·simp at h
   | int k =>
    obtain rfl := lV hL
    rcases cs with _ | ⟨c, _ | ⟨c2, cs⟩⟩
    ·simp at h
    ·cases c <;> simp at h
     obtain ⟨⟨rfl, hw⟩, _⟩ := h
     exact .cons ⟨_, rfl, hw⟩ .nil
    ·simp at h
   | string =>
    obtain rfl := lV hL
    rcases cs with _ | ⟨c, _ | ⟨c2, cs⟩⟩
    ·simp at h
    ·cases c <;> simp at h
     rename_i s
     obtain ⟨l, rfl⟩ := vC7 s
     exact .cons ⟨l, rfl, by have := h.1; rwa [str_size] at this⟩ .nil
    ·simp at h
   | struct fs =>
    simp only at hL
    cases hF : kG2 (leaves P n) P.cellsOf 0 fs.toList with
    | none => simp [hF] at hL
    | some M =>
     simp only [hF] at hL
     cases hb : Nat.beq M.length (P.cellsOf t) with
     | false => rw [hb] at hL; cases hL
     | true =>
      rw [hb] at hL
      obtain rfl := lV hL
      have e := x7 hb
      simp only at h
      split at h
      ·rename_i hl
       cases hx : fs.toList.mapM (fun f => DataW.trod enc P w base spare held fuel f.type ((cs.drop f.offset).take (P.cellsOf f.type))) with
       | none => simp [hx] at h
       | some xs =>
        have := kR7 (fun t L ds x h1 h2 => kN7 n fuel t L ds x h1 h2) fs.toList 0 M xs hF hx
        rwa [lC, e, ← hl, x6] at this
      ·cases h
   | _ => simp at hL
theorem vL3 {t : TypeId} {r : Reach} {b0 : Nat} {v : Value} {d : DataW H} {p : List MemPlace} {fs : Array Field} {L : List TypeDesc} (n : Nat) (ht : P.underlying t = some (.struct fs)) (hL : leaves P n t = some L)
  (hv : Value.okWide P w r b0 t v) (h : DataW.Trod enc P w base spare held t v d p) : ∃ cs, v = .agg cs.toArray ∧ Alike L cs := by
 obtain ⟨cs, rfl, hsz⟩ := okWide_struct ht hv
 obtain ⟨fuel, hf⟩ := h
 obtain ⟨l⟩ := cs
 exact ⟨l, rfl, kN7 n fuel t L l _ hL (by simpa [Value.cells] using hf)⟩
end
theorem wR2 {L : List TypeDesc} {cs : List Value} (h : Alike (.int .u64 :: L) cs) : ∃ (n : Nat) (c : List Value), cs = .int .u64 (n : Int) :: c ∧ n < 18446744073709551616 ∧ Alike L c := by
 cases h with
 | cons h t =>
  obtain ⟨n, rfl, hn⟩ := h
  have := yY5 hn
  exact ⟨n.toNat, _, by show _ = Value.int .u64 ((n.toNat : Nat) : Int) :: _; rw [Int.toNat_of_nonneg this.1], by omega, t⟩
theorem yF1 {L : List TypeDesc} {cs : List Value} (h : Alike (.int .u8 :: L) cs) : ∃ (n : Nat) (c : List Value), cs = .int .u8 (n : Int) :: c ∧ n < 256 ∧ Alike L c := by
 cases h with
 | cons h t =>
  obtain ⟨n, rfl, hn⟩ := h
  have := zG6 hn
  exact ⟨n.toNat, _, by show _ = Value.int .u8 ((n.toNat : Nat) : Int) :: _; rw [Int.toNat_of_nonneg this.1], by omega, t⟩
theorem wR3 {L : List TypeDesc} {cs : List Value} (h : Alike (.int .i64 :: L) cs) : ∃ (n : Int) (c : List Value), cs = .int .i64 n :: c ∧ (-9223372036854775808 ≤ n ∧ n < 9223372036854775808) ∧ Alike L c := by
 cases h with
 | cons h t =>
  obtain ⟨n, rfl, hn⟩ := h
  exact ⟨n, _, rfl, yY6 hn, t⟩
end
section
open Go.RowKit Go.ChangeShapes Go.WideShapes Go.ChangeAt Go.Joins
theorem Alike.length {L : List TypeDesc} {cs : List Value} (h : Alike L cs) : cs.length = L.length := by
 induction h with
 | nil => rfl
 | cons _ _ ih => simp [ih]
section
variable {H : Type} {enc : TypeId × Value → H} {P : Program} {w : World}
theorem wI2 {t e : TypeId} {L : List TypeDesc} (m : Nat) {b0 : Nat} {r : Reach} {v : Value} {d : DataW H} {p : List MemPlace} (ht : P.underlying t = some (.slice e)) (hL : leaves P m e = some L) (hC : P.cellsOf e = L.length) (hC0 : 0 < L.length)
  (hv : Value.okWide P w r b0 t v) (h : DataW.Trod enc P w 0 (fun _ => true) true t v d p) :
  ∃ A n c, ∃ rows : List (List Value), v = .slice A n c ∧ rows.length = n ∧ n ≤ maxLen ∧ (∀ x ∈ rows, Alike L x) ∧ Rd w L.length A n rows.flatten := by
 obtain ⟨a0, len0, cap0, rfl⟩ := okWide_slice ht hv
 obtain ⟨fuel, hf⟩ := h
 rcases Go.Deep.open_slice ht hf with ⟨hcs, _⟩ | ⟨a, len, cap, m', n', D, Pl, hcs, _, hl, hm, hmm, _, hi⟩
 ·simp [Value.cells] at hcs
  obtain ⟨rfl, rfl, rfl⟩ := hcs
  exact ⟨none, 0, 0, [], rfl, rfl, xD _, by simp, ⟨by simp, fun _ => rfl, fun h => absurd h (by omega)⟩⟩
 ·simp [Value.cells] at hcs
  obtain ⟨rfl, rfl, rfl⟩ := hcs
  simp only [if_true] at hmm
  subst hmm
  have hch : ∀ i, ∃ cs' : List Value, cs'.length = L.length ∧ (i < len0 → Alike L cs' ∧ ∀ k, k < L.length → w.cell? (a.add (i * L.length + k)) = cs'[k]?) := fun i => by
   by_cases hlt : i < len0
   ·obtain ⟨cs', h1, h2⟩ := hi i (by omega)
    obtain ⟨_, h3, h4⟩ := World.cells?_some h1
    have h5 := kN7 m n' e L cs' _ hL h2
    refine ⟨cs', h5.length, fun _ => ⟨h5, fun k hk => ?_⟩⟩
    have := h4 k (by rw [hC]; exact hk)
    rw [← hC]
    rw [Go.Deep.add_add] at this
    exact this
   ·exact ⟨List.replicate L.length undef, by simp, fun h => absurd h hlt⟩
  obtain ⟨f, hf'⟩ := Classical.axiomOfChoice hch
  have hfl : ∀ i, (f i).length = L.length := fun i => (hf' i).1
  have hcell : ∀ i k, i < len0 → k < L.length → w.cell? (a.add (i * L.length + k)) = (f i)[k]? := fun i k hi hk => ((hf' i).2 hi).2 k hk
  have hflat : ((List.range len0).map f).flatten = (List.range len0).flatMap f := (List.flatMap_def ..).symm
  refine ⟨some a, len0, _, (List.range len0).map f, rfl, by simp, by omega, fun x hx => ?_, ?_⟩
  ·obtain ⟨i, hi', rfl⟩ := List.mem_map.1 hx
   exact ((hf' i).2 (List.mem_range.1 hi')).1
  ·rw [hflat]
   refine ⟨by rw [kD6 hfl]; simp, by simp, fun hn => ?_⟩
   have h0 := hcell 0 0 hn hC0
   have hsome : w.cell? (a.add (0 * L.length + 0)) = some ((f 0)[0]'(by rw [hfl]; exact hC0)) := by rw [h0]; exact xC _
   have hs : a.spot = none := by
    have := World.cell?_spot hsome
    unfold Addr.add at this
    simpa using this
   have hlt : a.block < w.heap.size := by
    have := World.lt_of_cell hsome
    unfold Addr.add at this
    simpa using this
   obtain ⟨g, o, sp⟩ := a
   simp only at hs hlt
   subst hs
   refine ⟨g, o, rfl, hlt, fun j u hu => ?_⟩
   have hj : j < len0 * L.length := by
    have := (List.getElem?_eq_some_iff.1 hu).1
    rw [kD6 hfl] at this
    simpa using this
   have hi0 : j / L.length < len0 := Nat.div_lt_of_lt_mul (by rw [qN]; exact hj)
   have hk0 : j % L.length < L.length := Nat.mod_lt _ hC0
   have hjj : j / L.length * L.length + j % L.length = j := by rw [qN]; exact Nat.div_add_mod j L.length
   have h1 := hcell _ _ hi0 hk0
   rw [hjj, wR5 _ _ rfl] at h1
   simp only at h1
   rw [h1]
   have h2 := yT8 hfl (L := List.range len0) (i := j / L.length) (x := j / L.length) (by rw [List.getElem?_range hi0])
   rw [← h2, List.getElem?_take_of_lt hk0, zP, hjj]
   exact hu
end
theorem wF0 {α : Type} {f : α → List Value} {ok : α → Prop} {L : List TypeDesc} (h : ∀ r, Alike L r → ∃ x, ok x ∧ r = f x) : ∀ rows : List (List Value), (∀ r ∈ rows, Alike L r) → ∃ M : List α, rows.flatten = M.flatMap f ∧ M.length = rows.length ∧ ∀ x ∈ M, ok x
 | [], _ => ⟨[], rfl, rfl, by simp⟩
 | r :: rows, hr => by
  obtain ⟨x, h1, rfl⟩ := h r (hr r lO)
  obtain ⟨M, h2, h3, h4⟩ := wF0 h rows (fun r hr' => hr r (lW _ hr'))
  refine ⟨x :: M, by simp [h2], by simp [h3], fun y hy => ?_⟩
  rcases List.mem_cons.1 hy with rfl | hy
  ·exact h1
  ·exact h4 y hy
theorem yJ5 {w : World} {size n : Nat} {A : Option Addr} {xs : List Value} (h : Rd w size A n xs) : jH6 A n := fun hn => by
 obtain ⟨g, o, h1, _⟩ := h.2.2 hn
 exact ⟨g, o, h1⟩
theorem yX6 {w : World} {size n : Nat} {A : Option Addr} {xs : List Value} (h : Rd w size A n xs) (hn : 0 < n) : Sat w [] (roE A xs) w := by
 obtain ⟨g, o, rfl, h1, h2⟩ := h.2.2 hn
 exact ⟨Only.refl _ _, fun e he => by rw [List.mem_singleton.1 he]; exact ⟨⟨h1, h2⟩, fun h => by cases h⟩, List.pairwise_singleton _ _⟩
end
section
open Go.RowKit Go.ChangeShapes Go.WideShapes Go.ChangeAt Go.Joins
end
section
open Go.RowKit
set_option maxRecDepth 100000
def cmpQ (a b : Nat) : Int := if a < b then -1 else if b < a then 1 else 0
theorem yH6 (a : Nat) : Fn Tryz.prog 95 [uq a] [] fun v _ => v = .bool false := by
 refine Fn.enter (N := 6) Tryz.func95 rfl (by kernel_rfl) rfl (fun w0 => ?_)
 refine aA rfl rfl <| f1K 0 rfl <| aR fun Z hZ => sM rfl rfl <| sM rfl rfl <| jC7 ?_
 refine sAN hZ rfl rfl ?_
 refine f1K 2 rfl ?_
 refine aE ?_
 exact nR1 rfl rfl (congrArg Value.bool (by simp))
theorem zF5 (a b : Nat) : Fn Tryz.prog 40 [uq a, uq b] [] fun v _ => v = iq (cmpQ a b) := by
 refine Fn.enter (N := 20) Tryz.func40 rfl (by kernel_rfl) rfl (fun w0 => ?_)
 refine aA rfl rfl <| f2K 0 1 rfl <| aR fun Z hZ => sM rfl rfl <| sCP0 (yH6 a) ?_
 refine sAN hZ rfl rfl <| f3K 0 1 5 rfl <| aR fun Z hZ => sM rfl rfl <| sCP0 (yH6 b) ?_
 refine sAN hZ rfl rfl <| f4K 0 1 5 6 rfl <| aS <| aR fun Z hZ => sMN hZ rfl rfl <| f4K 0 1 6 11 rfl <| aC0 (fun h => ?_) (fun h => ?_)
 ·cases h
 refine aK <| nN <| aS <| aR fun Z hZ => sMN hZ rfl rfl <| f3K 0 1 13 rfl <| aC0 (fun h1 => ?_) (fun h1 => ?_)
 ·cases h1
 refine aK <| nN <| aS <| aR fun Z hZ => sM rfl rfl <| sM rfl rfl <| jB2 ?_
 refine sN (hZ _ _ <| f3K 0 1 16 rfl <| aC0 (fun h2 => ?_) (fun h2 => ?_))
 ·have h2' : a < b := by simp at h2; omega
  rw [show cmpQ a b = -1 by unfold cmpQ; rw [if_pos h2']]
  refine aA rfl rfl <| f1K 4 rfl <| aE ?_
  repeat refine nTR ?_
  exact nR10 rfl
 have h2' : ¬ a < b := by simp at h2; omega
 refine aK <| nN <| aS <| aR fun Z hZ => sM rfl rfl <| sM rfl rfl <| jC4 ?_
 refine sN (hZ _ _ <| f1K 19 rfl <| aC0 (fun h3 => ?_) (fun h3 => ?_))
 ·have h3' : b < a := by simp at h3; omega
  rw [show cmpQ a b = 1 by unfold cmpQ; rw [if_neg h2', if_pos h3']]
  refine aA rfl rfl <| f1K 4 rfl <| aE ?_
  repeat refine nTR ?_
  exact nR10 rfl
 have h3' : ¬ b < a := by simp at h3; omega
 rw [show cmpQ a b = 0 by unfold cmpQ; rw [if_neg h2', if_neg h3']]
 refine aK <| nN <| aA rfl rfl <| f1K 4 rfl <| aE <| nR10 rfl
theorem cmpQ_lt {a b : Nat} : cmpQ a b < 0 ↔ a < b := by
 unfold cmpQ
 repeat' split
 all_goals omega
theorem cmpQ_eq {a b : Nat} : cmpQ a b = 0 ↔ a = b := by
 unfold cmpQ
 repeat' split
 all_goals omega
theorem yH5 (a : Nat) (W : World) : Calls Tryz.prog 95 #[uq a] W fun e w' => e = .returned (.bool false) ∧ w' = W := by
 go_enter Tryz.func95, Tryz.ntmps95
 go_wp2
 go_ret
 exact ⟨rfl, rfl⟩
theorem yJ0 (a b : Nat) (W : World) : Calls Tryz.prog 40 #[uq a, uq b] W fun e w' => e = .returned (iq (cmpQ a b)) ∧ w' = W := by
 have h1 := yH5 a
 have h2 := yH5 b
 by_cases hab : a < b
 ·rw [show cmpQ a b = -1 by unfold cmpQ; rw [if_pos hab]]
  go_enter Tryz.func40, Tryz.ntmps40
  go_wp2_with (first | (go_at_call 95; refine (h1 _).mono ?_; rintro e w' ⟨rfl, rfl⟩) | (go_at_call 95; refine (h2 _).mono ?_; rintro e w' ⟨rfl, rfl⟩))
  go_ret
  exact ⟨rfl, rfl⟩
 ·by_cases hba : b < a
  ·rw [show cmpQ a b = 1 by unfold cmpQ; rw [if_neg hab, if_pos hba]]
   go_enter Tryz.func40, Tryz.ntmps40
   go_wp2_with (first | (go_at_call 95; refine (h1 _).mono ?_; rintro e w' ⟨rfl, rfl⟩) | (go_at_call 95; refine (h2 _).mono ?_; rintro e w' ⟨rfl, rfl⟩))
   go_ret
   exact ⟨rfl, rfl⟩
  ·rw [show cmpQ a b = 0 by unfold cmpQ; rw [if_neg hab, if_neg hba]]
   go_enter Tryz.func40, Tryz.ntmps40
   go_wp2_with (first | (go_at_call 95; refine (h1 _).mono ?_; rintro e w' ⟨rfl, rfl⟩) | (go_at_call 95; refine (h2 _).mono ?_; rintro e w' ⟨rfl, rfl⟩))
   go_ret
   exact ⟨rfl, rfl⟩
end
section
open Go.RowKit
theorem zI5 : Lays.n129 Tryz.prog jM4 where
 mixed := by kernel_rfl
 f129 := by kernel_rfl
 t3 := by kernel_rfl
 a3 := fun w => by kernel_rfl
 z3 := fun w => by kernel_rfl
 v3 := fun w => by kernel_rfl
 t4 := by kernel_rfl
 a4 := fun w => by kernel_rfl
 z4 := fun w => by kernel_rfl
 v4 := fun w => by kernel_rfl
 t5 := by kernel_rfl
 a5 := fun w => by kernel_rfl
 z5 := fun w => by kernel_rfl
 v5 := fun w => by kernel_rfl
 t9 := by kernel_rfl
 a9 := fun w => by kernel_rfl
 z9 := fun w => by kernel_rfl
 v9 := fun w => by kernel_rfl
 t46 := by kernel_rfl
 a46 := fun w => by kernel_rfl
 z46 := fun w => by kernel_rfl
 v46 := fun w => by kernel_rfl
 t53 := by kernel_rfl
 a53 := fun w => by kernel_rfl
 z53 := fun w => by kernel_rfl
 v53 := fun w => by kernel_rfl
theorem vY6 : Enters Tryz.prog 136 := Enters.mk Tryz.func136 (by kernel_rfl) (by kernel_rfl)
theorem yW6 (n : Nat) (h : n < 18446744073709551616) : Fn Tryz.prog 136 [uq n] [] fun v _ => v = iq (Lib.bitLen n) :=
 Fn.of_bel vY6 fun w => (Any.bits_Len64 zI5 n w (by omega) (by omega)).mono fun e w' ⟨he, hw⟩ => ⟨he, hw ▸ Bel.refl w⟩
structure It where
 id : Nat
 tx : List UInt8
abbrev It.cells (e : It) : List Value := [uq e.id, .string (str e.tx)]
abbrev It.val (e : It) : Value := .agg e.cells.toArray
abbrev jA2 (L : List It) : List Value := L.flatMap It.cells
theorem vF1 (e : It) : e.cells.length = 2 := rfl
theorem jG1 (L : List It) : (jA2 L).length = L.length * 2 := kD6 vF1 L
theorem jK9 {L : List It} {i : Nat} {x : It} (h : L[i]? = some x) : rdV true 2 (jA2 L) (i * 2) = some x.val := wL7 vF1 h
theorem jO6 {L : List It} {i : Nat} {x : It} (h : L[i]? = some x) : rdV false 1 (jA2 L) (i * 2) = some (uq x.id) := by have := vF5 (j := 0) vF1 h rfl; simpa using this
theorem jV8 {L : List It} {i : Nat} {x : It} (h : L[i]? = some x) : rdV false 1 (jA2 L) (i * 2 + 1) = some (.string (str x.tx)) := vF5 (j := 1) vF1 h rfl
theorem jX8 (L : List It) : (jA2 L).all Value.oneCell' = true := List.all_eq_true.2 fun v hv => by
 obtain ⟨e, _, he⟩ := List.mem_flatMap.1 hv
 simp only [It.cells, lY, List.not_mem_nil, or_false] at he
 rcases he with rfl | rfl <;> rfl
theorem kN9 {L : List It} {k : Nat} {x : It} (h : L[k]? = some x) : jA2 (L.take (k + 1)) = jA2 (L.take k) ++ x.cells := yT7 h
theorem vG0 : ElemOk Tryz.prog 28 53 2 24 := ElemOk.mk_ (z := .agg #[uq 0, .string ⟨#[]⟩]) Tryz.underlying28 (by kernel_rfl) rfl (by omega)
theorem kO6 : ElemOk Tryz.prog 22 51 2 24 := ElemOk.mk_ (z := .agg #[uq 0, .string ⟨#[]⟩]) Tryz.underlying22 (by kernel_rfl) rfl (by omega)
def yX9 (L : List It) : Prop := ∀ e ∈ L, e.id < 18446744073709551616
theorem yH2 (e : It) (k : Nat) : Fn Tryz.prog 97 [e.val, uq k] [] fun v _ => v = iq (cmpQ e.id k) := by
 refine Fn.enter (N := 9) Tryz.func97 rfl (by kernel_rfl) rfl (fun w0 => ?_)
 refine aR (fun Z hZ => jB5 (fun g1 => ?_))
 refine sAN hZ rfl rfl <| f2K 1 2 rfl <| aR (fun Z hZ => sFA0 jZ2 ?_)
 first | refine sL0 0 tyA25 tyS25 ?_
 refine sM rfl rfl <| sCP0 (zF5 e.id k) ?_
 refine sAN hZ rfl rfl <| f1K 4 rfl <| aE <| nR10 rfl
def jE1 (k : Nat) (s : List UInt8) (full : Bool) : Nat := if 6004799503160661 ≤ k then 8 else if s = [] then 2 else if 65536 < s.length then 5 else if full then 7 else 0
theorem vO5 (k : Nat) (s : List UInt8) (full : Bool) : Fn Tryz.prog 37 [uq k, .string (str s), .bool full] [] fun v _ => v = iq (jE1 k s full) := by
 refine Fn.enter (N := 19) Tryz.func37 rfl (by kernel_rfl) rfl (fun w0 => ?_)
 refine aA rfl rfl <| f3K 0 1 2 rfl <| aS (aB <| aR fun Z hZ => sM rfl rfl <| jO3 rfl rfl rfl <| sAN hZ rfl rfl <| f3K 1 2 7 rfl <| aC0 (fun h => ?_) (fun h => ?_))
 ·have h' : 6004799503160661 ≤ k := by simp at h; omega
  rw [show jE1 k s full = 8 by unfold jE1; rw [if_pos h']]
  refine aA rfl rfl <| f1K 6 rfl <| aE ?_
  repeat (with_reducible (first | refine nTR ?_ | refine nBR ?_))
  exact nR10 rfl
 have h' : ¬ 6004799503160661 ≤ k := by simp at h; omega
 refine aR fun Z hZ => sM rfl rfl <| jU4 rfl rfl rfl <| sAN hZ rfl rfl <| f3K 1 2 10 rfl <| aC0 (fun h1 => ?_) (fun h1 => ?_)
 ·have h1' : s = [] := by simpa using h1
  rw [show jE1 k s full = 2 by unfold jE1; rw [if_neg h', if_pos h1']]
  refine aA rfl rfl <| f1K 6 rfl <| aE ?_
  repeat (with_reducible (first | refine nTR ?_ | refine nBR ?_))
  exact nR10 rfl
 have h1' : ¬ s = [] := by simpa using h1
 refine aR fun Z hZ => sM rfl rfl <| jD6 Tryz.underlying9 rfl rfl <| jC4 ?_
 refine sAN hZ rfl rfl <| f2K 2 13 rfl <| aC0 (fun h2 => ?_) (fun h2 => ?_)
 ·have h2' : 65536 < s.length := by simp at h2; omega
  rw [show jE1 k s full = 5 by unfold jE1; rw [if_neg h', if_neg h1', if_pos h2']]
  refine aA rfl rfl <| f1K 6 rfl <| aE ?_
  repeat (with_reducible (first | refine nTR ?_ | refine nBR ?_))
  exact nR10 rfl
 have h2' : ¬ 65536 < s.length := by simp at h2; omega
 refine aR fun Z hZ => sM rfl rfl <| sAN hZ rfl rfl <| f1K 17 rfl <| aC0 (fun h3 => ?_) (fun h3 => ?_)
 ·rw [show jE1 k s full = 7 by unfold jE1; rw [if_neg h', if_neg h1', if_neg h2', if_pos h3]]
  refine aA rfl rfl <| f1K 6 rfl <| aE ?_
  repeat (with_reducible (first | refine nTR ?_ | refine nBR ?_))
  exact nR10 rfl
 rw [show jE1 k s full = 0 by unfold jE1; rw [if_neg h', if_neg h1', if_neg h2', h3]; rfl]
 refine aK ?_
 repeat refine nBN ?_
 refine nN <| aA rfl rfl <| f1K 6 rfl <| aE <| nR10 rfl
end
section
open Go.RowKit
def cLo (k : Nat) : List It → Nat
 | [] => 0
 | e :: r => if e.id < k then cLo k r + 1 else 0
def itAt (L : List It) (i : Nat) : It := (L[i]?).getD ⟨0, []⟩
theorem jN9 {L : List It} {i : Nat} (h : i < L.length) : L[i]? = some (itAt L i) := by simp [itAt, xC h]
def Rise (L : List It) : Prop := L.Pairwise (fun a b => a.id < b.id)
theorem yO7 {L : List It} (h : Rise L) {i j : Nat} (hij : i < j) (hj : j < L.length) : (itAt L i).id < (itAt L j).id := by
 have := List.pairwise_iff_getElem.1 h i j (by omega) hj hij
 simpa [itAt, xC hj, xC (show i < L.length by omega)] using this
theorem vU6 (k : Nat) : ∀ (L : List It) (p : Nat), p ≤ L.length → (∀ i, i < p → (itAt L i).id < k) → (p < L.length → k ≤ (itAt L p).id) → cLo k L = p
 | [], p, hp, _, _ => by simp at hp; rw [hp]; rfl
 | e :: r, 0, _, _, h => by
  have h1 : k ≤ e.id := h (by simp)
  rw [cLo, if_neg (by omega)]
 | e :: r, p + 1, hp, h1, h2 => by
  have e1 : ∀ j, itAt (e :: r) (j + 1) = itAt r j := fun j => by simp [itAt]
  have h3 : e.id < k := h1 0 (by omega)
  rw [cLo, if_pos h3, vU6 k r p (by simpa using hp) (fun i hi => by rw [← e1]; exact h1 (i + 1) (by omega)) (fun hl => by rw [← e1]; exact h2 (by simpa using hl))]
theorem kE3 (k : Nat) : ∀ (L : List It), cLo k L ≤ L.length ∧ (∀ i, i < cLo k L → (itAt L i).id < k) ∧ (cLo k L < L.length → k ≤ (itAt L (cLo k L)).id)
 | [] => ⟨xB _, fun i hi => by simp [cLo] at hi, fun h => by simp at h⟩
 | e :: r => by
  obtain ⟨h1, h2, h3⟩ := kE3 k r
  have e1 : ∀ j, itAt (e :: r) (j + 1) = itAt r j := fun j => by simp [itAt]
  rw [cLo]
  by_cases h : e.id < k
  ·rw [if_pos h]
   refine ⟨by simpa using h1, fun i hi => ?_, fun hl => ?_⟩
   ·cases i with
    | zero => exact h
    | succ i => rw [e1]; exact h2 i (by omega)
   ·rw [e1]; exact h3 (by simpa using hl)
  ·rw [if_neg h]
   exact ⟨xD _, fun i hi => by omega, fun _ => by show k ≤ e.id; omega⟩
def cHas (k : Nat) (L : List It) : Bool := decide (cLo k L < L.length ∧ (itAt L (cLo k L)).id = k)
theorem zI7 (A : Option Addr) (c : Nat) (L : List It) (T : Heap) (hA : jH6 A L.length) (hT : 0 < L.length → T = roE A (jA2 L)) (hL : L.length ≤ 1000000) (hr : Rise L) (k : Nat) :
  Fn Tryz.prog 96 [.slice A L.length c, uq k, .func (.func 97) #[] #[]] T fun v _ => v = .tuple #[iq (cLo k L), .bool (cHas k L)] := by
 refine Fn.enter (N := 49) Tryz.func96 rfl (by kernel_rfl) rfl (fun w0 => ?_)
 refine aR fun Z hZ => sA rfl rfl <| sAN hZ rfl rfl <| f3K 0 1 2 rfl <| aR fun Z hZ => sM rfl rfl <| jE2 Tryz.underlying28 rfl rfl <| sAN hZ rfl rfl <| f4K 0 1 2 8 rfl <| aR fun Z hZ => sM rfl rfl <| sA rfl rfl <| sAN hZ rfl rfl <| f6K 0 1 2 8 9 10 rfl <| jJ7 (ι := Unit) (fun _ => [(0, .slice A L.length c), (1, uq k), (2, .func (.func 97) #[] #[]), (8, iq (L.length : Nat)), (9, iq (cLo k L : Nat))]) (fun _ => T) (fun _ => True) ?_ ?_
 ·refine aB ?_
  refine jB9 (ι := Nat × Nat) (fun i => [(0, .slice A L.length c), (1, uq k), (2, .func (.func 97) #[] #[]), (8, iq (L.length : Nat)), (9, iq (i.1 : Nat)), (10, iq (i.2 : Nat))]) (fun _ => T)
   (fun i => i.1 ≤ i.2 ∧ i.2 ≤ L.length ∧ (∀ j, j < i.1 → (itAt L j).id < k) ∧ (i.2 < L.length → k ≤ (itAt L i.2).id)) (fun i => i.2 - i.1) (0, L.length) ⟨by simp, by simp, fun j hj => by omega, fun h => by omega⟩ (kR rfl) (HLe.refl _) ?_
  rintro ⟨p, q⟩ ⟨h1, h2, h3, h4⟩
  simp only at h1 h2 h3 h4
  refine aS <| aR fun Z hZ => sM rfl rfl <| sM rfl rfl <| jB2 ?_
  refine sN (hZ _ _ <| f7K 0 1 2 8 9 10 17 rfl <| aC0 (fun h => ?_) (fun h => ?_))
  ·have hlt : p < q := by simpa using h
   obtain ⟨m, hm⟩ := xZ9 ((p + q) / 2)
   have hx := jN9 (L := L) (i := m) (by omega)
   obtain ⟨g, o, rfl⟩ := hA (by omega)
   obtain rfl := hT (by omega)
   refine aK ?_
   refine nN ?_
   refine aB ?_
   refine aR fun Z hZ => sM rfl rfl <| sM rfl rfl ?_
   refine jC2 rfl rfl ((p + q : Nat) : Int) (by rw [lT _ (by omega)]; omega) rfl ?_
   refine jB7 Tryz.underlying3 Tryz.underlying186 rfl ((p + q : Nat) : Int) (by rw [l6 _ (by omega)]) rfl ?_
   refine kH5 rfl rfl (by decide) ((m : Nat) : Int) (by show ((p + q : Nat) : Int).fdiv 2 = _; rw [Int.fdiv_eq_ediv_of_nonneg _ (by omega)]; omega) rfl ?_
   refine jB7 Tryz.underlying186 Tryz.underlying3 rfl ((m : Nat) : Int) (by rw [lT _ (by omega)]) rfl ?_
   refine sAN hZ rfl rfl <| f7K 0 1 2 8 9 10 11 rfl <| aR fun Z hZ => sM rfl rfl <| sM rfl rfl <| sM rfl rfl <| jB3 (o + m * 2) Tryz.underlying28 tyS53 rfl rfl (by omega) (by simp) rfl ?_
   refine jB4 0 rfl rfl (m * 2) rfl tyA53 tyS53 (jK9 hx) rfl <| sM rfl rfl <| jU7 (caps := []) (vs := [(itAt L m).val, uq k]) [] (yH2 (itAt L m) k) rfl rfl (HLe.sub (lN _)) Ro.nil rfl <| jB2 ?_
   refine sN (hZ _ _ <| f8K 0 1 2 8 9 10 11 31 rfl <| aC0 (fun h5 => ?_) (fun h5 => ?_))
   ·have hle : (itAt L m).id < k := cmpQ_lt.1 (by simpa using h5)
    refine aG (fun Z hZ => ?_)
    refine sM rfl rfl ?_
    refine jC2 rfl rfl ((m + 1 : Nat) : Int) (by rw [lT _ (by omega)]; omega) rfl ?_
    refine sAN hZ rfl rfl <| nF [(0, _), (1, _), (2, _), (8, _), (9, _), (10, _)] (kR rfl) ?_
    repeat refine nBN ?_
    refine jB8 (m + 1, q) ⟨by show m + 1 ≤ q; omega, h2, fun j hj => ?_, h4⟩ (by show q - (m + 1) < q - p; omega) (kR rfl) (HLe.refl _)
    rcases xP j m with hjm | hjm
    ·have := yO7 hr hjm (by omega)
     omega
    ·obtain rfl : j = m := by simp only at hj; omega
     exact hle
   ·have hgt : k ≤ (itAt L m).id := by
     have : ¬ cmpQ (itAt L m).id k < 0 := by simpa using h5
     rw [cmpQ_lt] at this
     omega
    refine aG (fun Z hZ => sM rfl rfl <| sAN hZ rfl rfl <| nF [(0, _), (1, _), (2, _), (8, _), (9, _), (10, _)] (kR rfl) ?_)
    repeat refine nBN ?_
    exact jB8 (p, m) ⟨by show p ≤ m; omega, by show m ≤ _; omega, h3, fun _ => hgt⟩ (by show m - p < q - p; omega) (kR rfl) (HLe.refl _)
  ·have hge : p = q := by simp at h; omega
   subst hge
   have := vU6 k L p h2 h3 h4
   refine jB1 ?_
   repeat refine nTE ?_
   refine nBE <| jE4 () trivial (Kn.cons rfl (Kn.cons rfl (Kn.cons rfl (Kn.cons rfl (Kn.cons (by rw [this]; rfl) Kn.nil))))) (HLe.refl _)
 rintro ⟨⟩ -
 obtain ⟨f1, f2, f3⟩ := kE3 k L
 obtain ⟨p, hp⟩ := xZ9 (cLo k L)
 have hv : cHas k L = decide (p < L.length ∧ (itAt L p).id = k) := by unfold cHas; rw [hp]
 rw [hv, hp]
 by_cases hlt : p < L.length
 ·have hx := jN9 hlt
  obtain ⟨g, o, rfl⟩ := hA (by omega)
  obtain rfl := hT (by omega)
  refine jA3 [(6, iq (p : Nat)), (7, .bool (decide (p < L.length ∧ (itAt L p).id = k)))] [] (fun Z hZ => ?_) ?_
  ·refine sM rfl rfl <| sM rfl rfl <| sM rfl rfl <| jB2 ?_
   refine sM rfl rfl <| jE5 39 rfl true (by simpa using hlt) ?_
   refine sOn0 ?_
   refine sM rfl rfl <| sOn0 ?_
   refine sM rfl rfl <| sOn0 ?_
   refine sM rfl rfl <| sOn0 ?_
   refine jB3 (o + p * 2) Tryz.underlying28 tyS53 rfl rfl (by omega) (by simp) rfl ?_
   refine sOn0 ?_
   refine jB4 0 rfl rfl (p * 2) rfl tyA53 tyS53 (jK9 hx) rfl <| sOn0 ?_
   refine sM rfl rfl <| sOn0 ?_
   refine jU7 (caps := []) (vs := [(itAt L p).val, uq k]) [] (yH2 (itAt L p) k) rfl rfl (HLe.sub (lN _)) Ro.nil rfl <| sOn0 ?_
   refine jB0 ?_
   refine sP rfl rfl rfl <| sA rfl rfl <| sA rfl rfl <| sN (hZ _ _ ?_ ?_)
   ·exact Kn.cons rfl (Kn.cons (congrArg some (congrArg Value.bool (by rw [lR]; simp [hlt, cmpQ_eq]))) Kn.nil)
   ·exact HLe.sub (lN _)
  refine aE <| jF8 rfl rfl rfl rfl
 ·refine jA3 [(6, iq (p : Nat)), (7, .bool (decide (p < L.length ∧ (itAt L p).id = k)))] [] (fun Z hZ => ?_) ?_
  ·refine sM rfl rfl <| sM rfl rfl <| sM rfl rfl <| jB2 ?_
   refine sM rfl rfl <| jE5 39 rfl false (by simpa using hlt) ?_
   refine sO0 ?_
   refine sO0 ?_
   refine sO0 ?_
   refine sO0 ?_
   refine sO0 ?_
   refine sO0 ?_
   refine sO0 ?_
   refine sO0 ?_
   refine sP rfl rfl rfl <| sA rfl rfl <| sA rfl rfl <| sN (hZ _ _ ?_ ?_)
   ·exact Kn.cons rfl (Kn.cons (congrArg some (congrArg Value.bool (by rw [lR]; simp [hlt]))) Kn.nil)
   ·exact HLe.sub (lN _)
  refine aE <| jF8 rfl rfl rfl rfl
abbrev chV (A : Option Addr) (n c : Nat) : Value := .agg #[.slice A n c]
theorem wY0 (A : Option Addr) (c : Nat) (L : List It) (T : Heap) (hA : jH6 A L.length) (hT : 0 < L.length → T = roE A (jA2 L)) (hro : Ro T) (hL : L.length ≤ 1000000) (hr : Rise L) (k : Nat) :
  Fn Tryz.prog 42 [chV A L.length c, uq k] T fun v _ => v = .tuple #[iq (cLo k L), .bool (cHas k L)] := by
 refine Fn.enter (N := 12) Tryz.func42 rfl (by kernel_rfl) rfl (fun w0 => ?_)
 refine aR (fun Z hZ => jB5 (fun g1 => ?_))
 refine sA rfl rfl <| sAN hZ rfl rfl <| f2K 1 2 rfl <| aR (fun Z hZ => sFA0 jO7 ?_)
 first | refine sL0 0 tyA28 tyS28 ?_
 refine sM rfl rfl <| jD1 T (zI7 A c L T hA hT hL hr k) rfl (x4 _ _) hro rfl <| sX rfl rfl rfl <| sX rfl rfl rfl <| sA rfl rfl <| sAN hZ rfl rfl <| f2K 4 5 rfl <| aE <| jF8 rfl rfl rfl rfl
end
section
open Go.RowKit
theorem wS7 {T K A : Heap} (h : Wrs T) : HLe T (A ++ (T.filter Ent.wr ++ K)) := by
 rw [h.filter]
 exact HLe.sub ((lS T K).trans (lP A _))
def cGet (k : Nat) (L : List It) : List UInt8 := if cHas k L then (itAt L (cLo k L)).tx else []
theorem zD3 (A : Option Addr) (n c : Nat) : Fn Tryz.prog 61 [chV A n c] [] fun v _ => v = iq (n : Nat) := by
 refine Fn.enter (N := 6) Tryz.func61 rfl (by kernel_rfl) rfl (fun w0 => ?_)
 refine aR (fun Z hZ => jB5 (fun g1 => ?_))
 refine sAN hZ rfl rfl <| f1K 1 rfl <| aR (fun Z hZ => sFA0 jO7 ?_)
 first | refine sL0 0 tyA28 tyS28 ?_
 refine jE2 Tryz.underlying28 rfl rfl <| sAN hZ rfl rfl <| f1K 2 rfl <| aE <| nR10 rfl
def jF2 (L : List It) : Nat := (L.map fun e => e.tx.length).sum
theorem vN7 {L : List It} {k : Nat} {x : It} (h : L[k]? = some x) : jF2 (L.take (k + 1)) = jF2 (L.take k) + x.tx.length := by
 rw [List.take_add_one, h]
 simp [jF2]
theorem wQ0 (L : List It) (k : Nat) : jF2 (L.take k) ≤ jF2 L := by
 have : jF2 L = jF2 (L.take k) + jF2 (L.drop k) := by
  simp only [jF2]
  rw [← List.sum_append, ← x8, List.take_append_drop]
 omega
theorem wK6 (A : Option Addr) (c : Nat) (L : List It) (T : Heap) (hA : jH6 A L.length) (hT : 0 < L.length → T = roE A (jA2 L)) (hnil : A = none → L.length = 0) (hro : Ro T) (hL : L.length ≤ 100000) :
  Fn Tryz.prog 36 [.slice A L.length c] T fun v H' => RowOk v L.length ∧ H' = rowE v 53 2 (jA2 L) := by
 refine Fn.enter (N := 8) Tryz.func36 rfl (by kernel_rfl) rfl (fun w0 => ?_)
 refine aA rfl rfl <| f1K 0 rfl <| aS <| aR fun Z hZ => sM rfl rfl <| kB9 Tryz.underlying28 rfl rfl <| sN (hZ _ _ <| f2K 0 4 rfl <| aC0 (fun h => ?_) (fun h => ?_))
 ·have h0 : A = none := by simpa using h
  have hl := hnil h0
  refine aA rfl rfl <| f1K 2 rfl <| aE ?_
  repeat refine nTR ?_
  have hLn : L = [] := List.length_eq_zero_iff.1 hl
  subst hLn
  exact jC1 [] rfl rfl (HLe.sub (lN _)) ⟨RowOk.nil, rfl⟩
 refine aK <| nN <| aR (fun Z hZ => jI4 Tryz.underlying28 tyS53 rfl (fun g => jC3 (T ++ rowE (.slice (some ⟨g, 0, none⟩) 0 0) 53 2 []) ((HLe.swap _ _).trans (HLe.ownRow [] T rfl (xD _))) <| sM rfl rfl <| jC9 T vG0 rfl (RowOk.mk g 0 0) rfl rfl (fun w hw => vQ7 hA hT (jG1 L) hnil (HLe.sub (lS _ _)) hw) (jX8 L) (by show _ ≤ 9223372036854775807; omega) (by omega) (HLe.refl _) rfl (fun v2 hv2 => ?_)))
 rw [lD]
 rw [lA] at hv2
 refine sAN hZ rfl rfl <| f1K 2 rfl <| aE <| jC1 _ rfl rfl (HLe.sub (lP _ _)) ⟨hv2, rfl⟩
theorem yA7 (A : Option Addr) (c : Nat) (L : List It) (T : Heap) (hA : jH6 A L.length) (hT : 0 < L.length → T = roE A (jA2 L)) (hnil : A = none → L.length = 0) (hro : Ro T) (hL : L.length ≤ 100000) :
  Fn Tryz.prog 15 [chV A L.length c] T fun v H' => RowOk v L.length ∧ H' = rowE v 53 2 (jA2 L) := by
 refine Fn.enter (N := 6) Tryz.func15 rfl (by kernel_rfl) rfl (fun w0 => ?_)
 refine aR (fun Z hZ => jB5 (fun g1 => ?_))
 refine sAN hZ rfl rfl <| f1K 1 rfl <| aR (fun Z hZ => sFA0 jO7 ?_)
 first | refine sL0 0 tyA28 tyS28 ?_
 refine kM5 T (wK6 A c L T hA hT hnil hro hL) rfl (x4 _ _) hro rfl (fun v hv => sAN hZ rfl rfl <| f1K 2 rfl <| aE <| jC1 _ rfl rfl (HLe.sub (lS _ _)) ⟨hv, rfl⟩)
theorem yD4 (A : Option Addr) (n c : Nat) : Fn Tryz.prog 46 [chV A n c] [] fun v H' => ∃ g, v = .func (.func 98) #[] #[ptr g 0] ∧ H' = [.own g 30 [.slice A n c]] := by
 refine Fn.enter (N := 4) Tryz.func46 rfl (by kernel_rfl) rfl (fun w0 => ?_)
 refine aR (fun Z hZ => jB5 (fun g1 => ?_))
 refine sAN hZ rfl rfl <| f1K 1 rfl <| aR (fun Z hZ => jH1 rfl rfl <| sAN hZ rfl rfl <| f1K 2 rfl <| aE <| jC1 _ rfl rfl (HLe.refl _) ⟨g1, rfl, rfl⟩)
theorem yD3 (g : Nat) (A : Option Addr) (cp : Nat) (L : List It) (T : Heap) (hA : jH6 A L.length) (hT : 0 < L.length → T = roE A (jA2 L)) (hL : L.length ≤ 100000) :
  Iter Tryz.prog 98 [ptr g 0] (.ro g 0 [.slice A L.length cp] :: T) (L.map fun e => [uq e.id, .string (str e.tx)]) := by
 intro l J Jr S hJ hS hJr hY T0 hT0
 have hlen : (L.map fun e => [uq e.id, .string (str e.tx)]).length = L.length := by simp
 rw [hlen]
 refine Fn.enter (N := 20) Tryz.func98 rfl (by kernel_rfl) rfl (fun w0 => ?_)
 refine jA6 (.ro g 0 [.slice A L.length cp] :: (T ++ (T0 ++ Jr))) (HLe.refl _) <| aR (fun Z hZ => sFA0 jO7 ?_)
 refine jB4 0 rfl rfl 0 rfl tyA28 tyS28 rfl rfl <| jE2 Tryz.underlying28 rfl rfl <| sMN hZ rfl rfl <| f4K 0 6 7 8 rfl <| aB ?_
 refine jB9 (ι := Nat × Heap) (fun i => [(0, .func (.yield l) #[] #[]), (6, .slice A L.length cp), (7, iq (L.length : Nat)), (8, iq (i.1 : Nat))]) (fun i => T ++ (i.2 ++ Jr))
  (fun i => i.1 ≤ L.length ∧ J i.1 i.2) (fun i => L.length - i.1) (0, T0) ⟨by simp, hT0⟩ (kR rfl) (HLe.drop 1 rfl) ?_
 rintro ⟨i, T3⟩ ⟨hi, hT3⟩
 simp only at hi hT3
 refine aR (fun Z hZ => jB2 ?_)
 refine sN (hZ _ _ <| f5K 0 6 7 8 9 rfl <| aS (aC0 (fun hh => ?_) (fun hh => ?_)))
 ·have hlt : i < L.length := by simpa using hh
  have hx := jN9 hlt
  obtain ⟨ga, o, rfl⟩ := hA (by omega)
  obtain rfl := hT (by omega)
  refine jA6 (.ro ga o (jA2 L) :: (T3 ++ Jr)) (HLe.refl _) <| aK <| nN <| aS (aB <| aR (fun Z hZ => jB3 (o + i * 2) Tryz.underlying28 tyS53 rfl rfl (by omega) (by simp) rfl ?_))
  refine jB4 0 rfl rfl (i * 2) rfl tyA53 tyS53 (jK9 hx) rfl <| sAl tyZ53 rfl (fun g1 => sS0 0 tyS53 ?_)
  refine sN (hZ _ _ <| f5K 0 4 6 7 8 rfl <| jM2 (fun Z hZ => sy_x rfl <| sM rfl rfl <| sN <| sy_x rfl <| sFA0 jZ2 ?_))
  refine sN <| sy_x rfl <| sL0 0 tyA25 tyS25 ?_
  refine sN <| sy_x rfl <| sFA0 wB2 ?_
  refine sN <| sy_x rfl <| sL0 0 tyA9 tyS9 ?_
  refine sN <| kB8 [_, _] T3 Jr Jr (hY i _ T3 (by simp [hx]) hT3) rfl rfl rfl (xU _) hJr rfl ?_
  rintro v T4 ⟨b, rfl, hb1, hb2⟩
  refine sy_x rfl <| jI8 rfl rfl <| sN <| vB7 (hZ _ _ <| f5K 0 6 7 8 18 rfl <| aC0 (fun h3 => ?_) (fun h3 => ?_))
  ·have hb : b = false := by simpa using h3
   refine aE ?_
   repeat (with_reducible (first | refine nTR ?_ | refine nBR ?_))
   exact jK3 T4 rfl (wS7 (A := [_, _]) (hS T4 (hb2 hb))) (.inr (hb2 hb))
  have hb : b = true := by simpa using h3
  have hT4 := hb1 hb
  rw [(hJ _ T4 hT4).filter]
  refine aK ?_
  repeat refine nBN ?_
  refine nN ?_
  refine aG (fun Z hZ => ?_)
  refine jC2 rfl rfl ((i + 1 : Nat) : Int) (by rw [lT _ (by omega)]; omega) rfl ?_
  refine sMN hZ rfl rfl <| nF [(0, _), (6, _), (7, _), (8, _)] (kR rfl) <| jB8 (i + 1, T4) ⟨by show i + 1 ≤ _; omega, hT4⟩ (by simp; omega) (kR rfl) (HLe.drop 1 rfl)
 ·have hie : i = L.length := by simp at hh; omega
  subst hie
  refine jB1 ?_
  repeat refine nTE ?_
  refine nBE <| jH5 T3 rfl (HLe.sub ((lS T3 Jr).trans (lP T _))) (.inl hT3)
end
section
open Go.RowKit
def itq (a b : It) : Bool := (a.id == b.id) && (a.tx == b.tx)
def jP0 : List It → List It → Bool
 | [], [] => true
 | a :: r, b :: s => itq a b && jP0 r s
 | _, _ => false
theorem yT0 {a b : It} : itq a b = true ↔ a = b := by
 obtain ⟨a1, a2⟩ := a
 obtain ⟨b1, b2⟩ := b
 simp [itq]
theorem sameI_iff : ∀ {L M : List It}, jP0 L M = true ↔ L = M
 | [], [] => by simp [jP0]
 | a :: r, b :: s => by simp [jP0, yT0, sameI_iff (L := r) (M := s)]
 | [], b :: s => by simp [jP0]
 | a :: r, [] => by simp [jP0]
theorem vD3 : ∀ {L M : List It}, jP0 L M = true → L.length = M.length := fun h => by rw [sameI_iff.1 h]
theorem zI3 (a b : It) : EqV Tryz.prog 10000 53 a.val b.val (itq a b) := by
 have h : EqV Tryz.prog 10000 53 a.val b.val _ := EqV.struct Tryz.underlying53 (by kernel_rfl) (.cons rfl tyA25 tyS25 rfl rfl (EqV.int Tryz.underlying25) (.cons rfl tyA9 tyS9 rfl rfl (EqV.string Tryz.underlying9) .nil))
 have e : itq a b = (((a.id : Int) == (b.id : Int)) && ((a.tx == b.tx) && true)) := by
  rw [lR]
  simp [itq]
  intro _
  omega
 rw [e]
 exact h
theorem yB3 : Program.eqGuardType Tryz.prog Tryz.prog.depth 53 = false := by kernel_rfl
theorem zD9 (a b : It) : EqV Tryz.prog 10000 51 a.val b.val (itq a b) := by
 have h : EqV Tryz.prog 10000 51 a.val b.val _ := EqV.struct Tryz.underlying51 (by kernel_rfl) (.cons rfl tyA25 tyS25 rfl rfl (EqV.int Tryz.underlying25) (.cons rfl tyA9 tyS9 rfl rfl (EqV.string Tryz.underlying9) .nil))
 have e : itq a b = (((a.id : Int) == (b.id : Int)) && ((a.tx == b.tx) && true)) := by
  rw [lR]
  simp [itq]
  intro _
  omega
 rw [e]
 exact h
theorem wL0 : Program.eqGuardType Tryz.prog Tryz.prog.depth 51 = false := by kernel_rfl
theorem wK5 (A : Option Addr) (c : Nat) (L : List It) (T : Heap) (hA : jH6 A L.length) (hT : 0 < L.length → T = roE A (jA2 L)) (hL : L.length ≤ maxLen)
  (B : Option Addr) (d : Nat) (M : List It) (U : Heap) (hB : jH6 B M.length) (hU : 0 < M.length → U = roE B (jA2 M)) (hM : M.length ≤ maxLen) :
  Fn Tryz.prog 41 [.slice A L.length c, .slice B M.length d] (T ++ U) fun v _ => v = .bool (jP0 L M) := by
 have hL' : L.length ≤ 9223372036854775807 := hL
 have hM' : M.length ≤ 9223372036854775807 := hM
 refine Fn.enter (N := 26) Tryz.func41 rfl (by kernel_rfl) rfl (fun w0 => ?_)
 refine aA rfl rfl <| f2K 0 1 rfl <| aS <| aR fun Z hZ => sM rfl rfl <| jE2 Tryz.underlying28 rfl rfl <| sM rfl rfl <| jE2 Tryz.underlying28 rfl rfl <| jC7 ?_
 refine sN (hZ _ _ <| f3K 0 1 10 rfl <| aC0 (fun ha => ?_) (fun ha => ?_))
 ·have hne : L.length ≠ M.length := by simp at ha; omega
  rw [show jP0 L M = false by cases hs : jP0 L M with | false => rfl | true => exact absurd (vD3 hs) hne]
  refine aA rfl rfl <| f1K 4 rfl <| aE ?_
  repeat refine nTR ?_
  exact nR10 rfl
 have hlm : L.length = M.length := by simp at ha; omega
 refine aK <| nN <| aS <| aR fun Z hZ => sM rfl rfl <| jE2 Tryz.underlying28 rfl rfl <| sMN hZ rfl rfl <| f4K 0 1 12 13 rfl <| aB ?_
 refine jB9 (ι := Nat) (fun k => [(0, .slice A L.length c), (1, .slice B M.length d), (12, iq (L.length : Nat)), (13, iq (k : Nat))]) (fun _ => T ++ U)
  (fun k => k ≤ L.length ∧ jP0 (L.drop k) (M.drop k) = jP0 L M) (fun k => L.length - k) 0 ⟨by simp, rfl⟩ (kR rfl) (HLe.refl _) ?_
 rintro k ⟨hk, hq⟩
 refine aR (fun Z hZ => jB2 ?_)
 refine sN (hZ _ _ <| f5K 0 1 12 13 14 rfl <| aS (aC0 (fun h => ?_) (fun h => ?_)))
 ·have hlt : k < L.length := by simpa using h
  obtain ⟨x, hx⟩ : ∃ x, L[k]? = some x := ⟨_, xC hlt⟩
  obtain ⟨y, hy⟩ : ∃ y, M[k]? = some y := ⟨_, xC (by omega)⟩
  have hxe : L[k] = x := lV ((xC hlt).symm.trans hx)
  have hye : M[k]'(by omega) = y := lV ((xC (by omega)).symm.trans hy)
  rw [qR hlt, qR (show k < M.length by omega), hxe, hye, jP0] at hq
  obtain ⟨g, o, rfl⟩ := hA (by omega)
  obtain ⟨g', o', rfl⟩ := hB (by omega)
  obtain rfl := hT (by omega)
  obtain rfl := hU (by omega)
  refine aK <| nN <| aS (aB <| aR fun Z hZ => sM rfl rfl <| sAN hZ rfl rfl <| f5K 0 1 5 12 13 rfl <| jC6 mixed (by kernel_rfl) (fun Z hZ => ?_))
  refine qM rfl rfl <| qM rfl rfl <| jG2 (o + k * 2) Tryz.underlying28 tyS53 rfl rfl (by omega) (by simp) rfl ?_
  refine jG7 0 rfl rfl (k * 2) rfl tyA53 tyS53 (jK9 hx) rfl <| qM rfl rfl <| qM rfl rfl <| jG2 (o' + k * 2) Tryz.underlying28 tyS53 rfl rfl (by omega) (by simp) rfl ?_
  refine jG7 1 rfl rfl (k * 2) rfl tyA53 tyS53 (jK9 hy) rfl <| vJ6 (zI3 x y) yB3 rfl rfl rfl <| jF0 (hZ _ _ <| f5K 0 1 12 13 24 rfl <| aC0 (fun hb => ?_) (fun hb => ?_))
  ·have hb' : itq x y = false := by simpa using hb
   rw [hb'] at hq
   rw [← hq]
   refine aA rfl rfl <| f1K 4 rfl <| aE ?_
   repeat (with_reducible (first | refine nTR ?_ | refine nBR ?_))
   exact nR10 rfl
  have hb' : itq x y = true := by simpa using hb
  rw [hb', Bool.true_and] at hq
  refine aK ?_
  repeat refine nBN ?_
  refine nN ?_
  refine aG (fun Z hZ => ?_)
  refine jC2 rfl rfl ((k + 1 : Nat) : Int) (by rw [lT _ (by omega)]; omega) rfl ?_
  refine sMN hZ rfl rfl <| nF [(0, _), (1, _), (12, _), (13, _)] (kR rfl) <| jB8 (k + 1) ⟨by omega, hq⟩ (by omega) (kR rfl) (HLe.refl _)
 ·refine jB1 ?_
  repeat refine nTE ?_
  refine nBE <| nN ?_
  have hke : k = L.length := by simp at h; omega
  subst hke
  rw [zW, List.drop_of_length_le (by omega), jP0] at hq
  rw [← hq]
  refine aA rfl rfl <| f1K 4 rfl <| aE <| nR10 rfl
theorem yC9 (A : Option Addr) (c : Nat) (L : List It) (T : Heap) (hA : jH6 A L.length) (hT : 0 < L.length → T = roE A (jA2 L)) (hroT : Ro T) (hL : L.length ≤ maxLen)
  (B : Option Addr) (d : Nat) (M : List It) (U : Heap) (hB : jH6 B M.length) (hU : 0 < M.length → U = roE B (jA2 M)) (hroU : Ro U) (hM : M.length ≤ maxLen) :
  Fn Tryz.prog 17 [chV A L.length c, chV B M.length d] (T ++ U) fun v _ => v = .bool (jP0 L M) := by
 refine Fn.enter (N := 10) Tryz.func17 rfl (by kernel_rfl) rfl (fun w0 => ?_)
 refine aR (fun Z hZ => jB5 (fun g1 => ?_))
 refine jB5 (fun g2 => ?_)
 refine sAN hZ rfl rfl <| f2K 2 3 rfl <| aR (fun Z hZ => sFA0 jO7 ?_)
 refine sL0 1 tyA28 tyS28 ?_
 refine sFA0 jO7 ?_
 refine sL0 0 tyA28 tyS28 ?_
 refine jD1 (T ++ U) (wK5 A c L T hA hT hL B d M U hB hU hM) rfl ((x4 _ _).trans (x4 _ _)) (hroT.append hroU) rfl <| sAN hZ rfl rfl <| f1K 4 rfl <| aE <| nR10 rfl
theorem wF4 (A : Option Addr) (c : Nat) (L : List It) (T : Heap) (hA : jH6 A L.length) (hT : 0 < L.length → T = roE A (jA2 L)) (hL : L.length ≤ maxLen)
  (B : Option Addr) (d : Nat) (M : List It) (U : Heap) (hB : jH6 B M.length) (hU : 0 < M.length → U = roE B (jA2 M)) (hM : M.length ≤ maxLen) :
  Fn Tryz.prog 13 [.slice A L.length c, .slice B M.length d] (T ++ U) fun v _ => v = .bool (jP0 L M) := by
 have hL' : L.length ≤ 9223372036854775807 := hL
 have hM' : M.length ≤ 9223372036854775807 := hM
 refine Fn.enter (N := 26) Tryz.func13 rfl (by kernel_rfl) rfl (fun w0 => ?_)
 refine aA rfl rfl <| f2K 0 1 rfl <| aS <| aR fun Z hZ => sM rfl rfl <| jE2 Tryz.underlying22 rfl rfl <| sM rfl rfl <| jE2 Tryz.underlying22 rfl rfl <| jC7 ?_
 refine sN (hZ _ _ <| f3K 0 1 10 rfl <| aC0 (fun ha => ?_) (fun ha => ?_))
 ·have hne : L.length ≠ M.length := by simp at ha; omega
  rw [show jP0 L M = false by cases hs : jP0 L M with | false => rfl | true => exact absurd (vD3 hs) hne]
  refine aA rfl rfl <| f1K 4 rfl <| aE ?_
  repeat refine nTR ?_
  exact nR10 rfl
 have hlm : L.length = M.length := by simp at ha; omega
 refine aK <| nN <| aS <| aA rfl rfl <| f3K 0 1 5 rfl <| aB ?_
 refine jB9 (ι := Nat) (fun k => [(0, .slice A L.length c), (1, .slice B M.length d), (5, iq (k : Nat))]) (fun _ => T ++ U)
  (fun k => k ≤ L.length ∧ jP0 (L.drop k) (M.drop k) = jP0 L M) (fun k => L.length - k) 0 ⟨by simp, rfl⟩ (kR rfl) (HLe.refl _) ?_
 rintro k ⟨hk, hq⟩
 refine aS <| aR fun Z hZ => sM rfl rfl <| sM rfl rfl <| jE2 Tryz.underlying22 rfl rfl <| jB2 ?_
 refine sN (hZ _ _ <| f4K 0 1 5 14 rfl <| aC0 (fun h => ?_) (fun h => ?_))
 ·have hlt : k < L.length := by simpa using h
  obtain ⟨x, hx⟩ : ∃ x, L[k]? = some x := ⟨_, xC hlt⟩
  obtain ⟨y, hy⟩ : ∃ y, M[k]? = some y := ⟨_, xC (by omega)⟩
  have hxe : L[k] = x := lV ((xC hlt).symm.trans hx)
  have hye : M[k]'(by omega) = y := lV ((xC (by omega)).symm.trans hy)
  rw [qR hlt, qR (show k < M.length by omega), hxe, hye, jP0] at hq
  obtain ⟨g, o, rfl⟩ := hA (by omega)
  obtain ⟨g', o', rfl⟩ := hB (by omega)
  obtain rfl := hT (by omega)
  obtain rfl := hU (by omega)
  refine aK <| nN <| aS (aB <| jC6 mixed (by kernel_rfl) (fun Z hZ => ?_))
  refine qM rfl rfl <| qM rfl rfl <| jG2 (o + k * 2) Tryz.underlying22 tyS51 rfl rfl (by omega) (by simp) rfl ?_
  refine jG7 0 rfl rfl (k * 2) rfl tyA51 tyS51 (jK9 hx) rfl <| qM rfl rfl <| qM rfl rfl <| jG2 (o' + k * 2) Tryz.underlying22 tyS51 rfl rfl (by omega) (by simp) rfl ?_
  refine jG7 1 rfl rfl (k * 2) rfl tyA51 tyS51 (jK9 hy) rfl <| vJ6 (zD9 x y) wL0 rfl rfl rfl <| jF0 (hZ _ _ <| f4K 0 1 5 25 rfl <| aC0 (fun hb => ?_) (fun hb => ?_))
  ·have hb' : itq x y = false := by simpa using hb
   rw [hb'] at hq
   rw [← hq]
   refine aA rfl rfl <| f1K 4 rfl <| aE ?_
   repeat (with_reducible (first | refine nTR ?_ | refine nBR ?_))
   exact nR10 rfl
  have hb' : itq x y = true := by simpa using hb
  rw [hb', Bool.true_and] at hq
  refine aK ?_
  repeat refine nBN ?_
  refine nN ?_
  refine aG (fun Z hZ => ?_)
  refine sM rfl rfl ?_
  refine jC2 rfl rfl ((k + 1 : Nat) : Int) (by rw [lT _ (by omega)]; omega) rfl ?_
  refine sAN hZ rfl rfl <| nF [(0, _), (1, _), (5, _)] (kR rfl) <| jB8 (k + 1) ⟨by omega, hq⟩ (by omega) (kR rfl) (HLe.refl _)
 ·refine jB1 ?_
  repeat refine nTE ?_
  refine nBE <| nN ?_
  have hke : k = L.length := by simp at h; omega
  subst hke
  rw [zW, List.drop_of_length_le (by omega), jP0] at hq
  rw [← hq]
  refine aA rfl rfl <| f1K 4 rfl <| aE <| nR10 rfl
end
section
open Go.RowKit
end
section
open Go.RowKit
theorem Ro.consRo {T : Heap} (h : Ro T) (g o : Nat) (xs : List Value) : Ro (.ro g o xs :: T) := fun e he => by
 rcases List.mem_cons.1 he with rfl | he
 ·rfl
 ·exact h e he
def cPut (k : Nat) (s : List UInt8) (L : List It) : List It := L.take (cLo k L) ++ ⟨k, s⟩ :: L.drop (cLo k L + if cHas k L then 1 else 0)
def kG5 (k : Nat) (L : List It) : Bool := !cHas k L && decide (2048 ≤ L.length)
theorem yW7 {k : Nat} {L : List It} (h : cHas k L = true) : cLo k L < L.length := by
 unfold cHas at h
 exact (of_decide_eq_true h).1
theorem yT1 {L : List It} {i : Nat} : (jA2 L).drop (i * 2) = jA2 (L.drop i) := kZ2 vF1 L i
theorem wK2 {L : List It} {i : Nat} : (jA2 L).take (i * 2) = jA2 (L.take i) := by
 have h1 : jA2 L = jA2 (L.take i) ++ jA2 (L.drop i) := by rw [← zV, List.take_append_drop]
 rcases xP L.length i with h | h
 ·rw [qZ (by rw [jG1]; omega), qZ (uF h)]
 ·rw [h1, List.take_left' (by rw [jG1, xS]; omega)]
theorem vK5 {A A' : Option Addr} {n c : Nat} {L : List It} {i j : Nat} {w : World} (h : Rd w 2 A L.length (jA2 L)) (hA : SlIn A L.length c) (h1 : i ≤ j) (h2 : j ≤ L.length) (ht : wS2 A i 2 A' (j - i)) (hA' : SlIn A' (j - i) n) : Rd w 2 A' (j - i) (jA2 ((L.drop i).take (j - i))) := by
 have e1 : ((L.drop i).take (j - i)).length = j - i := by rw [xS, xY]; omega
 refine ⟨by rw [jG1, e1], fun ha => hA'.nil ha, fun hn => ?_⟩
 obtain ⟨g, o, h4, h5, h6⟩ := h.2.2 (by omega)
 obtain ⟨o', h7, h8⟩ := ht.2 g o h4
 obtain rfl := h8 hn
 refine ⟨g, _, h7, h5, fun p u hu => ?_⟩
 rw [← wK2, ← yT1, qU] at hu
 split at hu
 ·rw [zP] at hu
  rw [qI]
  exact h6 _ u hu
 ·cases hu
theorem wG6 (A : Option Addr) (c : Nat) (L : List It) (T : Heap) (hA : SlIn A L.length c) (hT : 0 < L.length → T = roE A (jA2 L)) (hro : Ro T) (hL : L.length ≤ 100000) (hr : Rise L) (k : Nat) (s : List UInt8) :
  Fn Tryz.prog 18 [chV A L.length c, uq k, .string (str s)] T fun v H' => ∃ u, v = .tuple #[.agg #[u], iq (jE1 k s (kG5 k L))] ∧ ((jE1 k s (kG5 k L) = 0 ∧ RowOk u (cPut k s L).length ∧ H' = rowE u 53 2 (jA2 (cPut k s L))) ∨ (jE1 k s (kG5 k L) ≠ 0 ∧ u = .slice A L.length c ∧ H' = [])) := by
 have hcap := hA.cap
 have hle := (kE3 k L).1
 obtain ⟨p, hp⟩ := xZ9 (cLo k L)
 obtain ⟨q, hq⟩ := xZ9 (p + (if cHas k L then 1 else 0))
 have hql : q ≤ L.length := by
  rw [← hq, ← hp]
  split
  ·rename_i hh
   exact yW7 hh
  ·omega
 have hpq : q ≤ p + 1 := by rw [← hq]; split <;> omega
 have hd : cPut k s L = L.take p ++ ⟨k, s⟩ :: L.drop q := by unfold cPut; rw [hp, hq]
 rw [hp] at hle
 refine Fn.enter (N := 55) Tryz.func18 rfl (by kernel_rfl) rfl (fun w0 => ?_)
 refine aR (fun Z hZ => jB5 (fun g1 => ?_))
 refine sAl tyZ30 rfl (fun g2 => sAN hZ rfl rfl <| f4K 1 2 3 6 rfl <| aR (fun Z hZ => sLA0 1 tyA30 tyS30 ?_))
 refine sM rfl rfl <| jD1 T (wY0 A c L T hA.arg hT hro (by omega) hr k) rfl ((x4 _ _).trans (x4 _ _)) hro rfl ?_
 refine sM rfl rfl <| sX rfl rfl rfl <| sX rfl rfl rfl <| sA rfl rfl <| sAN hZ rfl rfl <| f6K 1 2 3 6 8 9 rfl ?_
 rw [hp]
 refine aR fun Z hZ => sM rfl rfl <| sAN hZ rfl rfl <| f7K 1 2 3 6 8 9 10 rfl <| jJ7 (ι := Unit) (fun _ => [(1, uq k), (2, .string (str s)), (3, ptr g1 0), (6, ptr g2 0), (8, iq (p : Nat)), (9, .bool (cHas k L)), (10, iq (q : Nat))]) (fun _ => .own g2 30 [.slice none 0 0] :: .own g1 30 [.slice A L.length c] :: T) (fun _ => True) ?_ ?_
 ·refine aR (fun Z hZ => sMN hZ rfl rfl <| f8K 1 2 3 6 8 9 10 20 rfl <| aC0 (fun h => ?_) (fun h => ?_))
  ·refine aG (fun Z hZ => ?_)
   refine sM rfl rfl ?_
   refine jC2 rfl rfl ((p + 1 : Nat) : Int) (by rw [lT _ (by omega)]; omega) rfl ?_
   refine sAN hZ rfl rfl <| nF [(1, _), (2, _), (3, _), (6, _), (8, _), (9, _), (10, _)] (kR rfl) <| jE4 () trivial (Kn.cons rfl (Kn.cons rfl (Kn.cons rfl (Kn.cons rfl (Kn.cons rfl (Kn.cons rfl (Kn.cons (by rw [← hq, h]; rfl) Kn.nil))))))) (HLe.refl _)
  ·refine aK <| jE4 () trivial (Kn.cons rfl (Kn.cons rfl (Kn.cons rfl (Kn.cons rfl (Kn.cons rfl (Kn.cons rfl (Kn.cons (by rw [← hq, h]; rfl) Kn.nil))))))) (HLe.refl _)
 rintro ⟨⟩ -
 obtain ⟨e, he⟩ := xZ9 (jE1 k s (kG5 k L))
 have hw : ∀ b, b = kG5 k L → Fn Tryz.prog 37 [uq k, .string (str s), .bool b] [] fun v _ => v = iq (e : Nat) := fun b hb => by
  have := vO5 k s (kG5 k L)
  rw [he] at this
  rw [hb]
  exact this
 rw [he]
 refine aS <| jA3 [(1, uq k), (2, .string (str s)), (3, ptr g1 0), (6, ptr g2 0), (8, iq (p : Nat)), (10, iq (q : Nat)), (11, iq (e : Nat))] (.own g2 30 [.slice none 0 0] :: .own g1 30 [.slice A L.length c] :: T) (fun Z hZ => ?_) ?_
 ·refine sM rfl rfl <| sM rfl rfl <| sM rfl rfl <| jI8 rfl rfl <| sM rfl rfl <| jD0 27 rfl (fun hb4 => ?_) (fun hb4 => ?_)
  ·refine sOn0 ?_
   refine sFA0 jO7 ?_
   refine sOn0 ?_
   refine sL0 1 tyA28 tyS28 ?_
   refine sOn0 ?_
   refine jE2 Tryz.underlying28 rfl rfl <| sOn0 ?_
   refine jO3 rfl rfl rfl ?_
   refine sP rfl rfl rfl ?_
   refine sCP (hw _ (by unfold kG5; simp at hb4; rw [hb4, lR]; first | (simp; done) | (simp; omega))) rfl rfl ?_
   refine sA rfl rfl <| sN (hZ _ _ ?_ ?_)
   ·exact kR rfl
   ·exact HLe.refl _
  ·refine sO0 ?_
   refine sO0 ?_
   refine sO0 ?_
   refine sO0 ?_
   refine sP rfl rfl rfl ?_
   refine sCP (hw _ (by unfold kG5; simp at hb4; rw [hb4, lR]; first | (simp; done) | (simp; omega))) rfl rfl ?_
   refine sA rfl rfl <| sN (hZ _ _ ?_ ?_)
   ·exact kR rfl
   ·exact HLe.refl _
 refine aR fun Z hZ => sM rfl rfl <| jC7 ?_
 refine sN (hZ _ _ <| f8K 1 2 3 6 8 10 11 35 rfl <| aC0 (fun h => ?_) (fun h => ?_))
 ·have he' : e ≠ 0 := by simp at h; omega
  refine aR (fun Z hZ => sLA0 1 tyA30 tyS30 ?_)
  refine sM rfl rfl <| sS0 0 tyS30 ?_
  refine sAN hZ rfl rfl <| f2K 6 7 rfl <| aE ?_
  repeat refine nTR ?_
  exact jD9 [] rfl (ResOk.cell 0 rfl rfl tyA30 tyS30 rfl) rfl (HLe.sub (lN _)) ⟨_, rfl, .inr ⟨he', rfl, rfl⟩⟩
 have he' : e = 0 := by simp at h; omega
 subst he'
 refine aK <| nN ?_
 have hrd : ∀ w0 Wr w, Sat w0 Wr T w → Rd w 2 A L.length (jA2 L) := fun w0 Wr w hw => vQ7 hA.arg hT (jG1 L) hA.nil (HLe.refl _) hw
 refine aR (fun Z hZ => sFA0 jO7 ?_)
 refine sL0 1 tyA28 tyS28 ?_
 refine sM rfl rfl <| sM rfl rfl <| wV0 Tryz.underlying28 tyS53 hA rfl rfl rfl (by omega) rfl ?_
 refine sAN hZ rfl rfl <| f6K 1 2 3 6 10 12 rfl ?_
 have hAp : SlOk A p := by
  rcases hA.ok with ⟨h1, h2⟩ | h1
  ·exact .inl ⟨h1, by omega⟩
  ·exact .inr h1
 rw [hd]
 have hll : (L.take p ++ ⟨k, s⟩ :: L.drop q).length = p + 1 + (L.length - q) := by
  rw [lX, xS, lE, xY]
  omega
 rw [hll]
 refine jD3 _ [(0, true), (1, true), (2, true), (3, true), (4, false), (5, false), (6, true), (7, true), (8, true), (9, true), (10, false), (11, true), (12, false), (13, true)] mixed (by kernel_rfl) (HLe.pick [1] (by simp) (by simp only [pick, l7, qS]; rfl)) (fun Z hZ => ?_)
 refine tw_p rfl <| jA8 ?_
 refine vN <| tw_p rfl <| jA8 ?_
 refine vN <| tw_p rfl <| jA8 ?_
 refine vN <| tw_p rfl <| kJ6 tyZ53 tyP53 rfl rfl (by simp only [qS, Nat.reduceAdd, Value.cells, wrV]; rfl) rfl ?_
 refine vN <| tw_g rfl <| sBS0 Tryz.underlying28 tyS53 tyZ53 (fun g3 => ?_)
 refine sN ⟨HLe.pick [2] (by simp) rfl, ?_⟩
 refine tw_g rfl <| vC2 vG0 hAp rfl rfl (fun w hw => yP0 (hrd _ _ _ (hw.sub (lP [_, _, _] T))) hle) (fun w hw => jJ3 (i := 0) (n := 1) (xs := [uq k, .string (str s)]) rfl rfl hw) (fun h => by cases h) rfl (by omega) (by show _ ≤ 9223372036854775807; omega) (by omega) rfl (fun v1 hv1 => ?_)
 obtain ⟨g4, c4, rfl⟩ := hv1.some (by omega)
 refine jC3 ((_ :: _ :: _ :: T) ++ rowE (.slice (some ⟨g4, 0, none⟩) (p + 1) c4) 53 2 _) (HLe.swap _ _) <| sN ⟨HLe.pick [2] (by simp) rfl, ?_⟩
 refine tw_p rfl <| jA7 jO7 ?_
 refine vN <| tw_p rfl ?_
 first | refine jE6 0 rfl rfl tyA28 tyS28 rfl rfl ?_
 refine vN <| tw_p rfl <| jA8 ?_
 refine vN <| tw_p rfl <| yM9 (i := q) (j := L.length) Tryz.underlying28 tyS53 hA rfl rfl rfl (by omega) (by omega) rfl (fun A2 hA2 ht2 => ?_)
 refine vN <| tw_g rfl <| jC9 (_ :: _ :: _ :: T) vG0 rfl hv1 (by rw [lX, xS, jG1]; simp; omega) rfl (fun w hw => vK5 (hrd _ _ _ (hw.sub ((lP [_, _, _] T).trans (lS (_ :: _ :: _ :: T) _)))) hA hql (xB _) ht2 hA2) (jX8 _) (by show _ ≤ 9223372036854775807; omega) (by omega) (HLe.refl _) rfl (fun v2 hv2 => ?_)
 obtain ⟨A5, c5, rfl, hA5⟩ := hv2.form
 refine sN ⟨HLe.pick [2] (by simp) rfl, ?_⟩
 refine tw_p rfl <| kJ6 tyZ30 tyP30 rfl rfl (by simp only [qS, Value.cells, wrV]; rfl) rfl ?_
 refine vN <| tw_g rfl <| sS0 1 tyS30 ?_
 refine sN ⟨HLe.pick [2] (by simp) rfl, ?_⟩
 refine tw_p rfl <| jE7 rfl rfl <| vN <| jI7 (hZ _ _ <| f2K 6 7 rfl <| aE <| jD9 _ rfl (ResOk.cell 1 rfl rfl tyA30 tyS30 rfl) rfl (HLe.sub (lP (_ :: _ :: _ :: T) _)) ⟨_, rfl, .inl ⟨rfl, hv2, ?_⟩⟩)
 rw [wK2, qZ (show (L.drop q).length ≤ L.length - q by rw [xY]; exact xB _)]
 simp only [jA2, zV, xX, xF, It.cells, qS]
end
section
open Go.RowKit
def rGet (k : Nat) : List It → Option (List UInt8)
 | [] => none
 | e :: r => if e.id = k then some e.tx else rGet k r
def rDel (k : Nat) (L : List It) : List It := L.filter fun e => decide (e.id ≠ k)
structure Half (k : Nat) (X Y : List It) : Prop where
 ahead : ∀ e ∈ X, e.id < k
 behind : ∀ e ∈ Y, k < e.id
 riseX : Rise X
 riseY : Rise Y
theorem yR5 {k : Nat} : ∀ {X Z : List It}, (∀ e ∈ X, e.id < k) → (∀ e ∈ Z, k ≤ e.id) → cLo k (X ++ Z) = X.length
 | [], [], _, _ => rfl
 | [], e :: r, _, h => by
  have := h e lO
  rw [lD, cLo, if_neg (by omega)]
  rfl
 | e :: r, Z, h, h2 => by
  have := h e lO
  rw [lL, cLo, if_pos this, yR5 (fun x hx => h x (lW _ hx)) h2]
  rfl
section
variable {k : Nat} {X Y : List It} {s : List UInt8}
theorem kY9 (s : It) : itAt (X ++ s :: Y) X.length = s := by simp [itAt]
theorem Half.lo1 (h : Half k X Y) : cLo k (X ++ ⟨k, s⟩ :: Y) = X.length := yR5 h.ahead fun e he => by
 rcases List.mem_cons.1 he with rfl | he
 ·exact xB _
 ·exact uF (h.behind e he)
theorem Half.lo0 (h : Half k X Y) : cLo k (X ++ Y) = X.length := yR5 h.ahead fun e he => uF (h.behind e he)
theorem Half.has1 (h : Half k X Y) : cHas k (X ++ ⟨k, s⟩ :: Y) = true := by
 unfold cHas
 rw [h.lo1, kY9]
 simp
theorem Half.has0 (h : Half k X Y) : cHas k (X ++ Y) = false := by
 unfold cHas
 rw [h.lo0]
 cases Y with
 | nil => simp
 | cons y r =>
  have := h.behind y lO
  rw [kY9]
  simp
  omega
theorem Half.get1 (h : Half k X Y) : cGet k (X ++ ⟨k, s⟩ :: Y) = s := by
 unfold cGet
 rw [h.has1, h.lo1, kY9]
 rfl
theorem Half.get0 (h : Half k X Y) : cGet k (X ++ Y) = [] := by
 unfold cGet
 rw [h.has0]
 rfl
theorem Half.put1 (h : Half k X Y) (t : List UInt8) : cPut k t (X ++ ⟨k, s⟩ :: Y) = X ++ ⟨k, t⟩ :: Y := by
 unfold cPut
 rw [h.has1, h.lo1, if_pos rfl]
 simp
theorem Half.put0 (h : Half k X Y) (t : List UInt8) : cPut k t (X ++ Y) = X ++ ⟨k, t⟩ :: Y := by
 unfold cPut
 rw [h.has0, h.lo0, if_neg (by decide)]
 simp
theorem Half.rise1 (h : Half k X Y) : Rise (X ++ ⟨k, s⟩ :: Y) := by
 refine List.pairwise_append.2 ⟨h.riseX, List.pairwise_cons.2 ⟨fun e he => h.behind e he, h.riseY⟩, fun a ha b hb => ?_⟩
 have h1 := h.ahead a ha
 rcases List.mem_cons.1 hb with rfl | hb
 ·exact h1
 ·have := h.behind b hb
  omega
theorem kX4 {Z : List It} (h : ∀ e ∈ X, e.id ≠ k) : rGet k (X ++ Z) = rGet k Z := by
 induction X with
 | nil => rfl
 | cons e r ih =>
  rw [lL, rGet, if_neg (h e lO)]
  exact ih fun x hx => h x (lW _ hx)
theorem wG1 (h : ∀ e ∈ X, e.id ≠ k) : rGet k X = none := by
 have := kX4 (Z := []) h
 rw [lH] at this
 exact this
theorem Half.ne (h : Half k X Y) : (∀ e ∈ X, e.id ≠ k) ∧ (∀ e ∈ Y, e.id ≠ k) := ⟨fun e he => Nat.ne_of_lt (h.ahead e he), fun e he => Nat.ne_of_gt (h.behind e he)⟩
theorem Half.rget1 (h : Half k X Y) : rGet k (X ++ ⟨k, s⟩ :: Y) = some s := by
 rw [kX4 h.ne.1, rGet, if_pos rfl]
theorem Half.rget0 (h : Half k X Y) : rGet k (X ++ Y) = none := by rw [kX4 h.ne.1, wG1 h.ne.2]
theorem vQ8 {Z : List It} : rDel k (X ++ Z) = rDel k X ++ rDel k Z := zB ..
theorem kC5 (h : ∀ e ∈ X, e.id ≠ k) : rDel k X = X := List.filter_eq_self.2 fun e he => decide_eq_true (h e he)
theorem Half.rdel1 (h : Half k X Y) : rDel k (X ++ ⟨k, s⟩ :: Y) = X ++ Y := by
 have : rDel k (⟨k, s⟩ :: Y) = rDel k Y := by simp [rDel]
 rw [vQ8, kC5 h.ne.1, this, kC5 h.ne.2]
theorem Half.rdel0 (h : Half k X Y) : rDel k (X ++ Y) = X ++ Y := by rw [vQ8, kC5 h.ne.1, kC5 h.ne.2]
end
theorem kA4 {L : List It} (hr : Rise L) (k : Nat) : ∃ X Y, Half k X Y ∧ ((∃ s, L = X ++ ⟨k, s⟩ :: Y) ∨ L = X ++ Y) := by
 induction L with
 | nil => exact ⟨[], [], ⟨by simp, by simp, qH, qH⟩, .inr rfl⟩
 | cons e r ih =>
  obtain ⟨h1, h2⟩ := List.pairwise_cons.1 hr
  rcases Nat.lt_trichotomy e.id k with h | h | h
  ·obtain ⟨X, Y, hh, hl⟩ := ih h2
   have hX : ∀ x ∈ X, x ∈ r := fun x hx => by rcases hl with ⟨s, hl⟩ | hl <;> rw [hl] <;> exact xI _ hx
   refine ⟨e :: X, Y, ⟨fun x hx => ?_, hh.behind, List.pairwise_cons.2 ⟨fun x hx => h1 x (hX x hx), hh.riseX⟩, hh.riseY⟩, ?_⟩
   ·rcases List.mem_cons.1 hx with rfl | hx
    ·exact h
    ·exact hh.ahead x hx
   ·rcases hl with ⟨s, hl⟩ | hl
    ·exact .inl ⟨s, by rw [hl]; rfl⟩
    ·exact .inr (by rw [hl]; rfl)
  ·exact ⟨[], r, ⟨by simp, fun x hx => by have := h1 x hx; omega, qH, h2⟩, .inl ⟨e.tx, by rw [← h]; rfl⟩⟩
  ·exact ⟨[], e :: r, ⟨by simp, fun x hx => by
    rcases List.mem_cons.1 hx with rfl | hx
    ·exact h
    ·have := h1 x hx; omega, qH, hr⟩, .inr rfl⟩
theorem zE2 {L : List It} (hr : Rise L) (k : Nat) : cHas k L = (rGet k L).isSome ∧ cGet k L = (rGet k L).getD [] := by
 obtain ⟨X, Y, h, ⟨s, rfl⟩ | rfl⟩ := kA4 hr k
 ·rw [h.has1, h.get1, h.rget1]; exact ⟨rfl, rfl⟩
 ·rw [h.has0, h.get0, h.rget0]; exact ⟨rfl, rfl⟩
theorem vQ9 {L : List It} (hr : Rise L) (k : Nat) (t : List UInt8) : Rise (cPut k t L) := by
 obtain ⟨X, Y, h, ⟨s, rfl⟩ | rfl⟩ := kA4 hr k
 ·rw [h.put1]; exact h.rise1
 ·rw [h.put0]; exact h.rise1
def rPut (k : Nat) (t : List UInt8) (L : List It) : List It := (rDel k L).take (cLo k (rDel k L)) ++ ⟨k, t⟩ :: (rDel k L).drop (cLo k (rDel k L))
theorem zB7 {L : List It} (hr : Rise L) (k : Nat) (t : List UInt8) : cPut k t L = rPut k t L := by
 obtain ⟨X, Y, h, ⟨s, rfl⟩ | rfl⟩ := kA4 hr k
 ·rw [h.put1]; unfold rPut; rw [h.rdel1, h.lo0]; simp
 ·rw [h.put0]; unfold rPut; rw [h.rdel0, h.lo0]; simp
theorem wG4 {L : List It} (hr : Rise L) (k : Nat) (t : List UInt8) : ∀ e ∈ cPut k t L, e = ⟨k, t⟩ ∨ e ∈ L := fun e he => by
 unfold cPut at he
 rcases List.mem_append.1 he with he | he
 ·exact .inr (List.mem_of_mem_take he)
 ·rcases List.mem_cons.1 he with rfl | he
  ·exact .inl rfl
  ·exact .inr (List.mem_of_mem_drop he)
theorem wG5 {L : List It} (hr : Rise L) (k : Nat) (t : List UInt8) : (cPut k t L).length = L.length + (if cHas k L then 0 else 1) := by
 obtain ⟨X, Y, h, ⟨s, rfl⟩ | rfl⟩ := kA4 hr k
 ·rw [h.put1, h.has1]; simp
 ·rw [h.put0, h.has0]; simp <;> omega
theorem wG7 {L : List It} (hr : Rise L) (k : Nat) (t : List UInt8) : jF2 (cPut k t L) ≤ jF2 L + t.length := by
 obtain ⟨X, Y, h, ⟨s, rfl⟩ | rfl⟩ := kA4 hr k
 ·rw [h.put1]; simp [jF2]; omega
 ·rw [h.put0]; simp [jF2]; omega
structure ChOk (L : List It) : Prop where
 rise : Rise L
 lt : ∀ e ∈ L, e.id < 6004799503160661
 tx : ∀ e ∈ L, e.tx ≠ [] ∧ e.tx.length ≤ 65536
 len : L.length ≤ 2048
theorem ChOk.nil : ChOk [] := ⟨qH, fun _ h => (by cases h), fun _ h => (by cases h), by simp⟩
theorem ChOk.put {L : List It} (h : ChOk L) {k : Nat} {s : List UInt8} (hw : jE1 k s (kG5 k L) = 0) : ChOk (cPut k s L) := by
 have hw' := hw
 unfold jE1 at hw'
 repeat' split at hw'
 all_goals first | omega | skip
 rename_i h1 h2 h3 h4
 refine ⟨vQ9 h.rise k s, fun e he => ?_, fun e he => ?_, ?_⟩
 ·rcases wG4 h.rise k s e he with rfl | he
  ·show k < _; omega
  ·exact h.lt e he
 ·rcases wG4 h.rise k s e he with rfl | he
  ·exact ⟨h2, by show s.length ≤ _; omega⟩
  ·exact h.tx e he
 ·rw [wG5 h.rise]
  have := h.len
  unfold kG5 at h4
  cases hc : cHas k L with
  | true => simp; omega
  | false =>
   rw [hc] at h4
   simp at h4 ⊢
   omega
end
section
open Go.RowKit
theorem wF5 (A : Option Addr) (c : Nat) (L : List It) (T : Heap) (hA : jH6 A L.length) (hT : 0 < L.length → T = roE A (jA2 L)) (hL : L.length ≤ 1000000) (k : Nat) :
  Fn Tryz.prog 11 [.slice A L.length c, uq k] T fun v _ => v = .tuple #[.string (str ((rGet k L).getD [])), .bool (rGet k L).isSome] := by
 refine Fn.enter (N := 25) Tryz.func11 rfl (by kernel_rfl) rfl (fun w0 => ?_)
 refine aR fun Z hZ => sA rfl rfl <| sAN hZ rfl rfl <| f2K 0 1 rfl <| aS <| aA rfl rfl <| f3K 0 1 6 rfl <| aB ?_
 refine jB9 (ι := Nat) (fun i => [(0, .slice A L.length c), (1, uq k), (6, iq (i : Nat))]) (fun _ => T)
  (fun i => i ≤ L.length ∧ rGet k (L.drop i) = rGet k L) (fun i => L.length - i) 0 ⟨by simp, rfl⟩ (kR rfl) (HLe.refl _) ?_
 rintro i ⟨hi, hq⟩
 refine aS <| aR fun Z hZ => sM rfl rfl <| sM rfl rfl <| jE2 Tryz.underlying22 rfl rfl <| jB2 ?_
 refine sN (hZ _ _ <| f4K 0 1 6 10 rfl <| aC0 (fun h => ?_) (fun h => ?_))
 ·have hlt : i < L.length := by simpa using h
  have hx := jN9 hlt
  obtain ⟨x, hxe⟩ := xZ9 (itAt L i)
  rw [hxe] at hx
  have hdr : L.drop i = x :: L.drop (i + 1) := by rw [qR hlt]; congr 1; exact (List.getElem?_eq_some_iff.1 hx).2
  rw [hdr, rGet] at hq
  obtain ⟨g, o, rfl⟩ := hA (by omega)
  obtain rfl := hT (by omega)
  refine aK <| nN <| aS (aB <| aR fun Z hZ => sM rfl rfl <| sM rfl rfl <| jB3 (o + i * 2) Tryz.underlying22 tyS51 rfl rfl (by omega) (by simp) rfl ?_)
  refine sFA0 kF4 ?_
  refine jB4 0 rfl rfl (i * 2) rfl tyA25 tyS25 (jO6 hx) rfl <| sM rfl rfl <| jB0 ?_
  refine sN (hZ _ _ <| f4K 0 1 6 19 rfl <| aC0 (fun h1 => ?_) (fun h1 => ?_))
  ·have he : x.id = k := by simp at h1; omega
   rw [if_pos he] at hq
   rw [← hq]
   refine aR fun Z hZ => sM rfl rfl <| sM rfl rfl <| jB3 (o + i * 2) Tryz.underlying22 tyS51 rfl rfl (by omega) (by simp) rfl ?_
   refine sFA0 kL8 ?_
   refine jB4 0 rfl rfl (i * 2 + 1) rfl tyA9 tyS9 (jV8 hx) rfl <| sA rfl rfl <| sAN hZ rfl rfl <| f2K 4 5 rfl <| aE ?_
   repeat (with_reducible (first | refine nTR ?_ | refine nBR ?_))
   exact jF8 rfl rfl rfl rfl
  have he : x.id ≠ k := by simp at h1; omega
  rw [if_neg he] at hq
  refine aK ?_
  repeat refine nBN ?_
  refine nN ?_
  refine aG (fun Z hZ => ?_)
  refine sM rfl rfl ?_
  refine jC2 rfl rfl ((i + 1 : Nat) : Int) (by rw [lT _ (by omega)]; omega) rfl ?_
  refine sAN hZ rfl rfl <| nF [(0, _), (1, _), (6, _)] (kR rfl) <| jB8 (i + 1) ⟨by omega, hq⟩ (by omega) (kR rfl) (HLe.refl _)
 ·refine jB1 ?_
  repeat refine nTE ?_
  refine nBE <| nN ?_
  have hke : i = L.length := by simp at h; omega
  subst hke
  rw [zW, rGet] at hq
  rw [← hq]
  refine aR fun Z hZ => sA rfl rfl <| sAN hZ rfl rfl <| f2K 4 5 rfl <| aE <| jF8 rfl rfl rfl rfl
theorem yO8 (A : Option Addr) (c : Nat) (L : List It) (T : Heap) (hA : jH6 A L.length) (hT : 0 < L.length → T = roE A (jA2 L)) (hro : Ro T) (hL : L.length ≤ 100000) (k : Nat) :
  Fn Tryz.prog 43 [.slice A L.length c, uq k] T fun v H' => RowOk v (rDel k L).length ∧ H' = rowE v 51 2 (jA2 (rDel k L)) := by
 refine Fn.enter (N := 28) Tryz.func43 rfl (by kernel_rfl) rfl (fun w0 => ?_)
 refine aA rfl rfl <| f2K 0 1 rfl <| aA rfl rfl <| f3K 0 1 5 rfl <| aS <| aA rfl rfl <| f4K 0 1 5 6 rfl <| aB ?_
 refine jB9 (ι := Nat × Value) (fun i => [(0, .slice A L.length c), (1, uq k), (5, i.2), (6, iq (i.1 : Nat))]) (fun i => T ++ rowE i.2 51 2 (jA2 (rDel k (L.take i.1))))
  (fun i => i.1 ≤ L.length ∧ RowOk i.2 (rDel k (L.take i.1)).length) (fun i => L.length - i.1) (0, .slice none 0 0) ⟨by simp, RowOk.nil⟩ (kR rfl) (by simp [rowE]; exact HLe.refl _) ?_
 rintro ⟨i, v⟩ ⟨hi, hv⟩
 simp only at hi hv
 refine aS <| aR fun Z hZ => sM rfl rfl <| sM rfl rfl <| jE2 Tryz.underlying22 rfl rfl <| jB2 ?_
 refine sN (hZ _ _ <| f5K 0 1 5 6 10 rfl <| aC0 (fun h => ?_) (fun h => ?_))
 ·have hlt : i < L.length := by simpa using h
  have hx := jN9 hlt
  obtain ⟨x, hxe⟩ := xZ9 (itAt L i)
  rw [hxe] at hx
  have hfl : (rDel k (L.take i)).length ≤ i := by
   refine zM (List.length_filter_le _ _) ?_
   rw [xS]
   omega
  have htk : rDel k (L.take (i + 1)) = rDel k (L.take i) ++ (if x.id ≠ k then [x] else []) := by
   unfold rDel
   rw [List.take_add_one, hx, zB]
   congr 1
   simp only [Option.toList, xL, xO]
   by_cases hc : x.id = k <;> simp [hc]
  obtain ⟨g, o, rfl⟩ := hA (by omega)
  obtain rfl := hT (by omega)
  refine aK <| nN <| jJ7 (ι := Value) (fun v => [(0, .slice (some ⟨g, o, none⟩) L.length c), (1, uq k), (5, v), (6, iq (i : Nat))]) (fun v => [.ro g o (jA2 L)] ++ rowE v 51 2 (jA2 (rDel k (L.take (i + 1))))) (fun v => RowOk v (rDel k (L.take (i + 1))).length) ?_ ?_
  ·refine aB <| aR fun Z hZ => sM rfl rfl <| sM rfl rfl <| jB3 (o + i * 2) Tryz.underlying22 tyS51 rfl rfl (by omega) (by simp) rfl ?_
   refine sFA0 kF4 ?_
   refine jB4 0 rfl rfl (i * 2) rfl tyA25 tyS25 (jO6 hx) rfl <| sM rfl rfl <| jC7 ?_
   refine sN (hZ _ _ <| f5K 0 1 5 6 19 rfl <| aC0 (fun h1 => ?_) (fun h1 => ?_))
   ·have hp : x.id ≠ k := by simp at h1; omega
    rw [if_pos hp] at htk
    refine aG (fun Z hZ => sM rfl rfl <| sM rfl rfl <| sM rfl rfl <| jB3 (o + i * 2) Tryz.underlying22 tyS51 rfl rfl (by omega) (by simp) rfl ?_)
    refine jB4 0 rfl rfl (i * 2) rfl tyA51 tyS51 (jK9 hx) rfl <| sBS0 Tryz.underlying22 tyS51 tyZ51 (fun g1 => ?_)
    refine jC9 [_, _] kO6 rfl hv (jG1 _) rfl (fun w hw => jJ3 (i := 0) (xs := x.cells) rfl rfl hw) rfl (by show _ ≤ 9223372036854775807; omega) (by omega) (HLe.refl _) rfl (fun v2 hv2 => ?_)
    refine sAN hZ rfl rfl <| nF [(0, _), (1, _), (5, _), (6, _)] (kR rfl) ?_
    repeat refine nBN ?_
    refine jE4 v2 (by rw [htk]; simpa using hv2) (kR rfl) ?_
    rw [htk, show jA2 (rDel k (L.take i) ++ [x]) = jA2 (rDel k (L.take i)) ++ x.cells from kO2 _ _]
    exact HLe.drop 1 rfl
   ·have hp : x.id = k := by simp at h1; omega
    rw [if_neg (by simpa using hp), lH] at htk
    refine aK ?_
    repeat refine nBN ?_
    refine jE4 v (by rw [htk]; exact hv) (kR rfl) ?_
    rw [htk]
    exact HLe.refl _
  ·rintro v2 hv2
   refine aG (fun Z hZ => ?_)
   refine sM rfl rfl ?_
   refine jC2 rfl rfl ((i + 1 : Nat) : Int) (by rw [lT _ (by omega)]; omega) rfl ?_
   refine sAN hZ rfl rfl <| nF [(0, _), (1, _), (5, _), (6, _)] (kR rfl) <| jB8 (i + 1, v2) ⟨by show i + 1 ≤ _; omega, hv2⟩ (by simp; omega) (kR rfl) (HLe.refl _)
 ·refine jB1 ?_
  repeat refine nTE ?_
  refine nBE <| nN ?_
  have hke : i = L.length := by simp at h; omega
  subst hke
  rw [x6] at hv ⊢
  refine aR fun Z hZ => sM rfl rfl <| sAN hZ rfl rfl <| f1K 4 rfl <| aE <| jC1 _ rfl rfl (HLe.sub (lP _ _)) ⟨hv, rfl⟩
end
section
open Go.RowKit
def jS1 (k : Nat) (L : List It) : Bool := !(rGet k L).isSome && decide (2048 ≤ L.length)
theorem wX0 (k : Nat) (L : List It) : (rDel k L).length ≤ L.length := List.length_filter_le _ _
theorem yO3 (A : Option Addr) (c : Nat) (L : List It) (T : Heap) (hA : jH6 A L.length) (hT : 0 < L.length → T = roE A (jA2 L)) (hro : Ro T) (hL : L.length ≤ 100000) (k : Nat) (s : List UInt8) :
  Fn Tryz.prog 19 [.slice A L.length c, uq k, .string (str s)] T fun v H' => ∃ u, v = .tuple #[u, iq (jE1 k s (jS1 k L))] ∧ ((jE1 k s (jS1 k L) = 0 ∧ RowOk u (rPut k s L).length ∧ H' = rowE u 51 2 (jA2 (rPut k s L))) ∨ (jE1 k s (jS1 k L) ≠ 0 ∧ u = .slice A L.length c ∧ H' = [])) := by
 refine Fn.enter (N := 72) Tryz.func19 rfl (by kernel_rfl) rfl (fun w0 => ?_)
 refine aR fun Z hZ => sA rfl rfl <| sAN hZ rfl rfl <| f3K 0 1 2 rfl <| aS <| aR fun Z hZ => sM rfl rfl <| jO3 rfl rfl rfl <| sN (hZ _ _ <| f4K 0 1 2 14 rfl <| aC0 (fun h => ?_) (fun h => ?_))
 ·have h' : 6004799503160661 ≤ k := by simp at h; omega
  have hw : jE1 k s (jS1 k L) = 8 := by unfold jE1; rw [if_pos h']
  rw [hw]
  refine aR fun Z hZ => sM rfl rfl <| sA rfl rfl <| sAN hZ rfl rfl <| f2K 6 7 rfl <| aE ?_
  repeat refine nTR ?_
  exact jD9 [] rfl rfl rfl (HLe.sub (lN _)) ⟨_, rfl, .inr ⟨by decide, rfl, rfl⟩⟩
 have h' : ¬ 6004799503160661 ≤ k := by simp at h; omega
 refine aK <| nN <| aS <| aR fun Z hZ => sM rfl rfl <| jD6 Tryz.underlying9 rfl rfl <| jB0 ?_
 refine sN (hZ _ _ <| f4K 0 1 2 18 rfl <| aC0 (fun h1 => ?_) (fun h1 => ?_))
 ·have h1' : s = [] := by simpa using h1
  have hw : jE1 k s (jS1 k L) = 2 := by unfold jE1; rw [if_neg h', if_pos h1']
  rw [hw]
  refine aR fun Z hZ => sM rfl rfl <| sA rfl rfl <| sAN hZ rfl rfl <| f2K 6 7 rfl <| aE ?_
  repeat refine nTR ?_
  exact jD9 [] rfl rfl rfl (HLe.sub (lN _)) ⟨_, rfl, .inr ⟨by decide, rfl, rfl⟩⟩
 have h1' : ¬ s = [] := by simpa using h1
 refine aK <| nN <| aS <| aR fun Z hZ => sM rfl rfl <| jD6 Tryz.underlying9 rfl rfl <| jC4 ?_
 refine sN (hZ _ _ <| f4K 0 1 2 22 rfl <| aC0 (fun h2 => ?_) (fun h2 => ?_))
 ·have h2' : 65536 < s.length := by simp at h2; omega
  have hw : jE1 k s (jS1 k L) = 5 := by unfold jE1; rw [if_neg h', if_neg h1', if_pos h2']
  rw [hw]
  refine aR fun Z hZ => sM rfl rfl <| sA rfl rfl <| sAN hZ rfl rfl <| f2K 6 7 rfl <| aE ?_
  repeat refine nTR ?_
  exact jD9 [] rfl rfl rfl (HLe.sub (lN _)) ⟨_, rfl, .inr ⟨by decide, rfl, rfl⟩⟩
 have h2' : ¬ 65536 < s.length := by simp at h2; omega
 refine aK <| nN <| aR fun Z hZ => sM rfl rfl <| sM rfl rfl <| jD1 T (wF5 A c L T hA hT (by omega) k) rfl (xU _) hro rfl ?_
 refine sM rfl rfl <| sX rfl rfl rfl <| sX rfl rfl rfl <| sA rfl rfl <| sAN hZ rfl rfl <| f4K 0 1 2 9 rfl <| aS <| jA3 [(0, .slice A L.length c), (1, uq k), (2, .string (str s)), (36, .bool (jS1 k L))] T (fun Z hZ => ?_) ?_
 ·refine sM rfl rfl <| jI8 rfl rfl <| sM rfl rfl <| jD0 32 rfl (fun hb2 => ?_) (fun hb2 => ?_)
  ·refine sOn0 ?_
   refine sM rfl rfl <| sOn0 ?_
   refine jE2 Tryz.underlying22 rfl rfl <| sOn0 ?_
   refine jO3 rfl rfl rfl <| sP rfl rfl rfl <| sN (hZ _ _ ?_ ?_)
   ·exact Kn.cons rfl (Kn.cons rfl (Kn.cons rfl (Kn.cons (congrArg some (congrArg Value.bool (by unfold jS1; simp at hb2; rw [hb2, lR]; first | (simp; done) | (simp; omega)))) Kn.nil)))
   ·exact HLe.refl _
  ·refine sO0 ?_
   refine sO0 ?_
   refine sO0 ?_
   refine sP rfl rfl rfl <| sN (hZ _ _ ?_ ?_)
   ·exact Kn.cons rfl (Kn.cons rfl (Kn.cons rfl (Kn.cons (congrArg some (congrArg Value.bool (by unfold jS1; simp at hb2; rw [hb2, lR]; first | (simp; done) | (simp; omega)))) Kn.nil)))
   ·exact HLe.refl _
 refine aC0 (fun h3 => ?_) (fun h3 => ?_)
 ·have hw : jE1 k s (jS1 k L) = 7 := by unfold jE1; rw [if_neg h', if_neg h1', if_neg h2', if_pos h3]
  rw [hw]
  refine aR fun Z hZ => sM rfl rfl <| sA rfl rfl <| sAN hZ rfl rfl <| f2K 6 7 rfl <| aE ?_
  repeat refine nTR ?_
  exact jD9 [] rfl rfl rfl (HLe.sub (lN _)) ⟨_, rfl, .inr ⟨by decide, rfl, rfl⟩⟩
 have hw : jE1 k s (jS1 k L) = 0 := by unfold jE1; rw [if_neg h', if_neg h1', if_neg h2', h3]; rfl
 rw [hw]
 have hdl := wX0 k L
 obtain ⟨D, hD⟩ := xZ9 (rDel k L)
 have hpt : rPut k s L = D.take (cLo k D) ++ ⟨k, s⟩ :: D.drop (cLo k D) := by unfold rPut; rw [hD]
 have hdf := yO8 A c L T hA hT hro hL k
 rw [hD] at hdl hdf
 rw [hpt]
 obtain ⟨f1, f2, f3⟩ := kE3 k D
 refine aK <| nN <| aR fun Z hZ => sM rfl rfl <| sM rfl rfl <| kV9 T hdf rfl (xU _) hro rfl (fun A1 c1 hA1 => sAN hZ rfl rfl <| f3K 1 2 10 rfl <| jA6 (roE A1 (jA2 D)) (HLe.sub (lS _ _)) <| aA rfl rfl <| f4K 1 2 10 11 rfl <| jJ7 (ι := Unit) (fun _ => [(1, uq k), (2, .string (str s)), (10, .slice A1 D.length c1), (11, iq (cLo k D : Nat))]) (fun _ => roE A1 (jA2 D)) (fun _ => True) ?_ ?_)
 ·refine aB ?_
  refine jB9 (ι := Nat) (fun i => [(1, uq k), (2, .string (str s)), (10, .slice A1 D.length c1), (11, iq (i : Nat))]) (fun _ => roE A1 (jA2 D))
   (fun i => i ≤ D.length ∧ ∀ j, j < i → (itAt D j).id < k) (fun i => D.length - i) 0 ⟨by simp, fun j hj => by omega⟩ (kR rfl) (HLe.refl _) ?_
  rintro i ⟨hi, hj⟩
  rcases xP i D.length with hlt | hge
  ·have hx := jN9 hlt
   obtain ⟨g, o, rfl⟩ := hA1.arg (by omega)
   refine jA6 [.ro g o (jA2 D)] (HLe.refl _) <| aS <| jA3 [(1, uq k), (2, .string (str s)), (10, .slice (some ⟨g, o, none⟩) D.length c1), (11, iq (i : Nat)), (53, .bool (decide ((itAt D i).id < k)))] [.ro g o (jA2 D)] (fun Z hZ => ?_) ?_
   ·refine sM rfl rfl <| sM rfl rfl <| jE2 Tryz.underlying22 rfl rfl <| jB2 ?_
    refine sM rfl rfl <| jE5 45 rfl true (by simpa using hlt) ?_
    refine sOn0 ?_
    refine sM rfl rfl <| sOn0 ?_
    refine sM rfl rfl <| sOn0 ?_
    refine jB3 (o + i * 2) Tryz.underlying22 tyS51 rfl rfl (by omega) (by simp) rfl ?_
    refine sOn0 ?_
    refine sFA0 kF4 ?_
    refine sOn0 ?_
    refine jB4 0 rfl rfl (i * 2) rfl tyA25 tyS25 (jO6 hx) rfl <| sOn0 ?_
    refine sM rfl rfl <| sOn0 ?_
    refine jB2 ?_
    refine sP rfl rfl rfl <| sN (hZ _ _ ?_ ?_)
    ·exact Kn.cons rfl (Kn.cons rfl (Kn.cons rfl (Kn.cons rfl (Kn.cons (congrArg some (congrArg Value.bool (by first | rfl | (simp; done) | (rw [lR]; simp)))) Kn.nil))))
    ·exact HLe.refl _
   refine aC0 (fun h4 => ?_) (fun h4 => ?_)
   ·have h4' : (itAt D i).id < k := by simpa using h4
    refine aK ?_
    refine nN ?_
    refine aB ?_
    refine aG (fun Z hZ => ?_)
    refine sM rfl rfl ?_
    refine jC2 rfl rfl ((i + 1 : Nat) : Int) (by rw [lT _ (by omega)]; omega) rfl ?_
    refine sAN hZ rfl rfl <| nF [(1, _), (2, _), (10, _), (11, _)] (kR rfl) ?_
    repeat refine nBN ?_
    refine jB8 (i + 1) ⟨by omega, fun j hj2 => ?_⟩ (by omega) (kR rfl) (HLe.refl _)
    rcases xP j i with h5 | h5
    ·exact hj j h5
    ·obtain rfl : j = i := by omega
     exact h4'
   ·have h4' : ¬ (itAt D i).id < k := by simpa using h4
    have he := vU6 k D i hi hj (fun _ => by omega)
    refine jB1 ?_
    repeat refine nTE ?_
    refine nBE <| jE4 () trivial (Kn.cons rfl (Kn.cons rfl (Kn.cons rfl (Kn.cons (by rw [he]; rfl) Kn.nil)))) (HLe.refl _)
  ·have he := vU6 k D i hi hj (fun h => by omega)
   refine aS <| jA3 [(1, uq k), (2, .string (str s)), (10, .slice A1 D.length c1), (11, iq (i : Nat)), (53, .bool false)] (roE A1 (jA2 D)) (fun Z hZ => ?_) ?_
   ·refine sM rfl rfl <| sM rfl rfl <| jE2 Tryz.underlying22 rfl rfl <| jB2 ?_
    refine sM rfl rfl <| jE5 45 rfl false (by simpa using hge) ?_
    refine sO0 ?_
    refine sO0 ?_
    refine sO0 ?_
    refine sO0 ?_
    refine sO0 ?_
    refine sO0 ?_
    refine sO0 ?_
    refine sP rfl rfl rfl <| sN (hZ _ _ ?_ ?_)
    ·exact kR rfl
    ·exact HLe.refl _
   refine aC0 (fun h4 => ?_) (fun h4 => ?_)
   ·cases h4
   ·refine jB1 ?_
    repeat refine nTE ?_
    refine nBE <| jE4 () trivial (Kn.cons rfl (Kn.cons rfl (Kn.cons rfl (Kn.cons (by rw [he]; rfl) Kn.nil)))) (HLe.refl _)
 rintro ⟨⟩ -
 obtain ⟨p, hp⟩ := xZ9 (cLo k D)
 rw [hp] at f1 ⊢
 have hcap := hA1.cap
 have hrd : ∀ w0 Wr w, Sat w0 Wr (roE A1 (jA2 D)) w → Rd w 2 A1 D.length (jA2 D) := fun w0 Wr w hw => vQ7 hA1.arg (fun _ => rfl) (jG1 D) hA1.nil (HLe.refl _) hw
 refine aA rfl rfl <| f5K 1 2 10 11 12 rfl <| aR fun Z hZ => sM rfl rfl <| sM rfl rfl <| sM rfl rfl <| wC2 (i := 0) (j := p) Tryz.underlying22 tyS51 hA1 rfl rfl rfl (by omega) (by omega) rfl (fun A2 hA2 ht2 => ?_)
 refine jC9 (v := .slice none 0 0) (xs := []) (roE A1 (jA2 D)) kO6 rfl RowOk.nil rfl rfl (fun w hw => vK5 (hrd _ _ _ hw) hA1 (xD p) f1 ht2 hA2) (jX8 _) (by show _ ≤ 9223372036854775807; omega) (by omega) (by rw [show rowE (.slice none 0 0) 51 2 [] = [] from rfl, lH]; exact HLe.refl _) rfl (fun v1 hv1 => ?_)
 rw [lC, Nat.sub_zero, lD]
 rw [Nat.sub_zero, lA] at hv1
 refine sAN hZ rfl rfl <| f5K 1 2 10 11 12 rfl <| aR fun Z hZ => sM rfl rfl <| sM rfl rfl <| sM rfl rfl <| jD4 tyZ51 tyP51 ?_
 refine sBS0 Tryz.underlying22 tyS51 tyZ51 (fun g1 => ?_)
 refine jC9 (_ :: roE A1 (jA2 D)) kO6 rfl hv1 (by rw [jG1, xS]; omega) rfl (fun w hw => jJ3 (i := 0) (n := 1) (xs := [uq k, .string (str s)]) rfl rfl hw) rfl (by show _ ≤ 9223372036854775807; omega) (by omega) (HLe.refl _) rfl (fun v2 hv2 => ?_)
 refine sAN hZ rfl rfl <| f3K 10 11 12 rfl <| aR fun Z hZ => sM rfl rfl <| sM rfl rfl <| sM rfl rfl <| wC2 (i := p) (j := D.length) Tryz.underlying22 tyS51 hA1 rfl rfl rfl (by omega) (by omega) rfl (fun A3 hA3 ht3 => ?_)
 refine jC9 (_ :: roE A1 (jA2 D)) kO6 rfl hv2 (by rw [lX, jG1, xS]; simp; omega) rfl (fun w hw => vK5 (hrd _ _ _ (hw.sub ((x4 _ _).trans (lS (_ :: roE A1 (jA2 D)) _)))) hA1 f1 (xB _) ht3 hA3) (jX8 _) (by show _ ≤ 9223372036854775807; omega) (by omega) (HLe.refl _) rfl (fun v3 hv3 => ?_)
 refine sA rfl rfl <| sAN hZ rfl rfl <| f2K 6 7 rfl <| aE ?_
 have hll : (D.take p ++ ⟨k, s⟩ :: D.drop p).length = p + 1 + (D.length - p) := by
  rw [lX, xS, lE, xY]
  omega
 refine jD9 _ rfl rfl rfl (HLe.sub (lP (_ :: roE A1 (jA2 D)) _)) ⟨_, rfl, .inl ⟨rfl, by rw [hll]; exact hv3, ?_⟩⟩
 rw [qZ (show (D.drop p).length ≤ D.length - p by rw [xY]; exact xB _)]
 simp only [jA2, zV, xX, xF, It.cells, qS]
end
section
open Go.RowKit
def ofE : List Nat → List It → Nat
 | _, [] => 0
 | seen, e :: r => if e.id ∈ seen then 22 else if jE1 e.id e.tx (decide (2048 ≤ seen.length)) ≠ 0 then jE1 e.id e.tx (decide (2048 ≤ seen.length)) else ofE (seen ++ [e.id]) r
def ofQ (L : List It) : Nat := ofE [] L
def jT0 (L : List It) : List It := L.foldl (fun acc e => cPut e.id e.tx acc) []
def idsI (L : List It) : List Nat := L.map fun e => e.id
theorem vW2 (L : List It) (x : It) : jT0 (L ++ [x]) = cPut x.id x.tx (jT0 L) := by simp [jT0]
theorem wX2 {L : List It} (hr : Rise L) {k : Nat} (t : List UInt8) (h : cHas k L = false) : (cPut k t L).Perm (L ++ [⟨k, t⟩]) := by
 obtain ⟨X, Y, hh, ⟨s, rfl⟩ | rfl⟩ := kA4 hr k
 ·rw [hh.has1] at h; cases h
 ·rw [hh.put0]
  exact (List.perm_middle).trans (List.perm_append_singleton _ _).symm
theorem yT2 {L : List It} (hr : Rise L) (k : Nat) : cHas k L = true ↔ k ∈ idsI L := by
 obtain ⟨X, Y, hh, ⟨s, rfl⟩ | rfl⟩ := kA4 hr k
 ·rw [hh.has1]; simp [idsI]
 ·rw [hh.has0]
  simp only [idsI, x8, xH, xJ, Bool.false_eq_true, false_iff, not_or, not_exists, not_and]
  exact ⟨fun x hx => hh.ne.1 x hx, fun x hx => hh.ne.2 x hx⟩
theorem vQ1 : ∀ (L : List It), (idsI L).Nodup → Rise (jT0 L) ∧ (jT0 L).Perm L := by
 intro L
 rw [← List.reverse_reverse L]
 induction L.reverse with
 | nil => exact fun _ => ⟨qH, List.Perm.refl _⟩
 | cons x r ih =>
  intro hn
  rw [List.reverse_cons] at hn ⊢
  have hn2 : (idsI r.reverse).Nodup ∧ x.id ∉ idsI r.reverse := by
   simp only [idsI, x8, xN, qJ] at hn ⊢
   have := List.nodup_append.1 hn
   exact ⟨this.1, fun h => this.2.2 _ h _ (by simp) rfl⟩
  obtain ⟨h1, h2⟩ := ih hn2.1
  rw [vW2]
  have hh : cHas x.id (jT0 r.reverse) = false := by
   cases hc : cHas x.id (jT0 r.reverse) with
   | false => rfl
   | true => exact absurd ((h2.map fun e => e.id).mem_iff.1 ((yT2 h1 x.id).1 hc)) hn2.2
  exact ⟨vQ9 h1 _ _, (wX2 h1 x.tx hh).trans (h2.append_right _)⟩
theorem wF3 : ∀ {L M : List It}, Rise L → Rise M → L.Perm M → L = M
 | [], M, _, _, h => (List.nil_perm.1 h).symm
 | a :: r, [], _, _, h => absurd h (by simp)
 | a :: r, b :: s, hl, hm, h => by
  obtain ⟨a1, a2⟩ := List.pairwise_cons.1 hl
  obtain ⟨b1, b2⟩ := List.pairwise_cons.1 hm
  have hab : a = b := by
   have h1 : a ∈ b :: s := h.mem_iff.1 lO
   have h2 : b ∈ a :: r := h.mem_iff.2 lO
   rcases List.mem_cons.1 h1 with h1 | h1
   ·exact h1
   ·rcases List.mem_cons.1 h2 with h2 | h2
    ·exact h2.symm
    ·have := a1 b h2
     have := b1 a h1
     omega
  subst hab
  rw [wF3 a2 b2 (h.cons_inv)]
theorem yS0 {M : List It} (h : M.Pairwise (fun a b => a.id ≤ b.id)) (hn : (idsI M).Nodup) : Rise M := by
 induction M with
 | nil => exact qH
 | cons e r ih =>
  obtain ⟨h1, h2⟩ := List.pairwise_cons.1 h
  simp only [idsI, xN, zC] at hn
  refine List.pairwise_cons.2 ⟨fun x hx => ?_, ih h2 hn.2⟩
  have := h1 x hx
  have hne : e.id ≠ x.id := fun hh => hn.1 (by rw [hh]; exact List.mem_map_of_mem hx)
  omega
theorem yH4 : ∀ (L : List It) (seen : List Nat), ofE seen L = 0 → seen.Nodup → (seen ++ idsI L).Nodup ∧ (seen.length ≤ 2048 → seen.length + L.length ≤ 2048) ∧ ∀ e ∈ L, e.id < 6004799503160661 ∧ e.tx ≠ [] ∧ e.tx.length ≤ 65536
 | [], seen, _, hn => by simp [idsI, hn]
 | e :: r, seen, h, hn => by
  rw [ofE] at h
  split at h
  ·omega
  rename_i h1
  split at h
  ·rename_i h2; exact absurd h h2
  rename_i h2
  have hw : jE1 e.id e.tx (decide (2048 ≤ seen.length)) = 0 := by omega
  unfold jE1 at hw
  repeat' split at hw
  all_goals first | omega | skip
  rename_i w1 w2 w3 w4
  have w4' : seen.length < 2048 := by simpa using w4
  have hn2 : (seen ++ [e.id]).Nodup := List.nodup_append.2 ⟨hn, by simp, fun a ha b hb hab => h1 (by simp at hb; rw [← hb, ← hab]; exact ha)⟩
  obtain ⟨i1, i2, i3⟩ := yH4 r (seen ++ [e.id]) h hn2
  refine ⟨by simpa [idsI] using i1, fun _ => ?_, fun x hx => ?_⟩
  ·have := i2 (by simp; omega)
   simp at this ⊢
   omega
  ·rcases List.mem_cons.1 hx with rfl | hx
   ·exact ⟨by omega, w2, by omega⟩
   ·exact i3 x hx
theorem zH5 {L : List It} (h : ofQ L = 0) : (idsI L).Nodup ∧ L.length ≤ 2048 ∧ ChOk (jT0 L) ∧ (jT0 L).Perm L := by
 obtain ⟨h1, h2, h3⟩ := yH4 L [] h uB
 rw [lD] at h1
 have h2 := h2 (by simp)
 simp at h2
 obtain ⟨h4, h5⟩ := vQ1 L h1
 exact ⟨h1, h2, ⟨h4, fun e he => (h3 e (h5.mem_iff.1 he)).1, fun e he => (h3 e (h5.mem_iff.1 he)).2, by rw [h5.length_eq]; exact h2⟩, h5⟩
theorem wE3 {L M : List It} (h : (idsI L).Nodup) (hp : M.Perm L) (hs : M.Pairwise (fun a b => a.id ≤ b.id)) : M = jT0 L := by
 obtain ⟨h4, h5⟩ := vQ1 L h
 exact wF3 (yS0 hs ((hp.map fun e : It => e.id).nodup_iff.2 h)) h4 (hp.trans h5.symm)
end
section
open Go.RowKit Go.Sort
set_option maxRecDepth 100000
def wE5 : Go.Shelf.Ren := ⟨fun n => match n with | 0 => 0 | 1 => 1 | 2 => 2 | 6 => 38 | 14 => 93 | 15 => 94 | 20 => 139 | 21 => 140 | 22 => 141 | 23 => 142 | 24 => 143 | 25 => 144 | 26 => 145 | 27 => 146 | 28 => 147 | 29 => 136 | 46 => 186 | 47 => 187 | 48 => 188 | 49 => 189 | 50 => 190 | 57 => 229 | 60 => 272 | 61 => 273 | 62 => 274 | 63 => 275 | 64 => 276 | 65 => 277 | 66 => 278 | 67 => 279 | 68 => 280 | 69 => 281 | 70 => 282 | 71 => 283 | 72 => 284 | 73 => 285 | 74 => 286 | 75 => 295 | _ => 0, fun n => match n with | 0 => 0 | 1 => 1 | 2 => 2 | 3 => 3 | 4 => 4 | 5 => 5 | 6 => 6 | 7 => 7 | 8 => 8 | 9 => 9 | 10 => 10 | 11 => 11 | 12 => 12 | 13 => 13 | 14 => 14 | 15 => 15 | 16 => 16 | 17 => 17 | 18 => 18 | 19 => 19 | 20 => 20 | 21 => 21 | 22 => 28 | 23 => 99 | 24 => 53 | 25 => 101 | 27 => 247 | 37 => 184 | 38 => 185 | 39 => 186 | 42 => 269 | 44 => 239 | 45 => 240 | 46 => 241 | 47 => 242 | 48 => 243 | 49 => 244 | 50 => 103 | 51 => 245 | 52 => 246 | 53 => 78 | 54 => 181 | 55 => 25 | 66 => 279 | 67 => 280 | 68 => 167 | 69 => 281 | 70 => 282 | 71 => 283 | 76 => 314 | 77 => 315 | 78 => 316 | 81 => 119 | 82 => 361 | 83 => 362 | 84 => 363 | 85 => 364 | 86 => 365 | 87 => 140 | 88 => 366 | 89 => 367 | 90 => 368 | 91 => 254 | 92 => 369 | 93 => 370 | 94 => 371 | 95 => 372 | 96 => 288 | _ => 0, fun n => match n with | _ => 0⟩
theorem yG8 : SlLaysF0.n6 Tryz.prog wE5 where
 mixed := by kernel_rfl
 f6 := ⟨"slices.SortFunc[[]gazetteer/chart.Item,gazetteer/chart.Item]", by decide, by kernel_rfl⟩
 f14 := ⟨"slices.pdqsortCmpFunc[gazetteer/chart.Item]", by decide, by kernel_rfl⟩
 f15 := by kernel_rfl
 f20 := ⟨"slices.insertionSortCmpFunc[gazetteer/chart.Item]", by decide, by kernel_rfl⟩
 f21 := ⟨"slices.heapSortCmpFunc[gazetteer/chart.Item]", by decide, by kernel_rfl⟩
 f22 := ⟨"slices.breakPatternsCmpFunc[gazetteer/chart.Item]", by decide, by kernel_rfl⟩
 f23 := ⟨"slices.choosePivotCmpFunc[gazetteer/chart.Item]", by decide, by kernel_rfl⟩
 f24 := ⟨"slices.reverseRangeCmpFunc[gazetteer/chart.Item]", by decide, by kernel_rfl⟩
 f25 := ⟨"slices.partialInsertionSortCmpFunc[gazetteer/chart.Item]", by decide, by kernel_rfl⟩
 f26 := ⟨"slices.partitionEqualCmpFunc[gazetteer/chart.Item]", by decide, by kernel_rfl⟩
 f27 := ⟨"slices.partitionCmpFunc[gazetteer/chart.Item]", by decide, by kernel_rfl⟩
 f28 := by kernel_rfl
 f29 := by kernel_rfl
 f46 := ⟨"slices.siftDownCmpFunc[gazetteer/chart.Item]", by decide, by kernel_rfl⟩
 f47 := by kernel_rfl
 f48 := by kernel_rfl
 f49 := ⟨"slices.medianAdjacentCmpFunc[gazetteer/chart.Item]", by decide, by kernel_rfl⟩
 f50 := ⟨"slices.medianCmpFunc[gazetteer/chart.Item]", by decide, by kernel_rfl⟩
 f57 := ⟨"slices.order2CmpFunc[gazetteer/chart.Item]", by decide, by kernel_rfl⟩
 t0 := by kernel_rfl
 a0 := fun w => by kernel_rfl
 z0 := fun w => by kernel_rfl
 v0 := fun w => by kernel_rfl
 t3 := by kernel_rfl
 a3 := fun w => by kernel_rfl
 z3 := fun w => by kernel_rfl
 v3 := fun w => by kernel_rfl
 t4 := by kernel_rfl
 a4 := fun w => by kernel_rfl
 z4 := fun w => by kernel_rfl
 v4 := fun w => by kernel_rfl
 t5 := by kernel_rfl
 a5 := fun w => by kernel_rfl
 z5 := fun w => by kernel_rfl
 v5 := fun w => by kernel_rfl
 t9 := by kernel_rfl
 a9 := fun w => by kernel_rfl
 z9 := fun w => by kernel_rfl
 v9 := fun w => by kernel_rfl
 t22 := by kernel_rfl
 a22 := fun w => by kernel_rfl
 z22 := fun w => by kernel_rfl
 v22 := fun w => by kernel_rfl
 t25 := by kernel_rfl
 a25 := fun w => by kernel_rfl
 z25 := fun w => by kernel_rfl
 v25 := fun w => by kernel_rfl
 t39 := by kernel_rfl
 a39 := fun w => by kernel_rfl
 z39 := fun w => by kernel_rfl
 v39 := fun w => by kernel_rfl
 t45 := by kernel_rfl
 a45 := fun w => by kernel_rfl
 z45 := fun w => by kernel_rfl
 v45 := fun w => by kernel_rfl
 t46 := by kernel_rfl
 a46 := fun w => by kernel_rfl
 z46 := fun w => by kernel_rfl
 v46 := fun w => by kernel_rfl
 t50 := by kernel_rfl
 a50 := fun w => by kernel_rfl
 z50 := fun w => by kernel_rfl
 v50 := fun w => by kernel_rfl
 t53 := by kernel_rfl
 a53 := fun w => by kernel_rfl
 z53 := fun w => by kernel_rfl
 v53 := fun w => by kernel_rfl
 t55 := by kernel_rfl
 a55 := fun w => by kernel_rfl
 z55 := fun w => by kernel_rfl
 v55 := fun w => by kernel_rfl
 t66 := by kernel_rfl
 a66 := fun w => by kernel_rfl
 z66 := fun w => by kernel_rfl
 v66 := fun w => by kernel_rfl
 t70 := by kernel_rfl
 a70 := fun w => by kernel_rfl
 z70 := fun w => by kernel_rfl
 v70 := fun w => by kernel_rfl
 t76 := by kernel_rfl
 a76 := fun w => by kernel_rfl
 z76 := fun w => by kernel_rfl
 v76 := fun w => by kernel_rfl
 t77 := by kernel_rfl
 a77 := fun w => by kernel_rfl
 z77 := fun w => by kernel_rfl
 v77 := fun w => by kernel_rfl
theorem zC4 (x y : It) (W : World) : Calls Tryz.prog 39 #[x.val, y.val] W fun e w' => e = .returned (iq (cmpQ x.id y.id)) ∧ ∃ q os', w' = grow (W.drewN q) os' := by
 have hcon := yJ0 x.id y.id
 generalize cmpQ x.id y.id = r at hcon ⊢
 go_enter Tryz.func39, Tryz.ntmps39
 go_wp2_with (go_at_call 40; refine (hcon _).mono ?_; rintro e w' ⟨rfl, rfl⟩)
 go_ret
 exact ⟨rfl, 0, _, by rw [alloc_eq_grow, alloc_eq_grow, grow_grow]; rfl⟩
instance : Inhabited It := ⟨⟨0, []⟩⟩
theorem vY1 (blk off size : Nat) (w : World) : CmpLays Tryz.prog 39 #[] It.cells 2 (fun x y => cmpQ x.id y.id) blk off size w :=
 fun _ _ _ _ x y => zC4 x y _
theorem kY8 (x y : It) : ltOf (fun x y : It => cmpQ x.id y.id) x y = decide (x.id < y.id) := by
 unfold ltOf
 rw [lR]
 simp [cmpQ_lt]
theorem zD8 : SWO (ltOf fun x y : It => cmpQ x.id y.id) where
 irrefl x := by rw [kY8]; simp
 trans x y z h1 h2 := by rw [kY8] at *; simp at *; omega
 ntrans x y z h1 h2 := by rw [kY8] at *; simp at *; omega
theorem kR9 : ∀ (L : List It) (t : Nat), t < L.length * 2 → (jA2 L)[t]? = some ((L[t / 2]!).cells)[t % 2]!
 | [], t, h => by simp at h
 | e :: r, 0, _ => by simp
 | e :: r, 1, _ => by simp
 | e :: r, t + 2, h => by
  have h1 := kR9 r t (by simp at h; omega)
  have e1 : (t + 2) / 2 = t / 2 + 1 := by omega
  have e2 : (t + 2) % 2 = t % 2 := by omega
  rw [e1, e2]
  simp only [jA2, xX, It.cells] at h1 ⊢
  simpa using h1
theorem wK3 (L : List It) : (flatK It.cells 2 L.toArray).toList = jA2 L := by
 refine uM fun t => ?_
 rcases xP t (L.length * 2) with h | h
 ·rw [kR9 L t h]
  have hs : t < (flatK It.cells 2 L.toArray).size := by rw [size_flatK]; simpa using h
  have g := get_flatK It.cells 2 L.toArray t (by simpa using h)
  rw [getElem!_pos _ t hs] at g
  rw [qW, qV hs, g]
  simp
 ·rw [qL (by simpa using h), qL (by rw [jG1]; omega)]
theorem kS3 : Enters Tryz.prog 38 := Enters.mk Tryz.func38 (by kernel_rfl) (by kernel_rfl)
theorem yN5 (g n c : Nat) (L : List It) (hn : n = L.length) (hL : L.length ≤ 1000000) :
  Fn Tryz.prog 38 [.slice (some ⟨g, 0, none⟩) n c, .func (.func 39) #[] #[]] [.ob g (RowP 53 2 n c (jA2 L))] fun v H' => v = .tuple #[] ∧ ∃ M : List It, M.Perm L ∧ M.Pairwise (fun a b => a.id ≤ b.id) ∧ H' = [.ob g (RowP 53 2 n c (jA2 M))] := by
 refine ⟨kS3, fun w hw => ?_⟩
 subst hn
 obtain ⟨⟨ob, hob, cur, rfl, hc1, hc2, hc3, hc4, hc5⟩, _⟩ := hw.ents _ lO
 have hlt : g < w.heap.size := (Array.getElem?_eq_some_iff.1 hob).1
 have eg : ∀ args w, (callFunc 39 args).run Tryz.prog w = .ok (.enter 39 args) w := enters_of Tryz.func39 (by kernel_rfl) rfl
 have hH : HoldsK It.cells 2 w g 0 L.toArray := fun j hj => by
  have hj' : j < L.length * 2 := by simpa using hj
  have hjs : j < (flatK It.cells 2 L.toArray).size := hj
  have h1 : (jA2 L)[j]? = some ((flatK It.cells 2 L.toArray)[j]!) := by
   rw [← wK3, qW, qV hjs, getElem!_pos _ j hjs]
  refine ⟨?_, ?_⟩
  ·rw [lA]
   simp only [World.cell?, hob]
   rw [← hc4, qU, if_pos hj'] at h1
   simpa using h1
  ·simp [World.frozen?, hob]
 have hcon := AnyQ.slices_SortFunc yG8 2 (fun w => by kernel_rfl) (fun w => by kernel_rfl) It.cells (fun _ => rfl) (fun x v hv => by simp [It.cells] at hv; rcases hv with rfl | rfl <;> rfl) (fun x y => cmpQ x.id y.id) zD8 39 #[] g 0 c L.toArray w eg (vY1 g 0 _ w) hH hlt (by simp; omega)
 have hcon' : Calls Tryz.prog 38 #[.slice (some ⟨g, 0, none⟩) L.length c, .func (.func 39) #[] #[]] w (fun e w' => e = .returned (.tuple #[]) ∧ ∃ d' n os, PermIn 0 L.length L.toArray d' ∧ SortedIn (ltOf fun x y : It => cmpQ x.id y.id) 0 L.length d' ∧ w' = sortWorldK It.cells 2 w g 0 n d' os) := hcon
 refine hcon'.mono fun e w' he => ?_
 obtain ⟨he, d', m, os, hp, hs, rfl⟩ := he
 have hsz : d'.size = L.length := by simpa using hp.1
 have hperm : d'.toList.Perm L := by
  have := hp.2.2
  have e : List.take d'.size L = L := by rw [hsz, x6]
  simpa [← hsz, e] using this
 refine ⟨_, [.ob g (RowP 53 2 L.length c (jA2 d'.toList))], he, ⟨rfl, d'.toList, hperm, ?_, rfl⟩, ?_⟩
 ·refine List.pairwise_iff_getElem.2 fun i j hi hj hij => ?_
  have h1 := hs i j (xD _) hij (by simp at hj ⊢; omega)
  rw [kY8] at h1
  simp at hi hj
  rw [getElem!_pos d' i hi, getElem!_pos d' j hj] at h1
  simpa using h1
 ·have hfs : (flatK It.cells 2 d').size = L.length * 2 := by rw [size_flatK, hsz]
  have hfl : (flatK It.cells 2 d').toList = jA2 d'.toList := by have := wK3 d'.toList; simpa using this
  obtain ⟨cur', hcur'⟩ : ∃ c', putCells id 0 (flatK It.cells 2 d') cur = c' := ⟨_, rfl⟩
  have hcs : cur'.size = c * 2 := by rw [← hcur']; simp [putCells, hc3]
  have hct : cur'.toList.take (L.length * 2) = jA2 d'.toList := by
   refine uM fun t => ?_
   rcases xP t (L.length * 2) with h | h
   ·have ht : t < cur.size := by omega
    have htf : t < (flatK It.cells 2 d').size := by omega
    rw [qU, if_pos h, qW, ← hcur', ← hfl, qW]
    simp only [putCells, Array.getElem?_mapIdx, qV ht, qA, qV htf]
    rw [if_pos ⟨xD _, by omega⟩, Nat.sub_zero, getElem!_pos _ t htf]
    rfl
   ·rw [qL (by rw [xS]; omega), qL (by rw [jG1]; simp; omega)]
  have hblk : ∀ k, k < w.heap.size → (sortWorldK It.cells 2 w g 0 m d' os).heap[k]? = if g = k then some (.cells cur' 53 (0, 0)) else w.heap[k]? := fun k hk => by
   simp only [sortWorldK, grow, putRowK, putRow, mapBlock, Go.Sort.ahead]
   rw [Array.getElem?_append_left (by simpa using hk), zX]
   by_cases hgk : g = k
   ·subst hgk
    rw [if_pos rfl, if_pos rfl, hob, qA, onCells, hcur']
   ·rw [if_neg hgk, if_neg hgk]
  refine ⟨⟨rfl, rfl, rfl, by simp only [sortWorldK, grow, putRowK, putRow, mapBlock, Go.Sort.ahead, Array.size_append, Array.size_modify]; exact Nat.le_add_right _ _, fun k hk hn => ?_⟩, fun x hx => ?_, List.pairwise_singleton _ _⟩
  ·rw [hblk k hk, if_neg (fun h => hn (by subst h; exact (lO : g ∈ [g])))]
  ·obtain rfl := List.mem_singleton.1 hx
   refine ⟨⟨_, ?_, cur', rfl, hc1, hc2, hcs, hct, by rw [jG1]; simp [hsz]⟩, fun _ => .inl (lO : g ∈ [g])⟩
   have := hblk g hlt
   rw [if_pos rfl] at this
   exact this
theorem wW1 (A : Option Addr) (c : Nat) : Fn Tryz.prog 38 [.slice A 0 c, .func (.func 39) #[] #[]] [] fun v _ => v = .tuple #[] :=
 Fn.of_same kS3 fun w => (AnyF.slices_SortFunc_none yG8 A c (.func (.func 39) #[] #[]) w).mono fun e w' ⟨he, hw⟩ => ⟨he, hw.symm⟩
end
section
open Go.RowKit
def jR9 (k : Nat) : Int := if 6004799503160661 ≤ k then -1 else (((Lib.bitLen (3 * k + 1) - 1) / 2 : Nat) : Int)
def jW4 : Nat → Nat
 | 0 => 0
 | z + 1 => jW4 z + 4 ^ z
theorem kL1 (z : Nat) : 3 * jW4 z + 1 = 4 ^ z := by
 induction z with
 | zero => rfl
 | succ z ih => rw [jW4, qY]; omega
theorem vU8 : jW4 27 = 6004799503160661 := by decide
theorem vU7 (x : Nat) (h0 : x ≠ 0) (h : x < 18446744073709551616) : 1 ≤ Lib.bitLen x ∧ 2 ^ (Lib.bitLen x - 1) ≤ x ∧ x < 2 ^ Lib.bitLen x := Lib.bitLenAux_bounds 64 x h h0
theorem wX7 {a b : Nat} (h : a ≤ b) : 4 ^ a ≤ 4 ^ b := z7 (by decide) h
theorem kS8 {a b : Nat} (h : a ≤ b) : jW4 a ≤ jW4 b := by
 have h1 := kL1 a
 have h2 := kL1 b
 have h3 := wX7 h
 omega
theorem yJ8 {k z : Nat} (hz : z ≤ 26) (h1 : jW4 z ≤ k) (h2 : k < jW4 (z + 1)) : jR9 k = (z : Int) := by
 have e1 := kL1 z
 have e2 := kL1 (z + 1)
 have e3 : jW4 (z + 1) ≤ jW4 27 := kS8 (by omega)
 rw [vU8] at e3
 unfold jR9
 rw [if_neg (by omega)]
 obtain ⟨b1, b2, b3⟩ := vU7 (3 * k + 1) (by omega) (by omega)
 have p1 : (4 : Nat) ^ z = 2 ^ (2 * z) := by rw [Nat.pow_mul]
 have p2 : (4 : Nat) ^ (z + 1) = 2 ^ (2 * z + 2) := by rw [show 2 * z + 2 = 2 * (z + 1) by omega, Nat.pow_mul]
 generalize Lib.bitLen (3 * k + 1) = b at b1 b2 b3 ⊢
 have q1 : b - 1 < 2 * z + 2 := (Nat.pow_lt_pow_iff_right (a := 2) (by decide)).1 (by omega)
 have q2 : 2 * z < b := (Nat.pow_lt_pow_iff_right (a := 2) (by decide)).1 (by omega)
 have : (b - 1) / 2 = z := by omega
 rw [this]
theorem wA0 {k : Nat} (h : k < 6004799503160661) : ∃ z : Nat, z ≤ 26 ∧ jR9 k = (z : Int) ∧ jW4 z ≤ k ∧ k < jW4 (z + 1) := by
 have key : ∀ n, k < jW4 n → ∃ z, z < n ∧ jW4 z ≤ k ∧ k < jW4 (z + 1) := by
  intro n
  induction n with
  | zero => intro h; simp [jW4] at h
  | succ n ih =>
   intro h
   rcases xP k (jW4 n) with h1 | h1
   ·obtain ⟨z, h2, h3⟩ := ih h1
    exact ⟨z, by omega, h3⟩
   ·exact ⟨n, by omega, h1, h⟩
 obtain ⟨z, h1, h2, h3⟩ := key 27 (by rw [vU8]; exact h)
 exact ⟨z, by omega, yJ8 (by omega) h2 h3, h2, h3⟩
theorem kT1 (k : Nat) (hk : k < 18446744073709551616) : Fn Tryz.prog 89 [uq k] [] fun v _ => v = iq (jR9 k) := by
 refine Fn.enter (N := 11) Tryz.func89 rfl (by kernel_rfl) rfl (fun w0 => ?_)
 refine aA rfl rfl <| f1K 0 rfl <| aS <| aR fun Z hZ => sM rfl rfl ?_
 first | refine jO3 rfl rfl rfl ?_ | refine sx_sgeq rfl rfl rfl ?_
 refine sN (hZ _ _ <| f2K 0 4 rfl ?_)
 first | refine aC0 (fun h => ?_) (fun h => ?_) | refine aS (aC0 (fun h => ?_) (fun h => ?_))
 ·have h' : 6004799503160661 ≤ k := by simp at h; omega
  rw [show jR9 k = -1 by unfold jR9; rw [if_pos h']]
  refine aA rfl rfl <| f1K 2 rfl <| aE ?_
  repeat (with_reducible (first | refine nTR ?_ | refine nBR ?_ | refine jF5 ?_))
  exact nR10 rfl
 have h' : ¬ 6004799503160661 ≤ k := by simp at h; omega
 rw [show jR9 k = (((Lib.bitLen (3 * k + 1) - 1) / 2 : Nat) : Int) by unfold jR9; rw [if_neg h']]
 obtain ⟨b1, b2, b3⟩ := vU7 (3 * k + 1) (by omega) (by omega)
 obtain ⟨b, hb⟩ := xZ9 (Lib.bitLen (3 * k + 1))
 have hl := yW6 (3 * k + 1) (by omega)
 have hb64 : b ≤ 64 := by
  have : b - 1 < 64 := (Nat.pow_lt_pow_iff_right (a := 2) (by decide)).1 (by rw [← hb]; omega)
  omega
 rw [hb] at hl b1 ⊢
 refine aK ?_
 repeat (with_reducible (first | refine nBN ?_ | refine kN6 ?_))
 with_reducible first | refine nN ?_ | refine jN8 ?_
 refine aR fun Z hZ => sM rfl rfl <| vB9 rfl rfl ((3 * k : Nat) : Int) (by rw [l6 _ (by omega)]; omega) rfl ?_
 refine jC2 rfl rfl ((3 * k + 1 : Nat) : Int) (by rw [l6 _ (by omega)]; omega) rfl ?_
 refine sCP0 hl ?_
 refine jN3 rfl rfl ((b - 1 : Nat) : Int) (by rw [lT _ (by omega)]; omega) rfl ?_
 refine yG2 rfl rfl (by omega) (((b - 1) / 2 : Nat) : Int) (by rw [Int.tdiv_eq_ediv_of_nonneg (by omega), lT _ (by omega)]; omega) rfl ?_
 refine sAN hZ rfl rfl <| f1K 2 rfl <| aE ?_
 repeat (with_reducible (first | refine nTR ?_ | refine nBR ?_ | refine jF5 ?_))
 exact nR10 rfl
end
end Go.Proofs.YtfeopecgedbfpaaGreatDoor
