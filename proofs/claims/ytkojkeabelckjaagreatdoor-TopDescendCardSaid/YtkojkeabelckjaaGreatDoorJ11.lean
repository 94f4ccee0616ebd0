/- Walks and plain laws for this claim (texts Gen1, Gop1, Gop2, Cm1, LayCh, LayGr, joined). Each theorem states its own conditions. -/
import Derived.Test.YtkojkeabelckjaaGreatDoorJ10
import Derived.Test.YtkojkeabelckjaaGreatDoorJ04
import Derived.ProofKit
import Derived.OpenShut
import Derived.ShutString
import Derived.ChangeOld
import Derived.Lib.SmallJoins
import Derived.Test.YtkojkeabelckjaaGreatDoorJ06
import Derived.Deep.Slices
import Derived.Test.YtkojkeabelckjaaGreatDoorJ05
import Derived.Test.YtkojkeabelckjaaGreatDoorJ08
import Derived.Test.YtkojkeabelckjaaGreatDoorJ09
import Derived.WalkKit
import Derived.Shelf.Strconv.Itoa0
import Derived.Shelf.Spec.SlicesGrow

section
set_option linter.all false
namespace Go.Proofs.YtkojkeabelckjaaGreatDoor.V
open Go.RowKit
abbrev wq4 (x : Nat) : Value := .int .u32 (x : Int)
structure En where
  (id off len run : Nat)
def En.ok (e : En) : Prop := e.id < 18446744073709551616 ∧ e.off < 18446744073709551616 ∧ e.len < 4294967296 ∧ e.run < 4294967296
abbrev En.cells (e : En) : List Value := [uq e.id, uq e.off, wq4 e.len, wq4 e.run]
abbrev En.val (e : En) : Value := .agg e.cells.toArray
def En.wide (e : En) : Nat := max 1 e.run
def En.next (e : En) : Nat := (e.off + e.len) % 18446744073709551616
def chkE (e : En) : Nat :=
  if e.len = 0 then 2 else if 6004799503160661 - e.wide < e.id then 8 else if 1099511627776 < e.off ∨ 1099511627776 < e.next then 8 else 0
def lastE (e : En) : Nat := if chkE e = 0 then e.id + e.wide - 1 else 0
theorem u64_w (x : Nat) : IntKind.u64.wrap (x : Int) = ((x % 18446744073709551616 : Nat) : Int) := by simp [IntKind.wrap, IntKind.bits, IntKind.signed]
theorem ewide_fn (e : En) (h : e.ok) : Fn Tryz.prog 138 [e.val] [] fun v _ => v = uq e.wide := by
  obtain ⟨h1, h2, h3, h4⟩ := h
  refine Fn.enter (N := 7) Tryz.func138 rfl (by kernel_rfl) rfl (fun w0 => ?_)
  refine aR (fun Z hZ => ?_)
  refine jA5 rfl rfl rfl (fun g1 => ?_)
  refine sA rfl rfl <| sN (hZ _ _ ?_)
  refine aF [(1, _)] (Kn.cons rfl (Kn.nil)) ?_
  refine aR (fun Z hZ => ?_)
  refine sFA rfl tyF114_3 (by simp only [Nat.zero_add]; rfl) rfl ?_
  first | refine sL 0 rfl rfl tyA112 tyS112 rfl rfl ?_
  refine sx_max rfl rfl ((e.wide : Nat) : Int) (by simp only [En.wide]; omega) rfl ?_
  refine jA6 Tryz.underlying112 Tryz.underlying45 rfl ((e.wide : Nat) : Int) (by rw [IntWalk.u64_in _ (by simp only [En.wide]; omega)]) rfl ?_
  refine sA rfl rfl <| sN (hZ _ _ ?_)
  refine aF [(2, _)] (Kn.cons rfl (Kn.nil)) ?_
  refine aE ?_
  exact nR1 rfl rfl rfl
theorem eend_fn (e : En) (h : e.ok) : Fn Tryz.prog 142 [e.val] [] fun v _ => v = uq e.next := by
  obtain ⟨h1, h2, h3, h4⟩ := h
  refine Fn.enter (N := 9) Tryz.func142 rfl (by kernel_rfl) rfl (fun w0 => ?_)
  refine aR (fun Z hZ => ?_)
  refine jA5 rfl rfl rfl (fun g1 => ?_)
  refine sA rfl rfl <| sN (hZ _ _ ?_)
  refine aF [(1, _)] (Kn.cons rfl (Kn.nil)) ?_
  refine aR (fun Z hZ => ?_)
  refine sFA rfl jF6 (by simp only [Nat.zero_add]; rfl) rfl ?_
  first | refine sL 0 rfl rfl tyA45 tyS45 rfl rfl ?_
  refine sFA rfl tyF114_2 (by simp only [Nat.zero_add]; rfl) rfl ?_
  first | refine sL 0 rfl rfl tyA112 tyS112 rfl rfl ?_
  refine jA6 Tryz.underlying112 Tryz.underlying45 rfl ((e.len : Nat) : Int) (by rw [IntWalk.u64_in _ (by omega)]) rfl ?_
  refine jA7 rfl rfl ((e.next : Nat) : Int) (by rw [← Int.natCast_add, u64_w]; rfl) rfl ?_
  refine sA rfl rfl <| sN (hZ _ _ ?_)
  refine aF [(2, _)] (Kn.cons rfl (Kn.nil)) ?_
  refine aE ?_
  exact nR1 rfl rfl rfl
theorem echeck_fn (e : En) (h : e.ok) : Fn Tryz.prog 93 [e.val] [] fun v _ => v = iq (chkE e) := by
  have hok := h
  obtain ⟨h1, h2, h3, h4⟩ := h
  have hw : e.wide ≤ 4294967296 := by simp only [En.wide]; omega
  refine Fn.enter (N := 23) Tryz.func93 rfl (by kernel_rfl) rfl (fun w0 => ?_)
  refine aR (fun Z hZ => ?_)
  refine jA5 rfl rfl rfl (fun g1 => ?_)
  refine sA rfl rfl <| sN (hZ _ _ ?_)
  refine aF [(1, _)] (Kn.cons rfl (Kn.nil)) ?_
  refine aS (aB ?_)
  refine aR (fun Z hZ => ?_)
  refine sFA rfl tyF114_2 (by simp only [Nat.zero_add]; rfl) rfl ?_
  first | refine sL 0 rfl rfl tyA112 tyS112 rfl rfl ?_
  refine jD7 rfl rfl rfl ?_
  refine sA rfl rfl <| sN (hZ _ _ ?_)
  refine aF [(1, _), (3, _)] (Kn.cons rfl (Kn.cons rfl (Kn.nil))) ?_
  refine aC rfl (fun ha => ?_) (fun ha => ?_)
  · have h0 : e.len = 0 := by simp at ha; omega
    rw [show chkE e = 2 by unfold chkE; rw [if_pos h0]]
    refine aR fun Z hZ => sA rfl rfl <| sN (hZ _ _ ?_)
    refine aF [(2, _)] (Kn.cons rfl (Kn.nil)) ?_
    refine aE ?_
    repeat (with_reducible (first | refine nTR ?_ | refine nBR ?_))
    exact nR1 rfl rfl rfl
  have h0 : e.len ≠ 0 := by simp at ha; omega
  refine jC1 mixed (by kernel_rfl) (fun Z hZ => ?_)
  refine qFA rfl tyF114_0 (by simp only [Nat.add_zero]; rfl) rfl ?_
  first | refine jA2 0 rfl rfl tyA45 tyS45 rfl rfl ?_
  first | refine sq_loadA 0 rfl rfl tyA114 tyS114 rfl (by simp only [List.take_succ_cons, List.take_zero, List.drop_zero, Value.cells]; rfl) rfl ?_
  refine jH7 (ewide_fn e hok) rfl rfl ?_
  refine sq_sub rfl rfl ((6004799503160661 - e.wide : Nat) : Int) (by rw [IntWalk.u64_in _ (by omega)]; omega) rfl ?_
  refine sq_gtr rfl rfl rfl ?_
  refine jA3 rfl rfl ?_
  refine jD0 (hZ _ _ ?_)
  refine aF [(1, _), (7, _)] (Kn.cons rfl (Kn.cons rfl (Kn.nil))) ?_
  refine aC rfl (fun hb => ?_) (fun hb => ?_)
  · have hb' : 6004799503160661 - e.wide < e.id := by simp at hb; omega
    rw [show chkE e = 8 by unfold chkE; rw [if_neg h0, if_pos hb']]
    refine aR fun Z hZ => sA rfl rfl <| sN (hZ _ _ ?_)
    refine aF [(2, _)] (Kn.cons rfl (Kn.nil)) ?_
    refine aE ?_
    repeat (with_reducible (first | refine nTR ?_ | refine nBR ?_))
    exact nR1 rfl rfl rfl
  have hb' : ¬ 6004799503160661 - e.wide < e.id := by simp at hb; omega
  refine jA1 [(14, .bool (decide (1099511627776 < e.off ∨ 1099511627776 < e.next)))] [] (fun Z hZ => ?_) ?_
  · refine sFA rfl jF6 (by simp only [Nat.zero_add]; rfl) rfl ?_
    first | refine sL 0 rfl rfl tyA45 tyS45 rfl rfl ?_
    refine jE3 rfl rfl rfl ?_
    refine sM rfl rfl ?_
    refine jB6 18 rfl (fun hb3 => ?_) (fun hb3 => ?_)
    · refine sO rfl rfl rfl rfl rfl ?_
      refine sO rfl rfl rfl rfl rfl ?_
      refine sO rfl rfl rfl rfl rfl ?_
      refine sP rfl rfl rfl <| sA rfl rfl ?_
      refine sN (hZ _ _ ?_ ?_)
      · exact Kn.cons (congrArg some (congrArg Value.bool (by simp at hb3; rw [Bool.eq_iff_iff]; simp; omega))) Kn.nil
      · exact HLe.pick [] (by simp) rfl
    · refine sOn rfl rfl rfl ?_
      first | refine sLA 0 rfl rfl tyA114 tyS114 rfl (by simp only [List.take_succ_cons, List.take_zero, List.drop_zero, Value.cells]; rfl) rfl ?_
      refine sOn rfl rfl rfl ?_
      refine sCP (eend_fn e hok) rfl rfl ?_
      refine sOn rfl rfl rfl ?_
      refine jE3 rfl rfl rfl ?_
      refine sP rfl rfl rfl <| sA rfl rfl ?_
      refine sN (hZ _ _ ?_ ?_)
      · exact Kn.cons (congrArg some (congrArg Value.bool (by simp at hb3; rw [Bool.eq_iff_iff]; simp; omega))) Kn.nil
      · exact HLe.pick [] (by simp) rfl
  refine aC rfl (fun hc => ?_) (fun hc => ?_)
  · have hc' : 1099511627776 < e.off ∨ 1099511627776 < e.next := by simpa using hc
    rw [show chkE e = 8 by unfold chkE; rw [if_neg h0, if_neg hb', if_pos hc']]
    refine aR fun Z hZ => sA rfl rfl <| sN (hZ _ _ ?_)
    refine aF [(2, _)] (Kn.cons rfl (Kn.nil)) ?_
    refine aE ?_
    repeat (with_reducible (first | refine nTR ?_ | refine nBR ?_))
    exact nR1 rfl rfl rfl
  have hc' : ¬ (1099511627776 < e.off ∨ 1099511627776 < e.next) := by simpa using hc
  rw [show chkE e = 0 by unfold chkE; rw [if_neg h0, if_neg hb', if_neg hc']]
  refine aK ?_
  repeat (with_reducible refine nBN ?_)
  with_reducible refine nN ?_
  refine aR fun Z hZ => sA rfl rfl <| sN (hZ _ _ ?_)
  refine aF [(2, _)] (Kn.cons rfl (Kn.nil)) ?_
  refine aE ?_
  exact nR1 rfl rfl rfl
theorem emay_fn (e : En) (h : e.ok) : Fn Tryz.prog 107 [e.val] [] fun v _ => v = .bool (decide (chkE e = 0)) := by
  refine Fn.enter (N := 6) Tryz.func107 rfl (by kernel_rfl) rfl (fun w0 => ?_)
  refine aR (fun Z hZ => ?_)
  refine jA5 rfl rfl rfl (fun g1 => ?_)
  refine sA rfl rfl <| sN (hZ _ _ ?_)
  refine aF [(1, _)] (Kn.cons rfl (Kn.nil)) ?_
  refine aR (fun Z hZ => ?_)
  first | refine sLA 0 rfl rfl tyA114 tyS114 rfl (by simp only [List.take_succ_cons, List.take_zero, List.drop_zero, Value.cells]; rfl) rfl ?_
  refine sCP (echeck_fn e h) rfl rfl ?_
  refine jD7 rfl rfl rfl ?_
  refine sA rfl rfl <| sN (hZ _ _ ?_)
  refine aF [(2, _)] (Kn.cons rfl (Kn.nil)) ?_
  refine aE ?_
  exact nR1 rfl rfl (congrArg Value.bool (by rw [Bool.eq_iff_iff]; simp))
theorem En.ok.wide {e : En} (h : e.ok) : 1 ≤ e.wide ∧ e.wide ≤ 4294967296 := by
  obtain ⟨_, _, _, h4⟩ := h
  simp only [En.wide]; omega
theorem chk_ok {e : En} (ho : e.ok) (h : chkE e = 0) : e.len ≠ 0 ∧ e.id + e.wide ≤ 6004799503160661 ∧ e.off ≤ 1099511627776 ∧ e.next ≤ 1099511627776 := by
  have hw := ho.wide
  unfold chkE at h
  split at h
  · cases h
  split at h
  · cases h
  split at h
  · cases h
  · rename_i a b c
    exact ⟨a, by omega, by omega, by omega⟩
theorem elast_fn (e : En) (h : e.ok) : Fn Tryz.prog 88 [e.val] [] fun v _ => v = uq (lastE e) := by
  have hok := h
  obtain ⟨h1, h2, h3, h4⟩ := h
  have hw : 1 ≤ e.wide ∧ e.wide ≤ 4294967296 := by simp only [En.wide]; omega
  refine Fn.enter (N := 12) Tryz.func88 rfl (by kernel_rfl) rfl (fun w0 => ?_)
  refine aR (fun Z hZ => ?_)
  refine jA5 rfl rfl rfl (fun g1 => ?_)
  refine sA rfl rfl <| sN (hZ _ _ ?_)
  refine aF [(1, _)] (Kn.cons rfl (Kn.nil)) ?_
  refine aS ?_
  refine aR (fun Z hZ => ?_)
  first | refine sLA 0 rfl rfl tyA114 tyS114 rfl (by simp only [List.take_succ_cons, List.take_zero, List.drop_zero, Value.cells]; rfl) rfl ?_
  refine sCP (emay_fn e hok) rfl rfl ?_
  refine sx_not rfl rfl ?_
  refine sN (hZ _ _ ?_)
  refine aF [(1, _), (5, _)] (Kn.cons rfl (Kn.cons rfl (Kn.nil))) ?_
  refine aC rfl (fun ha => ?_) (fun ha => ?_)
  · have h0 : chkE e ≠ 0 := by simpa using ha
    rw [show lastE e = 0 by unfold lastE; rw [if_neg h0]]
    refine aR fun Z hZ => sA rfl rfl <| sN (hZ _ _ ?_)
    refine aF [(2, _)] (Kn.cons rfl (Kn.nil)) ?_
    refine aE ?_
    repeat (with_reducible refine nTR ?_)
    exact nR1 rfl rfl rfl
  have h0 : chkE e = 0 := by simpa using ha
  obtain ⟨_, h5, _, _⟩ := chk_ok hok h0
  rw [show lastE e = e.id + e.wide - 1 by unfold lastE; rw [if_pos h0]]
  refine aK ?_
  with_reducible refine nN ?_
  refine jC1 mixed (by kernel_rfl) (fun Z hZ => ?_)
  refine qFA rfl tyF114_0 (by simp only [Nat.add_zero]; rfl) rfl ?_
  first | refine jA2 0 rfl rfl tyA45 tyS45 rfl rfl ?_
  first | refine sq_loadA 0 rfl rfl tyA114 tyS114 rfl (by simp only [List.take_succ_cons, List.take_zero, List.drop_zero, Value.cells]; rfl) rfl ?_
  refine jH7 (ewide_fn e hok) rfl rfl ?_
  refine sq_add rfl rfl ((e.id + e.wide : Nat) : Int) (by rw [IntWalk.u64_in _ (by omega)]; omega) rfl ?_
  refine sq_sub rfl rfl ((e.id + e.wide - 1 : Nat) : Int) (by rw [IntWalk.u64_in _ (by omega)]; omega) rfl ?_
  refine jA3 rfl rfl ?_
  refine jD0 (hZ _ _ ?_)
  refine aF [(2, _)] (Kn.cons rfl (Kn.nil)) ?_
  refine aE ?_
  exact nR1 rfl rfl rfl
end Go.Proofs.YtkojkeabelckjaaGreatDoor.V
namespace Go.Proofs.YtkojkeabelckjaaGreatDoor.V
open Go.RowKit
abbrev jA0 (L : List En) : List Value := L.flatMap En.cells
theorem en_len (e : En) : e.cells.length = 4 := rfl
theorem jH3 (L : List En) : (jA0 L).length = L.length * 4 := fm_len en_len L
theorem ecells_all {L : List En} {i : Nat} {x : En} (h : L[i]? = some x) : rdV true 4 (jA0 L) (i * 4) = some x.val := fm_rd en_len h
def rowQ : Nat → List En → Nat
  | _, [] => 0
  | free, e :: r => if chkE e = 0 then (if e.id < free then 10 else rowQ (lastE e + 1) r) else chkE e
def rowC (L : List En) : Nat := if 4096 < L.length then 21 else rowQ 0 L
def jD6 (L : List En) : Prop := ∀ e ∈ L, e.ok
theorem last_lt {e : En} (h : e.ok) : lastE e < 6004799503160661 := by
  have := h.wide
  unfold lastE
  split
  · rename_i h0
    have := chk_ok h h0
    omega
  · omega
theorem erow_fn (A : Option Addr) (c : Nat) (L : List En) (T : Heap) (hA : ArgOk A L.length) (hT : 0 < L.length → T = roE A (jA0 L)) (hro : Ro T) (hL : L.length ≤ maxLen) (hE : jD6 L) :
    Fn Tryz.prog 51 [.slice A L.length c] T fun v _ => v = iq (rowC L) := by
  have hL' : L.length ≤ 9223372036854775807 := hL
  refine Fn.enter (N := 29) Tryz.func51 rfl (by kernel_rfl) rfl (fun w0 => ?_)
  refine aR fun Z hZ => sA rfl rfl <| sN (hZ _ _ ?_)
  refine aF [(0, _)] (Kn.cons rfl (Kn.nil)) ?_
  refine aS ?_
  refine aR fun Z hZ => sM rfl rfl ?_
  refine jE7 Tryz.underlying68 rfl rfl ?_
  refine jE3 rfl rfl rfl ?_
  refine sN (hZ _ _ ?_)
  refine aF [(0, _), (9, _)] (Kn.cons rfl (Kn.cons rfl (Kn.nil))) ?_
  refine aC rfl (fun ha => ?_) (fun ha => ?_)
  · have h0 : 4096 < L.length := by simp at ha; omega
    rw [show rowC L = 21 by unfold rowC; rw [if_pos h0]]
    refine aR fun Z hZ => sA rfl rfl <| sN (hZ _ _ ?_)
    refine aF [(2, _)] (Kn.cons rfl (Kn.nil)) ?_
    refine aE ?_
    repeat (with_reducible refine nTR ?_)
    exact nR1 rfl rfl rfl
  have h0 : ¬ 4096 < L.length := by simp at ha; omega
  rw [show rowC L = rowQ 0 L by unfold rowC; rw [if_neg h0]]
  refine aK ?_
  with_reducible refine nN ?_
  refine aR fun Z hZ => sA rfl rfl <| sN (hZ _ _ ?_)
  refine aF [(0, _), (3, _)] (Kn.cons rfl (Kn.cons rfl (Kn.nil))) ?_
  refine aS ?_
  refine aR fun Z hZ => sM rfl rfl ?_
  refine jE7 Tryz.underlying68 rfl rfl ?_
  refine sM rfl rfl <| sN (hZ _ _ ?_)
  refine aF [(3, _), (10, _), (11, _), (12, _)] (Kn.cons rfl (Kn.cons rfl (Kn.cons rfl (Kn.cons rfl (Kn.nil))))) ?_
  refine aB ?_
  refine jC2 (ι := Nat × Nat) (fun i => [(3, uq i.2), (10, .slice A L.length c), (11, iq (L.length : Nat)), (12, iq (i.1 : Nat))]) (fun i => T)
    (fun i => i.1 ≤ L.length ∧ i.2 < 9000000000000000 ∧ rowQ i.2 (L.drop i.1) = rowQ 0 L) (fun i => L.length - i.1) (0, 0) ⟨by simp, by simp, rfl⟩ (Kn.cons rfl (Kn.cons rfl (Kn.cons rfl (Kn.cons rfl Kn.nil)))) (HLe.refl _) ?_
  rintro ⟨k, free⟩ ⟨hk, hf, hq⟩
  simp only at hk hf hq
  refine aR (fun Z hZ => ?_)
  refine jC3 rfl rfl rfl ?_
  refine sN (hZ _ _ ?_)
  refine aF [(3, _), (10, _), (11, _), (12, _), (13, _)] (Kn.cons rfl (Kn.cons rfl (Kn.cons rfl (Kn.cons rfl (Kn.cons rfl (Kn.nil)))))) ?_
  refine aS (aC rfl (fun h => ?_) (fun h => ?_))
  · have hlt : k < L.length := by simpa using h
    obtain ⟨x, hx⟩ : ∃ x, L[k]? = some x := ⟨_, List.getElem?_eq_getElem hlt⟩
    have hxe : L[k] = x := Option.some.inj ((List.getElem?_eq_getElem hlt).symm.trans hx)
    have hok : x.ok := hE x (List.mem_of_getElem? hx)
    have hl := last_lt hok
    obtain ⟨g, o, rfl⟩ := hA (by omega)
    obtain rfl := hT (by omega)
    have hdr : L.drop k = x :: L.drop (k + 1) := by rw [List.drop_eq_getElem_cons hlt, hxe]
    rw [hdr, rowQ] at hq
    refine aK ?_
    with_reducible refine nN ?_
    refine aS (aB ?_)
    refine aR (fun Z hZ => ?_)
    refine jB9 (o + k * 4) Tryz.underlying68 tyS114 rfl rfl (by omega) (by simp) rfl ?_
    refine jF0 0 rfl rfl (k * 4) rfl tyA114 tyS114 (ecells_all hx) rfl ?_
    refine sAl tyZ114 rfl (fun g1 => ?_)
    refine sS 0 rfl rfl rfl tyS114 (by simp only [Value.cells]; rfl) rfl rfl rfl (by simp only [List.take_zero, List.drop_succ_cons, List.drop_zero, List.nil_append, List.append_nil, List.length_cons, List.length_nil, Nat.reduceAdd, Nat.zero_add, wrV]; rfl) (by simp only [List.set_cons_zero]; rfl) ?_
    refine sN (hZ _ _ ?_)
    refine aF [(3, _), (5, _), (10, _), (11, _), (12, _)] (Kn.cons rfl (Kn.cons rfl (Kn.cons rfl (Kn.cons rfl (Kn.cons rfl (Kn.nil)))))) ?_
    refine aS ?_
    refine aR (fun Z hZ => ?_)
    refine sLA 0 rfl rfl tyA114 tyS114 rfl (by simp only [List.take_succ_cons, List.take_zero, List.drop_zero]; rfl) rfl ?_
    refine sCP (echeck_fn x hok) rfl rfl ?_
    refine sA rfl rfl <| sN (hZ _ _ ?_)
    refine aF [(3, _), (5, _), (6, _), (10, _), (11, _), (12, _)] (Kn.cons rfl (Kn.cons rfl (Kn.cons rfl (Kn.cons rfl (Kn.cons rfl (Kn.cons rfl (Kn.nil))))))) ?_
    refine aR fun Z hZ => sM rfl rfl ?_
    refine jC9 rfl rfl rfl ?_
    refine sN (hZ _ _ ?_)
    refine aF [(3, _), (5, _), (6, _), (10, _), (11, _), (12, _), (19, _)] (Kn.cons rfl (Kn.cons rfl (Kn.cons rfl (Kn.cons rfl (Kn.cons rfl (Kn.cons rfl (Kn.cons rfl (Kn.nil)))))))) ?_
    refine aC rfl (fun hb => ?_) (fun hb => ?_)
    · have hb' : chkE x ≠ 0 := by simp at hb; omega
      rw [if_neg hb'] at hq
      rw [← hq]
      refine aR fun Z hZ => sM rfl rfl <| sA rfl rfl <| sN (hZ _ _ ?_)
      refine aF [(2, _)] (Kn.cons rfl (Kn.nil)) ?_
      refine aE ?_
      repeat (with_reducible (first | refine nTR ?_ | refine nBR ?_))
      exact nR1 rfl rfl rfl
    have hb' : chkE x = 0 := by simp at hb; omega
    rw [if_pos hb'] at hq
    refine aK ?_
    with_reducible refine nN ?_
    refine aS ?_
    refine aR (fun Z hZ => ?_)
    refine sFA rfl tyF114_0 (by simp only [Nat.add_zero]; rfl) rfl ?_
    refine sL 0 rfl rfl tyA45 tyS45 rfl rfl ?_
    refine sM rfl rfl ?_
    refine jC3 rfl rfl rfl ?_
    refine sN (hZ _ _ ?_)
    refine aF [(5, _), (10, _), (11, _), (12, _), (24, _)] (Kn.cons rfl (Kn.cons rfl (Kn.cons rfl (Kn.cons rfl (Kn.cons rfl (Kn.nil)))))) ?_
    refine aC rfl (fun hc => ?_) (fun hc => ?_)
    · have hc' : x.id < free := by simp at hc; omega
      rw [if_pos hc'] at hq
      rw [← hq]
      refine aR fun Z hZ => sA rfl rfl <| sN (hZ _ _ ?_)
      refine aF [(2, _)] (Kn.cons rfl (Kn.nil)) ?_
      refine aE ?_
      repeat (with_reducible (first | refine nTR ?_ | refine nBR ?_))
      exact nR1 rfl rfl rfl
    have hc' : ¬ x.id < free := by simp at hc; omega
    rw [if_neg hc'] at hq
    refine aK ?_
    with_reducible refine nN ?_
    refine aG (fun Z hZ => ?_)
    refine sLA 0 rfl rfl tyA114 tyS114 rfl (by simp only [List.take_succ_cons, List.take_zero, List.drop_zero]; rfl) rfl ?_
    refine sCP (elast_fn x hok) rfl rfl ?_
    refine jA7 rfl rfl ((lastE x + 1 : Nat) : Int) (by rw [IntWalk.u64_in _ (by omega)]; omega) rfl ?_
    refine sA rfl rfl <| sN (hZ _ _ ?_)
    refine nF [(3, _), (10, _), (11, _), (12, _)] (Kn.cons rfl (Kn.cons rfl (Kn.cons rfl (Kn.cons rfl (Kn.nil))))) ?_
    repeat (with_reducible refine nBN ?_)
    with_reducible refine nN ?_
    refine aG (fun Z hZ => ?_)
    refine jA7 rfl rfl ((k + 1 : Nat) : Int) (by rw [IntWalk.i64_in _ (by omega)]; omega) rfl ?_
    refine sM rfl rfl <| sN (hZ _ _ ?_)
    refine nF [(3, _), (10, _), (11, _), (12, _)] (Kn.cons rfl (Kn.cons rfl (Kn.cons rfl (Kn.cons rfl (Kn.nil))))) ?_
    exact jB4 (k + 1, lastE x + 1) ⟨by show k + 1 ≤ _; omega, by show lastE x + 1 < _; omega, hq⟩ (by simp; omega) (Kn.cons rfl (Kn.cons rfl (Kn.cons rfl (Kn.cons rfl Kn.nil)))) (HLe.drop 1 rfl)
  · refine jA8 ?_
    repeat (with_reducible refine nTE ?_)
    with_reducible refine nBE ?_
    with_reducible refine nN ?_
    have hke : k = L.length := by simp at h; omega
    subst hke
    rw [List.drop_length, rowQ] at hq
    rw [← hq]
    refine aR fun Z hZ => sA rfl rfl <| sN (hZ _ _ ?_)
    refine aF [(2, _)] (Kn.cons rfl (Kn.nil)) ?_
    refine aE ?_
    exact nR1 rfl rfl rfl
end Go.Proofs.YtkojkeabelckjaaGreatDoor.V
namespace Go.Proofs.YtkojkeabelckjaaGreatDoor.V
open Go.RowKit
theorem elemEn : ElemOk Tryz.prog 68 114 4 24 := ElemOk.mk_ (z := .agg #[uq 0, uq 0, wq4 0, wq4 0]) Tryz.underlying68 (by kernel_rfl) rfl (by omega)
theorem ecells_one (L : List En) : (jA0 L).all Value.oneCell' = true := List.all_eq_true.2 fun v hv => by
  obtain ⟨e, _, he⟩ := List.mem_flatMap.1 hv
  simp only [En.cells, List.mem_cons, List.not_mem_nil, or_false] at he
  rcases he with rfl | rfl | rfl | rfl <;> rfl
end Go.Proofs.YtkojkeabelckjaaGreatDoor.V
namespace Go.Proofs.YtkojkeabelckjaaGreatDoor.V
open Go.RowKit
end Go.Proofs.YtkojkeabelckjaaGreatDoor.V
end

section
set_option linter.all false
namespace Go.Proofs.YtkojkeabelckjaaGreatDoor
open Go.RowKit Go.ChangeShapes Go.WideShapes Go.ChangeAt Go.Joins
open Go.ChangeMaps (open_string)
section
variable {H : Type} {enc : TypeId × Value → H} {w : World} {base : Nat} {spare : Nat → Bool} {held : Bool}
theorem wf_i64 {x : Int} (h : (Lit.int .i64 x).wf = true) : -9223372036854775808 ≤ x ∧ x < 9223372036854775808 := by
  simp [Lit.wf, IntKind.min, IntKind.max, IntKind.signed, IntKind.bits] at h
  exact ⟨by omega, by omega⟩
end
end Go.Proofs.YtkojkeabelckjaaGreatDoor
namespace Go.Proofs.YtkojkeabelckjaaGreatDoor
open Go.RowKit Go.ChangeShapes Go.WideShapes Go.ChangeAt Go.Joins
section
variable {H : Type} {enc : TypeId × Value → H} {w : World} {base : Nat} {spare : Nat → Bool} {held : Bool}
end
end Go.Proofs.YtkojkeabelckjaaGreatDoor
end

section
set_option linter.all false
namespace Go.Proofs.YtkojkeabelckjaaGreatDoor
open Go.RowKit Go.ChangeShapes Go.WideShapes Go.ChangeAt Go.Joins
def Scal : TypeDesc → Value → Prop
  | .bool, v => ∃ b, v = .bool b
  | .int k, v => ∃ n, v = .int k n ∧ (Lit.int k n).wf = true
  | .string, v => ∃ l, v = .string (str l) ∧ l.length ≤ maxLen
  | _, _ => False
def leavesF (lv : TypeId → Option (List TypeDesc)) (sz : TypeId → Nat) : Nat → List Field → Option (List TypeDesc)
  | _, [] => some []
  | off, f :: r => match lv f.type, leavesF lv sz (off + sz f.type) r with
    | some a, some b => bif Nat.beq f.offset off && Nat.beq a.length (sz f.type) then some (a ++ b) else none
    | _, _ => none
def leaves (P : Program) : Nat → TypeId → Option (List TypeDesc)
  | 0, _ => none
  | n + 1, t => match P.underlying t with
    | some .bool => some [.bool]
    | some (.int k) => some [.int k]
    | some .string => some [.string]
    | some (.struct fs) => match leavesF (leaves P n) P.cellsOf 0 fs.toList with
      | some L => bif Nat.beq L.length (P.cellsOf t) then some L else none
      | none => none
    | _ => none
inductive Alike : List TypeDesc → List Value → Prop
  | nil : Alike [] []
  | cons {d : TypeDesc} {v : Value} {L : List TypeDesc} {cs : List Value} (h : Scal d v) (t : Alike L cs) : Alike (d :: L) (v :: cs)
theorem Alike.append : ∀ {L M : List TypeDesc} {a b : List Value}, Alike L a → Alike M b → Alike (L ++ M) (a ++ b)
  | [], _, _, _, .nil, h => h
  | _ :: _, _, _, _, .cons h t, k => .cons h (t.append k)
section
variable {H : Type} {enc : TypeId × Value → H} {P : Program} {w : World} {base : Nat} {spare : Nat → Bool} {held : Bool}
theorem leavesF_ok {lv : TypeId → Option (List TypeDesc)} {fuel : Nat} {cs : List Value} (ih : ∀ t L ds x, lv t = some L → DataW.trod enc P w base spare held fuel t ds = some x → Alike L ds) :
    ∀ (fs : List Field) (off : Nat) (L : List TypeDesc) (xs : List (DataW H × List MemPlace)), leavesF lv P.cellsOf off fs = some L → fs.mapM (fun f => DataW.trod enc P w base spare held fuel f.type ((cs.drop f.offset).take (P.cellsOf f.type))) = some xs → Alike L ((cs.drop off).take L.length)
  | [], off, L, xs, h, _ => by
    obtain rfl := Option.some.inj h
    simpa using Alike.nil
  | f :: r, off, L, xs, h, hx => by
    simp only [leavesF] at h
    cases h1 : lv f.type with
    | none => simp [h1] at h
    | some a =>
      cases h2 : leavesF lv P.cellsOf (off + P.cellsOf f.type) r with
      | none => simp [h1, h2] at h
      | some b =>
        simp only [h1, h2] at h
        cases hb : Nat.beq f.offset off && Nat.beq a.length (P.cellsOf f.type) with
        | false => rw [hb] at h; cases h
        | true =>
          rw [hb] at h
          obtain rfl := Option.some.inj h
          simp only [Bool.and_eq_true] at hb
          have e1 := Nat.eq_of_beq_eq_true hb.1
          have e2 := Nat.eq_of_beq_eq_true hb.2
          rw [List.mapM_cons] at hx
          cases k1 : DataW.trod enc P w base spare held fuel f.type ((cs.drop f.offset).take (P.cellsOf f.type)) with
          | none => simp [k1] at hx
          | some y =>
            cases k2 : r.mapM (fun f => DataW.trod enc P w base spare held fuel f.type ((cs.drop f.offset).take (P.cellsOf f.type))) with
            | none => simp [k1, k2] at hx
            | some ys =>
              have h3 := ih _ _ _ _ h1 k1
              have h4 := leavesF_ok ih r _ b ys h2 k2
              rw [e1, ← e2] at h3
              rw [← e2] at h4
              rw [List.length_append, List.take_add, List.drop_drop]
              exact h3.append h4
theorem leaves_ok : ∀ (n fuel : Nat) (t : TypeId) (L : List TypeDesc) (cs : List Value) (x : DataW H × List MemPlace), leaves P n t = some L → DataW.trod enc P w base spare held fuel t cs = some x → Alike L cs
  | 0, _, _, _, _, _, h, _ => by simp [leaves] at h
  | n + 1, 0, _, _, _, _, _, h => by simp [DataW.trod] at h
  | n + 1, fuel + 1, t, L, cs, x, hL, h => by
    unfold leaves at hL
    unfold DataW.trod at h
    cases hu : P.underlying t with
    | none => simp [hu] at hL
    | some d =>
      rw [hu] at hL
      simp only [hu] at h
      cases d with
      | bool =>
        obtain rfl := Option.some.inj hL
        rcases cs with _ | ⟨c, _ | ⟨c2, cs⟩⟩
        · simp at h
        · cases c <;> simp at h
          exact .cons ⟨_, rfl⟩ .nil
        · simp at h
      | int k =>
        obtain rfl := Option.some.inj hL
        rcases cs with _ | ⟨c, _ | ⟨c2, cs⟩⟩
        · simp at h
        · cases c <;> simp at h
          obtain ⟨⟨rfl, hw⟩, _⟩ := h
          exact .cons ⟨_, rfl, hw⟩ .nil
        · simp at h
      | string =>
        obtain rfl := Option.some.inj hL
        rcases cs with _ | ⟨c, _ | ⟨c2, cs⟩⟩
        · simp at h
        · cases c <;> simp at h
          rename_i s
          obtain ⟨l, rfl⟩ := str_of s
          exact .cons ⟨l, rfl, by have := h.1; rwa [str_size] at this⟩ .nil
        · simp at h
      | struct fs =>
        simp only at hL
        cases hF : leavesF (leaves P n) P.cellsOf 0 fs.toList with
        | none => simp [hF] at hL
        | some M =>
          simp only [hF] at hL
          cases hb : Nat.beq M.length (P.cellsOf t) with
          | false => rw [hb] at hL; cases hL
          | true =>
            rw [hb] at hL
            obtain rfl := Option.some.inj hL
            have e := Nat.eq_of_beq_eq_true hb
            simp only at h
            split at h
            · rename_i hl
              cases hx : fs.toList.mapM (fun f => DataW.trod enc P w base spare held fuel f.type ((cs.drop f.offset).take (P.cellsOf f.type))) with
              | none => simp [hx] at h
              | some xs =>
                have := leavesF_ok (fun t L ds x h1 h2 => leaves_ok n fuel t L ds x h1 h2) fs.toList 0 M xs hF hx
                rwa [List.drop_zero, e, ← hl, List.take_length] at this
            · cases h
      | _ => simp at hL
theorem open_struct {t : TypeId} {r : Reach} {b0 : Nat} {v : Value} {d : DataW H} {p : List MemPlace} {fs : Array Field} {L : List TypeDesc} (n : Nat) (ht : P.underlying t = some (.struct fs)) (hL : leaves P n t = some L)
    (hv : Value.okWide P w r b0 t v) (h : DataW.Trod enc P w base spare held t v d p) : ∃ cs, v = .agg cs.toArray ∧ Alike L cs := by
  obtain ⟨cs, rfl, hsz⟩ := okWide_struct ht hv
  obtain ⟨fuel, hf⟩ := h
  obtain ⟨l⟩ := cs
  exact ⟨l, rfl, leaves_ok n fuel t L l _ hL (by simpa [Value.cells] using hf)⟩
end
theorem alike_i64 {L : List TypeDesc} {cs : List Value} (h : Alike (.int .i64 :: L) cs) : ∃ (n : Int) (c : List Value), cs = .int .i64 n :: c ∧ (-9223372036854775808 ≤ n ∧ n < 9223372036854775808) ∧ Alike L c := by
  cases h with
  | cons h t =>
    obtain ⟨n, rfl, hn⟩ := h
    exact ⟨n, _, rfl, wf_i64 hn, t⟩
end Go.Proofs.YtkojkeabelckjaaGreatDoor
namespace Go.Proofs.YtkojkeabelckjaaGreatDoor
open Go.RowKit Go.ChangeShapes Go.WideShapes Go.ChangeAt Go.Joins
section
variable {H : Type} {enc : TypeId × Value → H} {P : Program} {w : World}
end
end Go.Proofs.YtkojkeabelckjaaGreatDoor
namespace Go.Proofs.YtkojkeabelckjaaGreatDoor
open Go.RowKit Go.ChangeShapes Go.WideShapes Go.ChangeAt Go.Joins
section
variable {H : Type} {enc : TypeId × Value → H} {P : Program} {w : World} {base : Nat} {spare : Nat → Bool} {held : Bool}
end
end Go.Proofs.YtkojkeabelckjaaGreatDoor
end

section
set_option linter.all false
namespace Go.Proofs.YtkojkeabelckjaaGreatDoor
open Go.RowKit
set_option maxRecDepth 100000
def cmpQ (a b : Nat) : Int := if a < b then -1 else if b < a then 1 else 0
theorem cmpQ_lt {a b : Nat} : cmpQ a b < 0 ↔ a < b := by
  unfold cmpQ
  repeat' split
  all_goals omega
theorem nan_is (a : Nat) (W : World) : Calls Tryz.prog 82 #[uq a] W fun e w' => e = .returned (.bool false) ∧ w' = W := by
  go_enter Tryz.func82, Tryz.ntmps82
  go_wp2
  go_ret
  exact ⟨rfl, rfl⟩
theorem cmp_is (a b : Nat) (W : World) : Calls Tryz.prog 40 #[uq a, uq b] W fun e w' => e = .returned (iq (cmpQ a b)) ∧ w' = W := by
  have h1 := nan_is a
  have h2 := nan_is b
  by_cases hab : a < b
  · rw [show cmpQ a b = -1 by unfold cmpQ; rw [if_pos hab]]
    go_enter Tryz.func40, Tryz.ntmps40
    go_wp2_with (first | (go_at_call 82; refine (h1 _).mono ?_; rintro e w' ⟨rfl, rfl⟩) | (go_at_call 82; refine (h2 _).mono ?_; rintro e w' ⟨rfl, rfl⟩))
    go_ret
    exact ⟨rfl, rfl⟩
  · by_cases hba : b < a
    · rw [show cmpQ a b = 1 by unfold cmpQ; rw [if_neg hab, if_pos hba]]
      go_enter Tryz.func40, Tryz.ntmps40
      go_wp2_with (first | (go_at_call 82; refine (h1 _).mono ?_; rintro e w' ⟨rfl, rfl⟩) | (go_at_call 82; refine (h2 _).mono ?_; rintro e w' ⟨rfl, rfl⟩))
      go_ret
      exact ⟨rfl, rfl⟩
    · rw [show cmpQ a b = 0 by unfold cmpQ; rw [if_neg hab, if_neg hba]]
      go_enter Tryz.func40, Tryz.ntmps40
      go_wp2_with (first | (go_at_call 82; refine (h1 _).mono ?_; rintro e w' ⟨rfl, rfl⟩) | (go_at_call 82; refine (h2 _).mono ?_; rintro e w' ⟨rfl, rfl⟩))
      go_ret
      exact ⟨rfl, rfl⟩
end Go.Proofs.YtkojkeabelckjaaGreatDoor
end

section
set_option linter.all false
namespace Go.Proofs.YtkojkeabelckjaaGreatDoor
open Go.RowKit
def clen_rho : Go.Shelf.Ren := ⟨fun n => match n with | 0 => 0 | 1 => 1 | 2 => 2 | 99 => 152 | 103 => 173 | 119 => 225 | 120 => 224 | 125 => 81 | 128 => 129 | 129 => 130 | 137 => 131 | 150 => 175 | 151 => 211 | 152 => 213 | 153 => 203 | 156 => 62 | 160 => 174 | 161 => 172 | 165 => 104 | 166 => 105 | 168 => 190 | 169 => 106 | 171 => 230 | 172 => 176 | 197 => 191 | 205 => 229 | 206 => 184 | 210 => 199 | 217 => 164 | 224 => 226 | 225 => 227 | 226 => 214 | 227 => 196 | 228 => 210 | 231 => 195 | 232 => 200 | 233 => 197 | 234 => 201 | 235 => 198 | 236 => 202 | 240 => 149 | 241 => 150 | 242 => 208 | 243 => 234 | 244 => 204 | 245 => 205 | 246 => 235 | 247 => 215 | 260 => 209 | 266 => 188 | 271 => 212 | 276 => 182 | 277 => 183 | 278 => 223 | 279 => 216 | 280 => 217 | 281 => 218 | 282 => 219 | 283 => 236 | 284 => 237 | 285 => 238 | 286 => 239 | 287 => 228 | 316 => 141 | 317 => 240 | 318 => 241 | 319 => 242 | 320 => 243 | 321 => 232 | 322 => 233 | 329 => 160 | 330 => 161 | 337 => 244 | 338 => 245 | 347 => 246 | 348 => 247 | 349 => 248 | 350 => 249 | 351 => 250 | 352 => 251 | 353 => 252 | 354 => 253 | 355 => 254 | 356 => 255 | 357 => 256 | 358 => 257 | 359 => 258 | 360 => 259 | 361 => 260 | 362 => 265 | 363 => 269 | 364 => 267 | 365 => 268 | 366 => 270 | 367 => 280 | _ => 0, fun n => match n with | 0 => 0 | 1 => 1 | 2 => 2 | 3 => 3 | 4 => 4 | 5 => 5 | 6 => 6 | 7 => 7 | 8 => 8 | 9 => 9 | 10 => 10 | 11 => 11 | 12 => 12 | 13 => 13 | 14 => 14 | 15 => 15 | 16 => 16 | 17 => 17 | 18 => 18 | 19 => 19 | 20 => 20 | 21 => 21 | 22 => 256 | 23 => 283 | 24 => 103 | 25 => 284 | 27 => 312 | 28 => 247 | 31 => 147 | 37 => 132 | 40 => 332 | 41 => 282 | 46 => 48 | 47 => 172 | 51 => 112 | 52 => 243 | 53 => 45 | 54 => 193 | 55 => 244 | 63 => 317 | 64 => 318 | 67 => 146 | 69 => 190 | 70 => 203 | 71 => 204 | 72 => 205 | 73 => 206 | 74 => 207 | 75 => 208 | 76 => 209 | 77 => 210 | 79 => 301 | 80 => 126 | 81 => 148 | 83 => 338 | 84 => 346 | 85 => 320 | 86 => 321 | 99 => 288 | 104 => 342 | 105 => 302 | 106 => 303 | 108 => 337 | 111 => 289 | 114 => 164 | 115 => 306 | 116 => 307 | 117 => 308 | 118 => 309 | 119 => 328 | 122 => 305 | 123 => 310 | 124 => 311 | 126 => 316 | 127 => 254 | 128 => 313 | 131 => 101 | 137 => 329 | 138 => 330 | 139 => 331 | 143 => 343 | 144 => 344 | 145 => 345 | 148 => 232 | 164 => 290 | 165 => 291 | 166 => 292 | 167 => 319 | 168 => 322 | 169 => 323 | 170 => 324 | 171 => 347 | 172 => 348 | 173 => 349 | 174 => 350 | 175 => 333 | 176 => 334 | 182 => 237 | 183 => 238 | 203 => 339 | 209 => 335 | 210 => 336 | 211 => 351 | 212 => 352 | 213 => 353 | 214 => 341 | 218 => 268 | 219 => 269 | 220 => 218 | 222 => 271 | 228 => 296 | 229 => 297 | 232 => 354 | 233 => 355 | 238 => 356 | 239 => 357 | 240 => 358 | 241 => 359 | 242 => 360 | 243 => 361 | 244 => 362 | 245 => 363 | 246 => 364 | 247 => 365 | 248 => 366 | 249 => 367 | _ => 0, fun n => match n with | 1 => 0 | 3 => 1 | 4 => 2 | 15 => 3 | 16 => 4 | 17 => 5 | 18 => 6 | 19 => 7 | _ => 0⟩
theorem clen0 : Lays.n129 Tryz.prog clen_rho where
  mixed := by kernel_rfl
  f129 := by kernel_rfl
  t3 := by kernel_rfl
  a3 := fun w => by kernel_rfl
  z3 := fun w => by kernel_rfl
  v3 := fun w => by kernel_rfl
  t4 := by kernel_rfl
  a4 := fun w => by kernel_rfl
  z4 := fun w => by kernel_rfl
  v4 := fun w => by kernel_rfl
  t5 := by kernel_rfl
  a5 := fun w => by kernel_rfl
  z5 := fun w => by kernel_rfl
  v5 := fun w => by kernel_rfl
  t9 := by kernel_rfl
  a9 := fun w => by kernel_rfl
  z9 := fun w => by kernel_rfl
  v9 := fun w => by kernel_rfl
  t46 := by kernel_rfl
  a46 := fun w => by kernel_rfl
  z46 := fun w => by kernel_rfl
  v46 := fun w => by kernel_rfl
  t53 := by kernel_rfl
  a53 := fun w => by kernel_rfl
  z53 := fun w => by kernel_rfl
  v53 := fun w => by kernel_rfl
theorem enter_clen : Enters Tryz.prog 130 := Enters.mk Tryz.func130 (by kernel_rfl) (by kernel_rfl)
theorem clen_fn (n : Nat) (h : n < 18446744073709551616) : Fn Tryz.prog 130 [uq n] [] fun v _ => v = iq (Lib.bitLen n) :=
  Fn.of_bel enter_clen fun w => (Any.bits_Len64 clen0 n w (by omega) (by omega)).mono fun e w' ⟨he, hw⟩ => ⟨he, hw ▸ Bel.refl w⟩
end Go.Proofs.YtkojkeabelckjaaGreatDoor
end
