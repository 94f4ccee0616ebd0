/- Walks and plain laws for this claim (texts Gen1, Mg1, Mg2, Mg3, joined). Each theorem states its own conditions. -/
import Derived.Test.YtkojkeabelckjaaGreatDoorJ15
import Derived.Test.YtkojkeabelckjaaGreatDoorJ11

section
set_option linter.all false
namespace Go.Proofs.YtkojkeabelckjaaGreatDoor.V
open Go.RowKit
abbrev wq4 (x : Nat) : Value := .int .u32 (x : Int)
structure En where
 (id off len run : Nat)
def En.ok (e : En) : Prop := e.id < 18446744073709551616 ∧ e.off < 18446744073709551616 ∧ e.len < 4294967296 ∧ e.run < 4294967296
abbrev En.cells (e : En) : List Value := [uq e.id, uq e.off, wq4 e.len, wq4 e.run]
abbrev En.val (e : En) : Value := .agg e.cells.toArray
def En.wide (e : En) : Nat := max 1 e.run
def En.next (e : En) : Nat := (e.off + e.len) % 18446744073709551616
def chkE (e : En) : Nat :=
 if e.len = 0 then 2 else if 6004799503160661 - e.wide < e.id then 8 else if 1099511627776 < e.off ∨ 1099511627776 < e.next then 8 else 0
def lastE (e : En) : Nat := if chkE e = 0 then e.id + e.wide - 1 else 0
theorem u64_w (x : Nat) : IntKind.u64.wrap (x : Int) = ((x % 18446744073709551616 : Nat) : Int) := by simp [IntKind.wrap, IntKind.bits, IntKind.signed]
theorem ewide_fn (e : En) (h : e.ok) : Fn Tryz.prog 138 [e.val] [] fun v _ => v = uq e.wide := by
 obtain ⟨h1, h2, h3, h4⟩ := h
 refine Fn.enter (N := 7) Tryz.func138 rfl (by kernel_rfl) rfl (fun w0 => ?_)
 refine aR (fun Z hZ => ?_)
 refine jC3 rfl rfl rfl (fun g1 => ?_)
 refine sA rfl rfl <| sN (hZ _ _ ?_)
 refine aF [(1, _)] (Kn.cons rfl (Kn.nil)) ?_
 refine aR (fun Z hZ => ?_)
 refine sFA rfl tyF114_3 (by simp only [Nat.zero_add]; rfl) rfl ?_
 first | refine sL 0 rfl rfl tyA112 tyS112 rfl rfl ?_
 refine sx_max rfl rfl ((e.wide : Nat) : Int) (by simp only [En.wide]; omega) rfl ?_
 refine jC2 Tryz.underlying112 Tryz.underlying45 rfl ((e.wide : Nat) : Int) (by rw [IntWalk.u64_in _ (by simp only [En.wide]; omega)]) rfl ?_
 refine sA rfl rfl <| sN (hZ _ _ ?_)
 refine aF [(2, _)] (Kn.cons rfl (Kn.nil)) ?_
 refine aE ?_
 exact nR1 rfl rfl rfl
theorem eend_fn (e : En) (h : e.ok) : Fn Tryz.prog 142 [e.val] [] fun v _ => v = uq e.next := by
 obtain ⟨h1, h2, h3, h4⟩ := h
 refine Fn.enter (N := 9) Tryz.func142 rfl (by kernel_rfl) rfl (fun w0 => ?_)
 refine aR (fun Z hZ => ?_)
 refine jC3 rfl rfl rfl (fun g1 => ?_)
 refine sA rfl rfl <| sN (hZ _ _ ?_)
 refine aF [(1, _)] (Kn.cons rfl (Kn.nil)) ?_
 refine aR (fun Z hZ => ?_)
 refine sFA rfl jH0 (by simp only [Nat.zero_add]; rfl) rfl ?_
 first | refine sL 0 rfl rfl tyA45 tyS45 rfl rfl ?_
 refine sFA rfl tyF114_2 (by simp only [Nat.zero_add]; rfl) rfl ?_
 first | refine sL 0 rfl rfl tyA112 tyS112 rfl rfl ?_
 refine jC2 Tryz.underlying112 Tryz.underlying45 rfl ((e.len : Nat) : Int) (by rw [IntWalk.u64_in _ (by omega)]) rfl ?_
 refine jB8 rfl rfl ((e.next : Nat) : Int) (by rw [← Int.natCast_add, u64_w]; rfl) rfl ?_
 refine sA rfl rfl <| sN (hZ _ _ ?_)
 refine aF [(2, _)] (Kn.cons rfl (Kn.nil)) ?_
 refine aE ?_
 exact nR1 rfl rfl rfl
theorem echeck_fn (e : En) (h : e.ok) : Fn Tryz.prog 93 [e.val] [] fun v _ => v = iq (chkE e) := by
 have hok := h
 obtain ⟨h1, h2, h3, h4⟩ := h
 have hw : e.wide ≤ 4294967296 := by simp only [En.wide]; omega
 refine Fn.enter (N := 23) Tryz.func93 rfl (by kernel_rfl) rfl (fun w0 => ?_)
 refine aR (fun Z hZ => ?_)
 refine jC3 rfl rfl rfl (fun g1 => ?_)
 refine sA rfl rfl <| sN (hZ _ _ ?_)
 refine aF [(1, _)] (Kn.cons rfl (Kn.nil)) ?_
 refine aS (aB ?_)
 refine aR (fun Z hZ => ?_)
 refine sFA rfl tyF114_2 (by simp only [Nat.zero_add]; rfl) rfl ?_
 first | refine sL 0 rfl rfl tyA112 tyS112 rfl rfl ?_
 refine jC8 rfl rfl rfl ?_
 refine sA rfl rfl <| sN (hZ _ _ ?_)
 refine aF [(1, _), (3, _)] (kR rfl) ?_
 refine aC rfl (fun ha => ?_) (fun ha => ?_)
 ·have h0 : e.len = 0 := by simp at ha; omega
  rw [show chkE e = 2 by unfold chkE; rw [if_pos h0]]
  refine aR fun Z hZ => sA rfl rfl <| sN (hZ _ _ ?_)
  refine aF [(2, _)] (Kn.cons rfl (Kn.nil)) ?_
  refine aE ?_
  repeat (with_reducible (first | refine nTR ?_ | refine nBR ?_))
  exact nR1 rfl rfl rfl
 have h0 : e.len ≠ 0 := by simp at ha; omega
 refine jB9 mixed (by kernel_rfl) (fun Z hZ => ?_)
 refine qFA rfl tyF114_0 (by simp only [Nat.add_zero]; rfl) rfl ?_
 first | refine jB7 0 rfl rfl tyA45 tyS45 rfl rfl ?_
 first | refine sq_loadA 0 rfl rfl tyA114 tyS114 rfl (by simp only [qS, Value.cells]; rfl) rfl ?_
 refine sq_callP (ewide_fn e hok) rfl rfl ?_
 refine sq_sub rfl rfl ((6004799503160661 - e.wide : Nat) : Int) (by rw [IntWalk.u64_in _ (by omega)]; omega) rfl ?_
 refine sq_gtr rfl rfl rfl ?_
 refine jB3 rfl rfl ?_
 refine jE0 (hZ _ _ ?_)
 refine aF [(1, _), (7, _)] (kR rfl) ?_
 refine aC rfl (fun hb => ?_) (fun hb => ?_)
 ·have hb' : 6004799503160661 - e.wide < e.id := by simp at hb; omega
  rw [show chkE e = 8 by unfold chkE; rw [if_neg h0, if_pos hb']]
  refine aR fun Z hZ => sA rfl rfl <| sN (hZ _ _ ?_)
  refine aF [(2, _)] (Kn.cons rfl (Kn.nil)) ?_
  refine aE ?_
  repeat (with_reducible (first | refine nTR ?_ | refine nBR ?_))
  exact nR1 rfl rfl rfl
 have hb' : ¬ 6004799503160661 - e.wide < e.id := by simp at hb; omega
 refine jA7 [(14, .bool (decide (1099511627776 < e.off ∨ 1099511627776 < e.next)))] [] (fun Z hZ => ?_) ?_
 ·refine sFA rfl jH0 (by simp only [Nat.zero_add]; rfl) rfl ?_
  first | refine sL 0 rfl rfl tyA45 tyS45 rfl rfl ?_
  refine jF3 rfl rfl rfl ?_
  refine sM rfl rfl ?_
  refine jG0 18 rfl (fun hb3 => ?_) (fun hb3 => ?_)
  ·refine sO rfl rfl rfl rfl rfl ?_
   refine sO rfl rfl rfl rfl rfl ?_
   refine sO rfl rfl rfl rfl rfl ?_
   refine sP rfl rfl rfl <| sA rfl rfl ?_
   refine sN (hZ _ _ ?_ ?_)
   ·exact Kn.cons (congrArg some (congrArg Value.bool (by simp at hb3; rw [Bool.eq_iff_iff]; simp; omega))) Kn.nil
   ·exact HLe.pick [] (by simp) rfl
  ·refine sOn rfl rfl rfl ?_
   first | refine sLA 0 rfl rfl tyA114 tyS114 rfl (by simp only [qS, Value.cells]; rfl) rfl ?_
   refine sOn rfl rfl rfl ?_
   refine sCP (eend_fn e hok) rfl rfl ?_
   refine sOn rfl rfl rfl ?_
   refine jF3 rfl rfl rfl ?_
   refine sP rfl rfl rfl <| sA rfl rfl ?_
   refine sN (hZ _ _ ?_ ?_)
   ·exact Kn.cons (congrArg some (congrArg Value.bool (by simp at hb3; rw [Bool.eq_iff_iff]; simp; omega))) Kn.nil
   ·exact HLe.pick [] (by simp) rfl
 refine aC rfl (fun hc => ?_) (fun hc => ?_)
 ·have hc' : 1099511627776 < e.off ∨ 1099511627776 < e.next := by simpa using hc
  rw [show chkE e = 8 by unfold chkE; rw [if_neg h0, if_neg hb', if_pos hc']]
  refine aR fun Z hZ => sA rfl rfl <| sN (hZ _ _ ?_)
  refine aF [(2, _)] (Kn.cons rfl (Kn.nil)) ?_
  refine aE ?_
  repeat (with_reducible (first | refine nTR ?_ | refine nBR ?_))
  exact nR1 rfl rfl rfl
 have hc' : ¬ (1099511627776 < e.off ∨ 1099511627776 < e.next) := by simpa using hc
 rw [show chkE e = 0 by unfold chkE; rw [if_neg h0, if_neg hb', if_neg hc']]
 refine aK ?_
 repeat (with_reducible refine nBN ?_)
 with_reducible refine nN ?_
 refine aR fun Z hZ => sA rfl rfl <| sN (hZ _ _ ?_)
 refine aF [(2, _)] (Kn.cons rfl (Kn.nil)) ?_
 refine aE ?_
 exact nR1 rfl rfl rfl
theorem emay_fn (e : En) (h : e.ok) : Fn Tryz.prog 107 [e.val] [] fun v _ => v = .bool (decide (chkE e = 0)) := by
 refine Fn.enter (N := 6) Tryz.func107 rfl (by kernel_rfl) rfl (fun w0 => ?_)
 refine aR (fun Z hZ => ?_)
 refine jC3 rfl rfl rfl (fun g1 => ?_)
 refine sA rfl rfl <| sN (hZ _ _ ?_)
 refine aF [(1, _)] (Kn.cons rfl (Kn.nil)) ?_
 refine aR (fun Z hZ => ?_)
 first | refine sLA 0 rfl rfl tyA114 tyS114 rfl (by simp only [qS, Value.cells]; rfl) rfl ?_
 refine sCP (echeck_fn e h) rfl rfl ?_
 refine jC8 rfl rfl rfl ?_
 refine sA rfl rfl <| sN (hZ _ _ ?_)
 refine aF [(2, _)] (Kn.cons rfl (Kn.nil)) ?_
 refine aE ?_
 exact nR1 rfl rfl (congrArg Value.bool (by rw [Bool.eq_iff_iff]; simp))
theorem En.ok.wide {e : En} (h : e.ok) : 1 ≤ e.wide ∧ e.wide ≤ 4294967296 := by
 obtain ⟨_, _, _, h4⟩ := h
 simp only [En.wide]; omega
theorem chk_ok {e : En} (ho : e.ok) (h : chkE e = 0) : e.len ≠ 0 ∧ e.id + e.wide ≤ 6004799503160661 ∧ e.off ≤ 1099511627776 ∧ e.next ≤ 1099511627776 := by
 have hw := ho.wide
 unfold chkE at h
 split at h
 ·cases h
 split at h
 ·cases h
 split at h
 ·cases h
 ·rename_i a b c
  exact ⟨a, by omega, by omega, by omega⟩
theorem elast_fn (e : En) (h : e.ok) : Fn Tryz.prog 88 [e.val] [] fun v _ => v = uq (lastE e) := by
 have hok := h
 obtain ⟨h1, h2, h3, h4⟩ := h
 have hw : 1 ≤ e.wide ∧ e.wide ≤ 4294967296 := by simp only [En.wide]; omega
 refine Fn.enter (N := 12) Tryz.func88 rfl (by kernel_rfl) rfl (fun w0 => ?_)
 refine aR (fun Z hZ => ?_)
 refine jC3 rfl rfl rfl (fun g1 => ?_)
 refine sA rfl rfl <| sN (hZ _ _ ?_)
 refine aF [(1, _)] (Kn.cons rfl (Kn.nil)) ?_
 refine aS ?_
 refine aR (fun Z hZ => ?_)
 first | refine sLA 0 rfl rfl tyA114 tyS114 rfl (by simp only [qS, Value.cells]; rfl) rfl ?_
 refine sCP (emay_fn e hok) rfl rfl ?_
 refine sx_not rfl rfl ?_
 refine sN (hZ _ _ ?_)
 refine aF [(1, _), (5, _)] (kR rfl) ?_
 refine aC rfl (fun ha => ?_) (fun ha => ?_)
 ·have h0 : chkE e ≠ 0 := by simpa using ha
  rw [show lastE e = 0 by unfold lastE; rw [if_neg h0]]
  refine aR fun Z hZ => sA rfl rfl <| sN (hZ _ _ ?_)
  refine aF [(2, _)] (Kn.cons rfl (Kn.nil)) ?_
  refine aE ?_
  repeat (with_reducible refine nTR ?_)
  exact nR1 rfl rfl rfl
 have h0 : chkE e = 0 := by simpa using ha
 obtain ⟨_, h5, _, _⟩ := chk_ok hok h0
 rw [show lastE e = e.id + e.wide - 1 by unfold lastE; rw [if_pos h0]]
 refine aK ?_
 with_reducible refine nN ?_
 refine jB9 mixed (by kernel_rfl) (fun Z hZ => ?_)
 refine qFA rfl tyF114_0 (by simp only [Nat.add_zero]; rfl) rfl ?_
 first | refine jB7 0 rfl rfl tyA45 tyS45 rfl rfl ?_
 first | refine sq_loadA 0 rfl rfl tyA114 tyS114 rfl (by simp only [qS, Value.cells]; rfl) rfl ?_
 refine sq_callP (ewide_fn e hok) rfl rfl ?_
 refine sq_add rfl rfl ((e.id + e.wide : Nat) : Int) (by rw [IntWalk.u64_in _ (by omega)]; omega) rfl ?_
 refine sq_sub rfl rfl ((e.id + e.wide - 1 : Nat) : Int) (by rw [IntWalk.u64_in _ (by omega)]; omega) rfl ?_
 refine jB3 rfl rfl ?_
 refine jE0 (hZ _ _ ?_)
 refine aF [(2, _)] (Kn.cons rfl (Kn.nil)) ?_
 refine aE ?_
 exact nR1 rfl rfl rfl
end Go.Proofs.YtkojkeabelckjaaGreatDoor.V
namespace Go.Proofs.YtkojkeabelckjaaGreatDoor.V
open Go.RowKit
abbrev jA1 (L : List En) : List Value := L.flatMap En.cells
theorem en_len (e : En) : e.cells.length = 4 := rfl
theorem ecells_len (L : List En) : (jA1 L).length = L.length * 4 := fm_len en_len L
theorem ecells_all {L : List En} {i : Nat} {x : En} (h : L[i]? = some x) : rdV true 4 (jA1 L) (i * 4) = some x.val := fm_rd en_len h
def rowQ : Nat → List En → Nat
 | _, [] => 0
 | free, e :: r => if chkE e = 0 then (if e.id < free then 10 else rowQ (lastE e + 1) r) else chkE e
def rowC (L : List En) : Nat := if 4096 < L.length then 21 else rowQ 0 L
def jF2 (L : List En) : Prop := ∀ e ∈ L, e.ok
theorem last_lt {e : En} (h : e.ok) : lastE e < 6004799503160661 := by
 have := h.wide
 unfold lastE
 split
 ·rename_i h0
  have := chk_ok h h0
  omega
 ·omega
theorem erow_fn (A : Option Addr) (c : Nat) (L : List En) (T : Heap) (hA : jH1 A L.length) (hT : 0 < L.length → T = roE A (jA1 L)) (hro : Ro T) (hL : L.length ≤ maxLen) (hE : jF2 L) :
  Fn Tryz.prog 51 [.slice A L.length c] T fun v _ => v = iq (rowC L) := by
 have hL' : L.length ≤ 9223372036854775807 := hL
 refine Fn.enter (N := 29) Tryz.func51 rfl (by kernel_rfl) rfl (fun w0 => ?_)
 refine aR fun Z hZ => sA rfl rfl <| sN (hZ _ _ ?_)
 refine aF [(0, _)] (Kn.cons rfl (Kn.nil)) ?_
 refine aS ?_
 refine aR fun Z hZ => sM rfl rfl ?_
 refine jD9 Tryz.underlying68 rfl rfl ?_
 refine jF3 rfl rfl rfl ?_
 refine sN (hZ _ _ ?_)
 refine aF [(0, _), (9, _)] (kR rfl) ?_
 refine aC rfl (fun ha => ?_) (fun ha => ?_)
 ·have h0 : 4096 < L.length := by simp at ha; omega
  rw [show rowC L = 21 by unfold rowC; rw [if_pos h0]]
  refine aR fun Z hZ => sA rfl rfl <| sN (hZ _ _ ?_)
  refine aF [(2, _)] (Kn.cons rfl (Kn.nil)) ?_
  refine aE ?_
  repeat (with_reducible refine nTR ?_)
  exact nR1 rfl rfl rfl
 have h0 : ¬ 4096 < L.length := by simp at ha; omega
 rw [show rowC L = rowQ 0 L by unfold rowC; rw [if_neg h0]]
 refine aK ?_
 with_reducible refine nN ?_
 refine aR fun Z hZ => sA rfl rfl <| sN (hZ _ _ ?_)
 refine aF [(0, _), (3, _)] (kR rfl) ?_
 refine aS ?_
 refine aR fun Z hZ => sM rfl rfl ?_
 refine jD9 Tryz.underlying68 rfl rfl ?_
 refine sM rfl rfl <| sN (hZ _ _ ?_)
 refine aF [(3, _), (10, _), (11, _), (12, _)] (kR rfl) ?_
 refine aB ?_
 refine jB6 (ι := Nat × Nat) (fun i => [(3, uq i.2), (10, .slice A L.length c), (11, iq (L.length : Nat)), (12, iq (i.1 : Nat))]) (fun i => T)
  (fun i => i.1 ≤ L.length ∧ i.2 < 9000000000000000 ∧ rowQ i.2 (L.drop i.1) = rowQ 0 L) (fun i => L.length - i.1) (0, 0) ⟨by simp, by simp, rfl⟩ (kR rfl) (HLe.refl _) ?_
 rintro ⟨k, free⟩ ⟨hk, hf, hq⟩
 simp only at hk hf hq
 refine aR (fun Z hZ => ?_)
 refine jC4 rfl rfl rfl ?_
 refine sN (hZ _ _ ?_)
 refine aF [(3, _), (10, _), (11, _), (12, _), (13, _)] (kR rfl) ?_
 refine aS (aC rfl (fun h => ?_) (fun h => ?_))
 ·have hlt : k < L.length := by simpa using h
  obtain ⟨x, hx⟩ : ∃ x, L[k]? = some x := ⟨_, List.getElem?_eq_getElem hlt⟩
  have hxe : L[k] = x := Option.some.inj ((List.getElem?_eq_getElem hlt).symm.trans hx)
  have hok : x.ok := hE x (List.mem_of_getElem? hx)
  have hl := last_lt hok
  obtain ⟨g, o, rfl⟩ := hA (by omega)
  obtain rfl := hT (by omega)
  have hdr : L.drop k = x :: L.drop (k + 1) := by rw [List.drop_eq_getElem_cons hlt, hxe]
  rw [hdr, rowQ] at hq
  refine aK ?_
  with_reducible refine nN ?_
  refine aS (aB ?_)
  refine aR (fun Z hZ => ?_)
  refine jA6 (o + k * 4) Tryz.underlying68 tyS114 rfl rfl (by omega) (by simp) rfl ?_
  refine jD5 0 rfl rfl (k * 4) rfl tyA114 tyS114 (ecells_all hx) rfl ?_
  refine sAl tyZ114 rfl (fun g1 => ?_)
  refine sS 0 rfl rfl rfl tyS114 (by simp only [Value.cells]; rfl) rfl rfl rfl (by simp only [qS, Nat.reduceAdd, wrV]; rfl) (by simp only [List.set_cons_zero]; rfl) ?_
  refine sN (hZ _ _ ?_)
  refine aF [(3, _), (5, _), (10, _), (11, _), (12, _)] (kR rfl) ?_
  refine aS ?_
  refine aR (fun Z hZ => ?_)
  refine sLA 0 rfl rfl tyA114 tyS114 rfl (by simp only [qS]; rfl) rfl ?_
  refine sCP (echeck_fn x hok) rfl rfl ?_
  refine sA rfl rfl <| sN (hZ _ _ ?_)
  refine aF [(3, _), (5, _), (6, _), (10, _), (11, _), (12, _)] (kR rfl) ?_
  refine aR fun Z hZ => sM rfl rfl ?_
  refine jE5 rfl rfl rfl ?_
  refine sN (hZ _ _ ?_)
  refine aF [(3, _), (5, _), (6, _), (10, _), (11, _), (12, _), (19, _)] (kR rfl) ?_
  refine aC rfl (fun hb => ?_) (fun hb => ?_)
  ·have hb' : chkE x ≠ 0 := by simp at hb; omega
   rw [if_neg hb'] at hq
   rw [← hq]
   refine aR fun Z hZ => sM rfl rfl <| sA rfl rfl <| sN (hZ _ _ ?_)
   refine aF [(2, _)] (Kn.cons rfl (Kn.nil)) ?_
   refine aE ?_
   repeat (with_reducible (first | refine nTR ?_ | refine nBR ?_))
   exact nR1 rfl rfl rfl
  have hb' : chkE x = 0 := by simp at hb; omega
  rw [if_pos hb'] at hq
  refine aK ?_
  with_reducible refine nN ?_
  refine aS ?_
  refine aR (fun Z hZ => ?_)
  refine sFA rfl tyF114_0 (by simp only [Nat.add_zero]; rfl) rfl ?_
  refine sL 0 rfl rfl tyA45 tyS45 rfl rfl ?_
  refine sM rfl rfl ?_
  refine jC4 rfl rfl rfl ?_
  refine sN (hZ _ _ ?_)
  refine aF [(5, _), (10, _), (11, _), (12, _), (24, _)] (kR rfl) ?_
  refine aC rfl (fun hc => ?_) (fun hc => ?_)
  ·have hc' : x.id < free := by simp at hc; omega
   rw [if_pos hc'] at hq
   rw [← hq]
   refine aR fun Z hZ => sA rfl rfl <| sN (hZ _ _ ?_)
   refine aF [(2, _)] (Kn.cons rfl (Kn.nil)) ?_
   refine aE ?_
   repeat (with_reducible (first | refine nTR ?_ | refine nBR ?_))
   exact nR1 rfl rfl rfl
  have hc' : ¬ x.id < free := by simp at hc; omega
  rw [if_neg hc'] at hq
  refine aK ?_
  with_reducible refine nN ?_
  refine aG (fun Z hZ => ?_)
  refine sLA 0 rfl rfl tyA114 tyS114 rfl (by simp only [qS]; rfl) rfl ?_
  refine sCP (elast_fn x hok) rfl rfl ?_
  refine jB8 rfl rfl ((lastE x + 1 : Nat) : Int) (by rw [IntWalk.u64_in _ (by omega)]; omega) rfl ?_
  refine sA rfl rfl <| sN (hZ _ _ ?_)
  refine nF [(3, _), (10, _), (11, _), (12, _)] (kR rfl) ?_
  repeat (with_reducible refine nBN ?_)
  with_reducible refine nN ?_
  refine aG (fun Z hZ => ?_)
  refine jB8 rfl rfl ((k + 1 : Nat) : Int) (by rw [IntWalk.i64_in _ (by omega)]; omega) rfl ?_
  refine sM rfl rfl <| sN (hZ _ _ ?_)
  refine nF [(3, _), (10, _), (11, _), (12, _)] (kR rfl) ?_
  exact jB5 (k + 1, lastE x + 1) ⟨by show k + 1 ≤ _; omega, by show lastE x + 1 < _; omega, hq⟩ (by simp; omega) (kR rfl) (HLe.drop 1 rfl)
 ·refine jB1 ?_
  repeat (with_reducible refine nTE ?_)
  with_reducible refine nBE ?_
  with_reducible refine nN ?_
  have hke : k = L.length := by simp at h; omega
  subst hke
  rw [List.drop_length, rowQ] at hq
  rw [← hq]
  refine aR fun Z hZ => sA rfl rfl <| sN (hZ _ _ ?_)
  refine aF [(2, _)] (Kn.cons rfl (Kn.nil)) ?_
  refine aE ?_
  exact nR1 rfl rfl rfl
end Go.Proofs.YtkojkeabelckjaaGreatDoor.V
namespace Go.Proofs.YtkojkeabelckjaaGreatDoor.V
open Go.RowKit
theorem elemEn : ElemOk Tryz.prog 68 114 4 24 := ElemOk.mk_ (z := .agg #[uq 0, uq 0, wq4 0, wq4 0]) Tryz.underlying68 (by kernel_rfl) rfl (by omega)
theorem ecells_one (L : List En) : (jA1 L).all Value.oneCell' = true := List.all_eq_true.2 fun v hv => by
 obtain ⟨e, _, he⟩ := List.mem_flatMap.1 hv
 simp only [En.cells, List.mem_cons, List.not_mem_nil, or_false] at he
 rcases he with rfl | rfl | rfl | rfl <;> rfl
end Go.Proofs.YtkojkeabelckjaaGreatDoor.V
namespace Go.Proofs.YtkojkeabelckjaaGreatDoor.V
open Go.RowKit
def mwrQ (e : En) (many : Nat) (data : List UInt8) : Nat := if e.run = 0 then 14 else if data.length < e.off + e.len then 8 else if 2048 < many then 21 else if 65536 < e.len then 5 else 0
def txOf (x : En) (data : List UInt8) : List UInt8 := (data.drop x.off).take x.len
def itsOf (x : En) (data : List UInt8) : List It := (List.range x.run).map fun k => ⟨x.id + k, txOf x data⟩
def mbR (data : List UInt8) : Nat → List It → List En → Nat × List It
 | _, out, [] => (0, out)
 | many, out, x :: r => if mwrQ x (many + x.run) data = 0 then mbR data (many + x.run) (out ++ itsOf x data) r else (mwrQ x (many + x.run) data, [])
def mbQ (L : List En) (data : List UInt8) : Nat × List It := if rowC L = 0 then mbR data 0 [] L else (rowC L, [])
theorem mwr_zero {e : En} {many : Nat} {data : List UInt8} (h : mwrQ e many data = 0) : e.run ≠ 0 ∧ e.off + e.len ≤ data.length ∧ many ≤ 2048 ∧ e.len ≤ 65536 := by
 unfold mwrQ at h
 repeat' split at h
 all_goals first | omega | skip
 all_goals exact ⟨by assumption, by omega, by omega, by omega⟩
theorem its_len (x : En) (data : List UInt8) : (itsOf x data).length = x.run := by simp [itsOf]
theorem its_take {x : En} {data : List UInt8} {k : Nat} (h : k < x.run) : (itsOf x data).take (k + 1) = (itsOf x data).take k ++ [⟨x.id + k, txOf x data⟩] := by
 rw [List.take_add_one]
 congr 1
 simp [itsOf, h]
theorem mbR_ok (data : List UInt8) : ∀ (L : List En) (free many : Nat) (out : List It), jF2 L → rowQ free L = 0 → Rise out → (∀ e ∈ out, e.id < free ∧ e.id < 6004799503160661 ∧ e.tx ≠ [] ∧ e.tx.length ≤ 65536) → out.length = many → many ≤ 2048 → ∀ O, mbR data many out L = (0, O) → ChOk O
 | [], _, _, out, _, _, hr, ho, hl, hm, O, h => by
  rw [mbR] at h
  injection h with _ h
  subst h
  exact ⟨hr, fun e he => (ho e he).2.1, fun e he => (ho e he).2.2, by omega⟩
 | x :: r, free, many, out, hE, hq, hr, ho, hl, hm, O, h => by
  have hx := hE x List.mem_cons_self
  rw [rowQ] at hq
  split at hq
  ·rename_i hc
   split at hq
   ·cases hq
   ·rename_i hf
    rw [mbR] at h
    split at h
    ·rename_i hw
     obtain ⟨w1, w2, w3, w4⟩ := mwr_zero hw
     obtain ⟨c1, c2, c3, c4⟩ := chk_ok hx hc
     have hwide : x.wide = x.run := by unfold En.wide; omega
     have hlast : lastE x + 1 = x.id + x.run := by unfold lastE; rw [if_pos hc, hwide]; omega
     have htx : (txOf x data).length = x.len := by unfold txOf; rw [List.length_take, List.length_drop]; omega
     refine mbR_ok data r (lastE x + 1) (many + x.run) _ (fun e he => hE e (List.mem_cons_of_mem _ he)) hq ?_ (fun e he => ?_) (by rw [List.length_append, its_len, hl]) w3 O h
     ·refine List.pairwise_append.2 ⟨hr, List.pairwise_map.2 (List.pairwise_lt_range.imp fun h => by show x.id + _ < x.id + _; omega), fun a ha b hb => ?_⟩
      obtain ⟨k, _, rfl⟩ := List.mem_map.1 hb
      have := (ho a ha).1
      show a.id < x.id + k
      omega
     ·rcases List.mem_append.1 he with he | he
      ·obtain ⟨h1, h2, h3⟩ := ho e he
       exact ⟨by omega, h2, h3⟩
      ·obtain ⟨k, hk, rfl⟩ := List.mem_map.1 he
       have hk := List.mem_range.1 hk
       refine ⟨by show x.id + k < _; omega, by show x.id + k < _; omega, fun hn => ?_, by show (txOf x data).length ≤ _; omega⟩
       have : (txOf x data).length = 0 := by rw [show txOf x data = [] from hn]; rfl
       omega
    ·rename_i hw
     injection h with h _
     exact absurd h hw
  ·rename_i hc
   exact absurd hq hc
theorem mb_nil {data : List UInt8} : ∀ (L : List En) (many : Nat) (out : List It), (mbR data many out L).1 ≠ 0 → (mbR data many out L).2 = []
 | [], _, _, h => absurd rfl h
 | x :: r, many, out, h => by
  rw [mbR] at h ⊢
  split
  ·rename_i hw
   rw [if_pos hw] at h
   exact mb_nil r _ _ h
  ·rfl
theorem mb_ok {L : List En} (hE : jF2 L) (data : List UInt8) : ChOk (mbQ L data).2 := by
 unfold mbQ
 split
 ·rename_i hr
  have hq : rowQ 0 L = 0 := by
   unfold rowC at hr
   split at hr
   ·cases hr
   ·exact hr
  by_cases h0 : (mbR data 0 [] L).1 = 0
  ·exact mbR_ok data L 0 0 [] hE hq List.Pairwise.nil (fun e he => by cases he) rfl (by omega) _ (Prod.ext h0 rfl)
  ·rw [mb_nil L 0 [] h0]; exact ChOk.nil
 ·exact ChOk.nil
end Go.Proofs.YtkojkeabelckjaaGreatDoor.V
end

section
set_option linter.all false
namespace Go.Proofs.YtkojkeabelckjaaGreatDoor.V
open Go.RowKit
set_option maxRecDepth 100000
theorem awp_lastcut {P : Program} {N : Frm} {w0 : World} {Wr : List Nat} {fr : Fr} {H : Heap} {Q : Exit → Act → World → Prop} {c : Code} {ι : Type} (F : ι → Fr) (HH : ι → Heap) (I : ι → Prop)
  (hx : awp P N w0 Wr c fr H (Exit.then (fun a w => ∃ j, I j ∧ FrOk N (F j) a ∧ Sat w0 Wr (HH j) w) Q)) (hy : ∀ j, I j → nx N w0 Wr (F j) (HH j) Q .normal) : awp P N w0 Wr c fr H Q :=
 fun a w ha hw => wq_mono (fun e a w h => by
  cases e <;> first | exact h | (obtain ⟨j, hj, h1, h2⟩ := h; exact hy j hj a w h1 h2)) (hx a w ha hw)
theorem mwrong_fn (e : En) (he : e.ok) (ho : e.off ≤ 1099511627776) (many : Nat) (hm : many < 18446744073709551616) (data : List UInt8) (hd : data.length ≤ 1000000) :
  Fn Tryz.prog 70 [e.val, uq many, .string (str data)] [] fun v _ => v = iq (mwrQ e many data) := by
 obtain ⟨h1, h2, h3, h4⟩ := he
 refine Fn.enter (N := 29) Tryz.func70 rfl (by kernel_rfl) rfl (fun w0 => ?_)
 refine aR (fun Z hZ => ?_)
 refine jC3 rfl rfl rfl (fun g1 => ?_)
 refine sA rfl rfl <| sN (hZ _ _ ?_)
 refine aF [(1, _), (2, _), (3, _)] (kR rfl) ?_
 refine aS (aB ?_)
 refine aR (fun Z hZ => ?_)
 refine sFA rfl tyF114_3 (by simp only [Nat.zero_add]; rfl) rfl ?_
 first | refine sL 0 rfl rfl tyA112 tyS112 rfl rfl ?_
 refine jC8 rfl rfl rfl ?_
 refine sA rfl rfl <| sN (hZ _ _ ?_)
 refine aF [(1, _), (2, _), (3, _), (7, _)] (kR rfl) ?_
 refine aC rfl (fun h => ?_) (fun h => ?_)
 ·have h' : e.run = 0 := by simp at h; omega
  rw [show mwrQ e many data = 14 by unfold mwrQ; rw [if_pos h']]
  refine aR fun Z hZ => sA rfl rfl <| sN (hZ _ _ ?_)
  refine aF [(6, _)] (Kn.cons rfl (Kn.nil)) ?_
  refine aE ?_
  repeat (with_reducible (first | refine nTR ?_ | refine nBR ?_))
  exact nR1 rfl rfl rfl
 have h' : ¬ e.run = 0 := by simp at h; omega
 refine aR (fun Z hZ => ?_)
 refine sFA rfl jH0 (by simp only [Nat.zero_add]; rfl) rfl ?_
 first | refine sL 0 rfl rfl tyA45 tyS45 rfl rfl ?_
 refine sFA rfl tyF114_2 (by simp only [Nat.zero_add]; rfl) rfl ?_
 first | refine sL 0 rfl rfl tyA112 tyS112 rfl rfl ?_
 refine jC2 Tryz.underlying112 Tryz.underlying45 rfl ((e.len : Nat) : Int) (by rw [IntWalk.u64_in _ (by omega)]) rfl ?_
 refine jB8 rfl rfl ((e.off + e.len : Nat) : Int) (by rw [IntWalk.u64_in _ (by omega)]; omega) rfl ?_
 refine sM rfl rfl ?_
 refine jF0 Tryz.underlying9 rfl rfl ?_
 refine jC2 Tryz.underlying3 Tryz.underlying45 rfl ((data.length : Nat) : Int) (by rw [IntWalk.u64_in _ (by omega)]) rfl ?_
 refine jF3 rfl rfl rfl ?_
 refine sA rfl rfl <| sN (hZ _ _ ?_)
 refine aF [(1, _), (3, _), (11, _)] (kR rfl) ?_
 refine aC rfl (fun h2' => ?_) (fun h2' => ?_)
 ·have h2' : data.length < e.off + e.len := by simp at h2'; omega
  rw [show mwrQ e many data = 8 by unfold mwrQ; rw [if_neg h', if_pos h2']]
  refine aR fun Z hZ => sA rfl rfl <| sN (hZ _ _ ?_)
  refine aF [(6, _)] (Kn.cons rfl (Kn.nil)) ?_
  refine aE ?_
  repeat (with_reducible (first | refine nTR ?_ | refine nBR ?_))
  exact nR1 rfl rfl rfl
 have h2' : ¬ data.length < e.off + e.len := by simp at h2'; omega
 refine aR fun Z hZ => sM rfl rfl ?_
 refine jF3 rfl rfl rfl ?_
 refine sA rfl rfl <| sN (hZ _ _ ?_)
 refine aF [(3, _), (22, _)] (kR rfl) ?_
 refine aC rfl (fun h5 => ?_) (fun h5 => ?_)
 ·have h5 : 2048 < many := by simp at h5; omega
  rw [show mwrQ e many data = 21 by unfold mwrQ; rw [if_neg h', if_neg h2', if_pos h5]]
  refine aR fun Z hZ => sA rfl rfl <| sN (hZ _ _ ?_)
  refine aF [(6, _)] (Kn.cons rfl (Kn.nil)) ?_
  refine aE ?_
  repeat (with_reducible (first | refine nTR ?_ | refine nBR ?_))
  exact nR1 rfl rfl rfl
 have h5 : ¬ 2048 < many := by simp at h5; omega
 refine aR (fun Z hZ => ?_)
 refine sFA rfl tyF114_2 (by simp only [Nat.zero_add]; rfl) rfl ?_
 first | refine sL 0 rfl rfl tyA112 tyS112 rfl rfl ?_
 refine jF3 rfl rfl rfl ?_
 refine sA rfl rfl <| sN (hZ _ _ ?_)
 refine aF [(25, _)] (Kn.cons rfl (Kn.nil)) ?_
 refine aC rfl (fun h6 => ?_) (fun h6 => ?_)
 ·have h6 : 65536 < e.len := by simp at h6; omega
  rw [show mwrQ e many data = 5 by unfold mwrQ; rw [if_neg h', if_neg h2', if_neg h5, if_pos h6]]
  refine aR fun Z hZ => sA rfl rfl <| sN (hZ _ _ ?_)
  refine aF [(6, _)] (Kn.cons rfl (Kn.nil)) ?_
  refine aE ?_
  repeat (with_reducible (first | refine nTR ?_ | refine nBR ?_))
  exact nR1 rfl rfl rfl
 have h6 : ¬ 65536 < e.len := by simp at h6; omega
 rw [show mwrQ e many data = 0 by unfold mwrQ; rw [if_neg h', if_neg h2', if_neg h5, if_neg h6]]
 refine aK ?_
 repeat (with_reducible refine nBN ?_)
 with_reducible refine nN ?_
 refine aR fun Z hZ => sA rfl rfl <| sN (hZ _ _ ?_)
 refine aF [(6, _)] (Kn.cons rfl (Kn.nil)) ?_
 refine aE ?_
 exact nR1 rfl rfl rfl
theorem mrowQ_step {free : Nat} {e : En} {r : List En} (h : rowQ free (e :: r) = 0) : chkE e = 0 ∧ rowQ (lastE e + 1) r = 0 := by
 rw [rowQ] at h
 split at h
 ·rename_i hc
  split at h
  ·cases h
  ·exact ⟨hc, h⟩
 ·rename_i hc; exact absurd h hc
theorem mrowQ_at : ∀ (L : List En) (free : Nat), rowQ free L = 0 → ∀ e ∈ L, chkE e = 0
 | [], _, _, e, he => by cases he
 | x :: r, free, h, e, he => by
  obtain ⟨h1, h2⟩ := mrowQ_step h
  rcases List.mem_cons.1 he with rfl | he
  ·exact h1
  ·exact mrowQ_at r _ h2 e he
theorem micells_app (X Y : List It) : jA0 (X ++ Y) = jA0 X ++ jA0 Y := by simp [jA0]
theorem mback_fn (A : Option Addr) (c : Nat) (L : List En) (T : Heap) (hA : jH1 A L.length) (hT : 0 < L.length → T = roE A (jA1 L)) (hro : Ro T) (hL : L.length ≤ maxLen) (hE : jF2 L) (data : List UInt8) (hd : data.length ≤ 1000000) :
  Fn Tryz.prog 29 [.slice A L.length c, .string (str data)] T fun v H' => ∃ u, v = .tuple #[.agg #[u], iq (mbQ L data).1] ∧ RowOk u (mbQ L data).2.length ∧ H' = rowE u 62 2 (jA0 (mbQ L data).2) := by
 refine Fn.enter (N := 70) Tryz.func29 rfl (by kernel_rfl) rfl (fun w0 => ?_)
 refine aR (fun Z hZ => ?_)
 refine sAl tyZ27 rfl (fun g1 => ?_)
 refine sA rfl rfl <| sN (hZ _ _ ?_)
 refine aF [(0, _), (1, _), (4, _)] (kR rfl) ?_
 refine aS ?_
 refine aR fun Z hZ => sM rfl rfl ?_
 refine jD6 T (erow_fn A c L T hA hT hro hL hE) rfl (List.sublist_cons_self _ _) hro rfl ?_
 refine sA rfl rfl <| sN (hZ _ _ ?_)
 refine aF [(0, _), (1, _), (4, _), (6, _)] (kR rfl) ?_
 refine aR fun Z hZ => sM rfl rfl ?_
 refine jE5 rfl rfl rfl ?_
 refine sN (hZ _ _ ?_)
 refine aF [(0, _), (1, _), (4, _), (6, _), (17, _)] (kR rfl) ?_
 refine aC rfl (fun h => ?_) (fun h => ?_)
 ·have h' : ¬ rowC L = 0 := by simp at h; omega
  rw [show mbQ L data = (rowC L, []) by unfold mbQ; rw [if_neg h']]
  refine aR (fun Z hZ => ?_)
  refine jD1 tyZ27 tyP27 rfl rfl rfl rfl ?_
  refine sM rfl rfl ?_
  first | refine sS 0 rfl rfl rfl tyS27 (by simp only [Value.cells]; rfl) rfl rfl rfl (by simp only [qS, wrV]; rfl) (by simp only [List.set_cons_zero]; rfl) ?_
  refine sA rfl rfl <| sN (hZ _ _ ?_)
  refine aF [(4, _), (5, _)] (kR rfl) ?_
  refine aE ?_
  repeat (with_reducible refine nTR ?_)
  exact jB4 [] rfl (ResOk.cell 0 rfl rfl tyA27 tyS27 rfl) rfl (HLe.sub (List.nil_sublist _)) ⟨_, rfl, RowOk.nil, rfl⟩
 have h' : rowC L = 0 := by simp at h; omega
 have hq : rowQ 0 L = 0 ∧ L.length ≤ 4096 := by
  unfold rowC at h'
  split at h'
  ·cases h'
  ·exact ⟨h', by omega⟩
 have hat := mrowQ_at L 0 hq.1
 have hmb : mbQ L data = mbR data 0 [] L := by unfold mbQ; rw [if_pos h']
 have hokM := mb_ok hE data
 rw [hmb] at hokM ⊢
 refine aK ?_
 with_reducible refine nN ?_
 refine aR fun Z hZ => sA rfl rfl <| sN (hZ _ _ ?_)
 refine aF [(0, _), (1, _), (4, _), (7, _)] (kR rfl) ?_
 refine aR fun Z hZ => sA rfl rfl <| sN (hZ _ _ ?_)
 refine aF [(0, _), (1, _), (4, _), (7, _), (8, _)] (kR rfl) ?_
 refine aS ?_
 refine aR fun Z hZ => sM rfl rfl ?_
 refine jD9 Tryz.underlying68 rfl rfl ?_
 refine sM rfl rfl <| sN (hZ _ _ ?_)
 refine aF [(1, _), (4, _), (7, _), (8, _), (20, _), (21, _), (22, _)] (kR rfl) ?_
 refine aB ?_
 refine jB6 (ι := Nat × Nat × Value × List It) (fun s => [(1, .string (str data)), (4, ptr g1 0), (7, uq s.2.1), (8, s.2.2.1), (20, .slice A L.length c), (21, iq (L.length : Nat)), (22, iq (s.1 : Nat))]) (fun s => .own g1 27 [.slice none 0 0] :: (T ++ rowE s.2.2.1 62 2 (jA0 s.2.2.2)))
  (fun s => s.1 ≤ L.length ∧ RowOk s.2.2.1 s.2.2.2.length ∧ s.2.2.2.length = s.2.1 ∧ s.2.1 ≤ 2048 ∧ mbR data s.2.1 s.2.2.2 (L.drop s.1) = mbR data 0 [] L) (fun s => L.length - s.1) (0, 0, .slice none 0 0, []) ⟨by simp, RowOk.nil, rfl, Nat.zero_le _, rfl⟩ (kR rfl) (by simp [rowE]; exact HLe.refl _) ?_
 rintro ⟨i, many, v, X⟩ ⟨hi, hv, hXl, hmn, hqq⟩
 simp only at hi hv hXl hmn hqq
 refine aR (fun Z hZ => ?_)
 refine jC4 rfl rfl rfl ?_
 refine sN (hZ _ _ ?_)
 refine aF [(1, _), (4, _), (7, _), (8, _), (20, _), (21, _), (22, _), (23, _)] (kR rfl) ?_
 refine aS (aC rfl (fun h2 => ?_) (fun h2 => ?_))
 ·have hlt : i < L.length := by simpa using h2
  obtain ⟨x, hx⟩ : ∃ x, L[i]? = some x := ⟨_, List.getElem?_eq_getElem hlt⟩
  have hxm := List.mem_of_getElem? hx
  have hxo := hE x hxm
  obtain ⟨c1, c2, c3, c4⟩ := chk_ok hxo (hat x hxm)
  obtain ⟨k1, k2, k3, k4⟩ := hxo
  have hdr : L.drop i = x :: L.drop (i + 1) := by rw [List.drop_eq_getElem_cons hlt]; congr 1; exact (List.getElem?_eq_some_iff.1 hx).2
  rw [hdr, mbR] at hqq
  obtain ⟨w, hw⟩ : ∃ w, mwrQ x (many + x.run) data = w := ⟨_, rfl⟩
  have hwf := mwrong_fn x (hE x hxm) c3 (many + x.run) (by omega) data hd
  rw [hw] at hqq hwf
  obtain ⟨g, o, rfl⟩ := hA (by omega)
  obtain rfl := hT (by omega)
  refine jA8 (.own g1 27 [.slice none 0 0] :: .ro g o (jA1 L) :: rowE v 62 2 (jA0 X)) (HLe.refl _) ?_
  refine aK ?_
  with_reducible refine nN ?_
  refine aS (aB ?_)
  refine aR (fun Z hZ => ?_)
  refine jA6 (o + i * 4) Tryz.underlying68 tyS114 rfl rfl (by first | omega | (simp; omega)) (by simp) rfl ?_
  refine jD5 1 rfl rfl (i * 4) rfl tyA114 tyS114 (ecells_all hx) rfl ?_
  refine sAl tyZ114 rfl (fun g2 => ?_)
  refine sS 0 rfl rfl rfl tyS114 (by simp only [Value.cells]; rfl) rfl rfl rfl (by simp only [qS, Nat.reduceAdd, wrV]; rfl) (by simp only [List.set_cons_zero]; rfl) ?_
  refine sN (hZ _ _ ?_)
  refine aF [(1, _), (4, _), (7, _), (8, _), (10, _), (20, _), (21, _), (22, _)] (kR rfl) ?_
  refine aR fun Z hZ => sM rfl rfl ?_
  refine sFA rfl tyF114_3 (by simp only [Nat.zero_add]; rfl) rfl ?_
  refine sL 0 rfl rfl tyA112 tyS112 rfl rfl ?_
  refine jC2 Tryz.underlying112 Tryz.underlying45 rfl ((x.run : Nat) : Int) (by rw [IntWalk.u64_in _ (by omega)]) rfl ?_
  refine jB8 rfl rfl ((many + x.run : Nat) : Int) (by show IntKind.u64.wrap (((many : Nat) : Int) + ((x.run : Nat) : Int)) = _; rw [IntWalk.u64_in _ (by omega)]; omega) rfl ?_
  refine sA rfl rfl <| sN (hZ _ _ ?_)
  refine aF [(1, _), (4, _), (7, _), (8, _), (10, _), (20, _), (21, _), (22, _)] (kR rfl) ?_
  refine aS ?_
  refine aR (fun Z hZ => ?_)
  refine sLA 0 rfl rfl tyA114 tyS114 rfl (by simp only [qS]; rfl) rfl ?_
  refine sM rfl rfl <| sM rfl rfl ?_
  refine sCP hwf rfl rfl ?_
  refine sA rfl rfl <| sN (hZ _ _ ?_)
  refine aF [(1, _), (4, _), (7, _), (8, _), (10, _), (11, _), (20, _), (21, _), (22, _)] (kR rfl) ?_
  refine aR fun Z hZ => sM rfl rfl ?_
  refine jE5 rfl rfl rfl ?_
  refine sN (hZ _ _ ?_)
  refine aF [(1, _), (4, _), (7, _), (8, _), (10, _), (11, _), (20, _), (21, _), (22, _), (36, _)] (kR rfl) ?_
  refine aC rfl (fun h3 => ?_) (fun h3 => ?_)
  ·have h3' : ¬ w = 0 := by simp at h3; omega
   rw [if_neg h3'] at hqq
   rw [← hqq]
   refine aR (fun Z hZ => ?_)
   refine jD1 tyZ27 tyP27 rfl rfl rfl rfl ?_
   refine sM rfl rfl ?_
   refine sS 1 rfl rfl rfl tyS27 (by simp only [Value.cells]; rfl) rfl rfl rfl (by simp only [qS, wrV]; rfl) (by simp only [qS]; rfl) ?_
   refine sA rfl rfl <| sN (hZ _ _ ?_)
   refine aF [(4, _), (5, _)] (kR rfl) ?_
   refine aE ?_
   repeat (with_reducible (first | refine nTR ?_ | refine nBR ?_))
   exact jB4 [] rfl (ResOk.cell 1 rfl rfl tyA27 tyS27 rfl) rfl (HLe.sub (List.nil_sublist _)) ⟨_, rfl, RowOk.nil, rfl⟩
  have h3' : w = 0 := by simp at h3; omega
  rw [if_pos h3'] at hqq
  obtain ⟨w1, w2, w3, w4⟩ := mwr_zero (hw.trans h3')
  obtain ⟨tx, htx⟩ : ∃ tx, txOf x data = tx := ⟨_, rfl⟩
  have hil := its_len x data
  have hitk : ∀ k, k < x.run → jA0 (X ++ (itsOf x data).take (k + 1)) = jA0 (X ++ (itsOf x data).take k) ++ (⟨x.id + k, tx⟩ : It).cells := fun k hk => by
   rw [its_take hk, htx, ← List.append_assoc, micells_app (X ++ (itsOf x data).take k)]
   simp [jA0]
  refine aK ?_
  with_reducible refine nN ?_
  refine aR fun Z hZ => sM rfl rfl ?_
  refine sFA rfl jH0 (by simp only [Nat.zero_add]; rfl) rfl ?_
  refine sL 0 rfl rfl tyA45 tyS45 rfl rfl ?_
  refine sFA rfl jH0 (by simp only [Nat.zero_add]; rfl) rfl ?_
  refine sL 0 rfl rfl tyA45 tyS45 rfl rfl ?_
  refine sFA rfl tyF114_2 (by simp only [Nat.zero_add]; rfl) rfl ?_
  refine sL 0 rfl rfl tyA112 tyS112 rfl rfl ?_
  refine jC2 Tryz.underlying112 Tryz.underlying45 rfl ((x.len : Nat) : Int) (by rw [IntWalk.u64_in _ (by omega)]) rfl ?_
  refine jB8 rfl rfl ((x.off + x.len : Nat) : Int) (by rw [IntWalk.u64_in _ (by omega)]; omega) rfl ?_
  refine sx_sliceS tx Tryz.underlying9 rfl rfl rfl (by omega) (by omega) (by omega) (by rw [← htx]; unfold txOf; simp only [Int.toNat_natCast]; rw [Nat.add_sub_cancel_left]) rfl ?_
  refine sA rfl rfl <| sN (hZ _ _ ?_)
  refine aF [(1, _), (4, _), (7, _), (8, _), (10, _), (12, _), (20, _), (21, _), (22, _)] (kR rfl) ?_
  refine aR (fun Z hZ => ?_)
  refine sFA rfl tyF114_3 (by simp only [Nat.zero_add]; rfl) rfl ?_
  refine sL 0 rfl rfl tyA112 tyS112 rfl rfl ?_
  refine sM rfl rfl <| sN (hZ _ _ ?_)
  refine aF [(1, _), (4, _), (7, _), (8, _), (10, _), (12, _), (20, _), (21, _), (22, _), (50, _), (51, _)] (kR rfl) ?_
  refine awp_lastcut (ι := Value) (fun u => [(1, .string (str data)), (4, ptr g1 0), (7, uq (many + x.run)), (8, u), (20, .slice (some ⟨g, o, none⟩) L.length c), (21, iq (L.length : Nat)), (22, iq (i : Nat))]) (fun u => .own g2 114 x.cells :: .own g1 27 [.slice none 0 0] :: .ro g o (jA1 L) :: rowE u 62 2 (jA0 (X ++ itsOf x data))) (fun u => RowOk u (X ++ itsOf x data).length) ?_ ?_
  ·refine aB ?_
   refine jB6 (ι := Nat × Value) (fun s => [(1, .string (str data)), (4, ptr g1 0), (7, uq (many + x.run)), (8, s.2), (10, ptr g2 0), (12, .string (str tx)), (20, .slice (some ⟨g, o, none⟩) L.length c), (21, iq (L.length : Nat)), (22, iq (i : Nat)), (50, wq4 x.run), (51, wq4 s.1)]) (fun s => .own g2 114 x.cells :: .own g1 27 [.slice none 0 0] :: .ro g o (jA1 L) :: rowE s.2 62 2 (jA0 (X ++ (itsOf x data).take s.1)))
    (fun s => s.1 ≤ x.run ∧ RowOk s.2 (X.length + s.1)) (fun s => x.run - s.1) (0, v) ⟨by simp, hv⟩ (kR rfl) (by simp; exact HLe.refl _) ?_
   rintro ⟨k, u⟩ ⟨hk, hu⟩
   simp only at hk hu
   refine aR (fun Z hZ => ?_)
   refine jC4 rfl rfl rfl ?_
   refine sN (hZ _ _ ?_)
   refine aF [(1, _), (4, _), (7, _), (8, _), (10, _), (12, _), (20, _), (21, _), (22, _), (50, _), (51, _), (52, _)] (kR rfl) ?_
   refine aS (aC rfl (fun h4 => ?_) (fun h4 => ?_))
   ·have hkl : k < x.run := by simp at h4; omega
    have hlenk : (X ++ (itsOf x data).take k).length = X.length + k := by rw [List.length_append, List.length_take, hil]; omega
    refine aK ?_
    with_reducible refine nN ?_
    refine aS (aB ?_)
    refine aR fun Z hZ => sM rfl rfl <| sA rfl rfl <| sN (hZ _ _ ?_)
    refine aF [(1, _), (4, _), (7, _), (8, _), (10, _), (12, _), (13, _), (20, _), (21, _), (22, _), (50, _), (51, _)] (kR rfl) ?_
    refine aG (fun Z hZ => ?_)
    refine sM rfl rfl ?_
    refine sFA rfl tyF114_0 (by simp only [Nat.add_zero]; rfl) rfl ?_
    refine sL 0 rfl rfl tyA45 tyS45 rfl rfl ?_
    refine sM rfl rfl ?_
    refine jC2 Tryz.underlying112 Tryz.underlying45 rfl ((k : Nat) : Int) (by rw [IntWalk.u64_in _ (by omega)]) rfl ?_
    refine jB8 rfl rfl ((x.id + k : Nat) : Int) (by rw [IntWalk.u64_in _ (by unfold En.wide at c2; omega)]; omega) rfl ?_
    refine sM rfl rfl ?_
    refine jD1 tyZ62 tyP62 rfl rfl (by simp only [qS, Nat.reduceAdd, Value.cells, wrV]; rfl) rfl ?_
    refine sBS Tryz.underlying25 tyS62 tyZ62 rfl rfl rfl rfl (by simp only [qS, Nat.reduceAdd, Value.cells, wrV, Nat.reduceMul, Nat.zero_mul]; rfl) rfl (fun g3 => ?_)
    refine jD2 [_, _, _, _] elemIt rfl hu (by rw [jF4, hlenk]) rfl (fun w hw => rd_own (i := 0) (xs := (⟨x.id + k, tx⟩ : It).cells) rfl rfl hw) rfl (by show _ ≤ 9223372036854775807; omega) (by omega) (HLe.refl _) rfl (fun v2 hv2 => ?_)
    refine sA rfl rfl <| sN (hZ _ _ ?_)
    refine nF [(1, _), (4, _), (7, _), (8, _), (10, _), (12, _), (20, _), (21, _), (22, _), (50, _), (51, _)] (kR rfl) ?_
    repeat (with_reducible refine nBN ?_)
    with_reducible refine nN ?_
    refine aG (fun Z hZ => ?_)
    refine jB8 rfl rfl ((k + 1 : Nat) : Int) (by rw [IntWalk.u32_in _ (by omega)]; omega) rfl ?_
    refine sM rfl rfl <| sN (hZ _ _ ?_)
    refine nF [(1, _), (4, _), (7, _), (8, _), (10, _), (12, _), (20, _), (21, _), (22, _), (50, _), (51, _)] (kR rfl) ?_
    refine jB5 (k + 1, v2) ⟨hkl, hv2⟩ (by simp; omega) (kR rfl) ?_
    simp only
    rw [hitk k hkl]
    exact HLe.drop 1 rfl
   ·have hke : k = x.run := by simp at h4; omega
    subst hke
    refine jB1 ?_
    repeat (with_reducible refine nTE ?_)
    with_reducible refine nBE ?_
    refine jG2 u (by rw [List.length_append, hil]; exact hu) (kR rfl) ?_
    simp only
    rw [List.take_of_length_le (Nat.le_of_eq hil)]
    exact HLe.refl _
  intro u hu
  repeat (with_reducible refine nBN ?_)
  with_reducible refine nN ?_
  refine aG (fun Z hZ => ?_)
  refine jB8 rfl rfl ((i + 1 : Nat) : Int) (by rw [IntWalk.i64_in _ (by omega)]; omega) rfl ?_
  refine sM rfl rfl <| sN (hZ _ _ ?_)
  refine nF [(1, _), (4, _), (7, _), (8, _), (20, _), (21, _), (22, _)] (kR rfl) ?_
  exact jB5 (i + 1, many + x.run, u, X ++ itsOf x data) ⟨hlt, hu, by rw [List.length_append, hil, hXl], w3, hqq⟩ (by simp; omega) (kR rfl) (HLe.drop 1 rfl)
 ·refine jB1 ?_
  repeat (with_reducible refine nTE ?_)
  with_reducible refine nBE ?_
  with_reducible refine nN ?_
  have hke : i = L.length := by simp at h2; omega
  subst hke
  rw [List.drop_length, mbR] at hqq
  rw [← hqq] at hokM ⊢
  simp only at hokM ⊢
  obtain ⟨q1, q2⟩ := of_perm hokM (List.Perm.refl X)
  have hso : sortI X = X := by
   unfold ofL at q2
   rw [if_pos q1] at q2
   exact q2
  obtain ⟨AX, cX, rfl, hAX, hleX⟩ := hv.ro
  have hof := cof_fn AX cX X (roE AX (jA0 X)) hAX.arg (fun _ => rfl) (Ro.roE _ _) (by omega)
  rw [q1, hso] at hof
  refine aR fun Z hZ => sM rfl rfl ?_
  refine sx_callVU (roE AX (jA0 X)) hof rfl ((row_view hleX (_ :: T) _ _ _).trans (HLe.refl _)) (Ro.roE _ _) rfl ?_
  rintro v H' ⟨u, rfl, ⟨_, hu, rfl⟩ | ⟨hbad, _⟩⟩
  rotate_left
  exact absurd rfl hbad
  rw [jE4]
  refine jC1 _ (HLe.swap _ _) ?_
  obtain ⟨A2, c2, rfl, _⟩ := hu.form
  refine sX rfl rfl rfl <| sX rfl rfl rfl ?_
  first | refine sS 0 rfl rfl rfl tyS27 (by simp only [Value.cells]; rfl) rfl rfl (by simp only [qS]; rfl) (by simp only [qS, wrV]; rfl) rfl ?_
  refine sA rfl rfl <| sN (hZ _ _ ?_)
  refine aF [(4, _), (5, _)] (kR rfl) ?_
  refine aE ?_
  exact jB4 (rowE _ 62 2 (jA0 X)) rfl (ResOk.cell 0 rfl rfl tyA27 tyS27 rfl) rfl (HLe.sub (List.sublist_append_right (_ :: (T ++ _)) _)) ⟨_, rfl, hu, rfl⟩
end Go.Proofs.YtkojkeabelckjaaGreatDoor.V
end
