/- What the laws of shelf share: lists with short texts, memory behind a step. No conditions. -/
import Derived.Test.YtjelakmndcecoaaSh10
namespace Go.Proofs.Ytjelakmndcecoaa
open Go.RowKit
set_option linter.unusedVariables false
set_option linter.unusedSimpArgs false
set_option maxRecDepth 100000
def ShortX (X : List Item) : Prop := ∀ x ∈ X, x.2.length ≤ 400
theorem ShortX.nil : ShortX [] := fun _ h => by cases h
theorem ShortX.val {X : List Item} (h : ShortX X) (k : Ky) : (valK X k).length ≤ 400 := by
  unfold valK
  cases hf : X.find? fun x => decide (x.1 = k) with
  | none => simp
  | some x => exact h x (List.mem_of_find?_eq_some hf)
theorem ShortX.drop {X : List Item} (h : ShortX X) (k : Ky) : ShortX (rDrop X k) := fun x hx => h x (List.mem_filter.1 hx).1
theorem ShortX.snoc {X : List Item} (h : ShortX X) {k : Ky} {t : List UInt8} (ht : t.length ≤ 400) : ShortX (X ++ [(k, t)]) := fun x hx => by
  rcases List.mem_append.1 hx with hx | hx
  · exact h x hx
  · rw [List.mem_singleton.1 hx]; exact ht
theorem ShortX.keep {X : List Item} (h : ShortX X) (most : Nat) (k : Ky) {t : List UInt8} (ht : t.length ≤ 400) : ShortX (keepX most X k t) := by
  unfold keepX
  split
  · unfold rPutL
    split
    · exact (h.drop k).snoc ht
    · exact fun x hx => (h.drop k).snoc ht x (List.mem_of_mem_tail hx)
  · exact h
theorem ShortX.get {X : List Item} (h : ShortX X) (k : Ky) : ShortX (rGetL X k) := by
  unfold rGetL
  split
  · exact (h.drop k).snoc (h.val k)
  · exact h
theorem ShortX.step {X : List Item} (h : ShortX X) (most d : Nat) (k : Ky) {t : List UInt8} (ht : t.length ≤ 400) : ShortX (stepX most d X k t) := by
  unfold stepX
  split
  · exact h.keep most k ht
  · split
    · exact h.get k
    · exact ShortX.nil
/-- Memory behind a step. -/
theorem after_step {B : Bk} {most : Nat} {S S' : Sh} {A' : Option Addr} {X' : List Item} {W T1 T : Heap} (h : StepT most S S' A' X' W T1 T) (E : Heap) :
    HLe (shH B most S' ++ (E ++ (T1 ++ T))) ((shH B most S' ++ W).filter Ent.wr ++ (E ++ T)) := by
  rw [(Wrs.append (shH_wrs B most S') h.wrs).filter]
  have h2 := h.turn.2 (shH B most S' ++ E) T
  rw [List.append_assoc, List.append_assoc] at h2
  refine h2.trans (fun _ _ _ hw => hw.perm ?_)
  rw [List.append_assoc]
  exact List.Perm.append_left _ (List.perm_append_comm_assoc W E T)
theorem after_step2 {B : Bk} {most : Nat} {S S' : Sh} {A' : Option Addr} {X' : List Item} {W T1 T : Heap} (h : StepT most S S' A' X' W T1 T) (E F : Heap) :
    HLe (shH B most S' ++ (E ++ (F ++ (T1 ++ T)))) ((shH B most S' ++ W).filter Ent.wr ++ (E ++ (F ++ T))) := by
  have := after_step (B := B) h (E ++ F)
  rw [List.append_assoc, List.append_assoc] at this
  exact this
theorem after_step3 {B : Bk} {most : Nat} {S S' : Sh} {A' : Option Addr} {X' : List Item} {W T1 T : Heap} (h : StepT most S S' A' X' W T1 T) (D E F : Heap) :
    HLe (shH B most S' ++ (D ++ (E ++ (F ++ (T1 ++ T))))) ((shH B most S' ++ W).filter Ent.wr ++ (D ++ (E ++ (F ++ T)))) := by
  have := after_step2 (B := B) h D (E ++ F)
  rw [List.append_assoc, List.append_assoc] at this
  exact this
theorem HLe.mv (A D E : Heap) : HLe (A ++ (D ++ E)) (D ++ (A ++ E)) := fun _ _ _ hw => hw.perm (List.perm_append_comm_assoc D A E)
theorem HLe.mv' (A D E : Heap) : HLe (D ++ (A ++ E)) (A ++ (D ++ E)) := HLe.mv D A E
theorem over_short {L : List Opn} {n : Nat} (h : overV L n = false) : L.length ≤ n ∧ ∀ x ∈ L, x.v.length ≤ 400 := by
  simp only [overV, Bool.or_eq_false_iff, decide_eq_false_iff_not, List.any_eq_false, decide_eq_true_eq] at h
  exact ⟨by omega, fun x hx => by have := h.1 x hx; omega⟩
end Go.Proofs.Ytjelakmndcecoaa
