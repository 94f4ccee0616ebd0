/- The walks of package chart: what is told of it. Conditions: the lists are not too long. -/
import Derived.Test.YtahmhcmfeloclaaCh2
namespace Go.Proofs.Ytahmhcmfeloclaa
open Go.RowKit
set_option linter.unusedVariables false
set_option linter.unusedSimpArgs false
theorem wrs_fltc {T K A : Heap} (h : Wrs T) : HLe T (A ++ (T.filter Ent.wr ++ K)) := by
  rw [h.filter]
  exact HLe.sub ((List.sublist_append_left T K).trans (List.sublist_append_right A _))
/-- What an identifier has. -/
def cGet (k : Nat) (L : List It) : List UInt8 := if cHas k L then (itAt L (cLo k L)).tx else []
theorem get_fn (A : Option Addr) (c : Nat) (L : List It) (T : Heap) (hA : ArgOk A L.length) (hT : 0 < L.length → T = roE A (icells L)) (hro : Ro T) (hL : L.length ≤ 1000000) (hr : Rise L) (k : Nat) :
    Fn Try.prog 22 [chV A L.length c, uq k] T fun v _ => v = .tuple #[.string (str (cGet k L)), .bool (cHas k L)] := by
  refine Fn.enter (N := 22) Try.func22 rfl (by kernel_rfl) rfl (fun w0 => ?_)

  refine awp_seq_region (fun Z hZ => ?_)
  refine sx_box rfl rfl rfl (fun g1 => ?_)
  refine sx_assign rfl rfl ?_
  refine sx_assign rfl rfl ?_
  refine sx_nil (hZ _ _ ?_)
  refine awp_forget [(1, _), (2, _)] (Kn.cons rfl (Kn.cons rfl (Kn.nil))) ?_

  refine awp_seq_region (fun Z hZ => ?_)
  first | refine sx_loadA 0 rfl rfl tyA29 tyS29 (by first | (simp only [List.length_cons, List.length_nil, Nat.reduceAdd, Nat.zero_add, Nat.add_zero]; first | done | rfl) | rfl) (by first | (simp only [List.take_succ_cons, List.take_zero, List.drop_succ_cons, List.drop_zero, List.cons_append, List.nil_append, List.append_nil, List.length_cons, List.length_nil, Nat.reduceAdd, Nat.zero_add, Nat.add_zero, Value.cells, wrV]; first | done | rfl) | rfl) rfl ?_
  refine sx_move rfl rfl ?_
  refine sx_callPT T (place_fn A c L T hA hT hro hL hr k) rfl (List.sublist_cons_self _ _) hro rfl ?_
  refine sx_move rfl rfl ?_
  refine sx_extract rfl rfl rfl ?_
  refine sx_extract rfl rfl rfl ?_
  refine sx_assign rfl rfl ?_
  refine sx_assign rfl rfl ?_
  refine sx_nil (hZ _ _ ?_)
  refine awp_forget [(2, _), (6, _), (7, _)] (Kn.cons rfl (Kn.cons rfl (Kn.cons rfl (Kn.nil)))) ?_
  refine awp_seq ?_
  refine awp_seq_region (fun Z hZ => ?_)
  refine sx_move rfl rfl ?_
  refine sx_not rfl rfl ?_
  refine sx_nil (hZ _ _ ?_)
  refine awp_forget [(2, _), (6, _), (15, _)] (Kn.cons rfl (Kn.cons rfl (Kn.cons rfl (Kn.nil)))) ?_
  first | refine awp_cond rfl (fun h => ?_) (fun h => ?_) | refine awp_seq (awp_cond rfl (fun h => ?_) (fun h => ?_))
  · have h' : cHas k L = false := by simpa using h
    have hg : cGet k L = [] := by unfold cGet; rw [h']; rfl
    rw [hg, h']
    refine awp_seq_region (fun Z hZ => ?_)
    refine sx_assign rfl rfl ?_
    refine sx_assign rfl rfl ?_
    refine sx_nil (hZ _ _ ?_)
    refine awp_forget [(4, _), (5, _)] (Kn.cons rfl (Kn.cons rfl (Kn.nil))) ?_
    refine awp_ret ?_
    repeat (with_reducible (first | refine nx_then_ret ?_ | refine nx_block_ret ?_ | refine nx_scope_ret ?_))
    exact nx_ret2 rfl rfl rfl rfl
  have h' : cHas k L = true := by simpa using h
  obtain ⟨p, hp⟩ : ∃ p, cLo k L = p := ⟨_, rfl⟩
  have hg : cGet k L = (itAt L p).tx := by unfold cGet; rw [h', hp]; rfl
  have hlt : p < L.length := by
    unfold cHas at h'
    rw [hp] at h'
    exact (of_decide_eq_true h').1
  have hx := itAt_at hlt
  obtain ⟨g, o, rfl⟩ := hA (by omega)
  obtain rfl := hT (by omega)
  rw [hg, h', hp]
  refine awp_skip ?_
  repeat (with_reducible (first | refine nx_block_normal ?_ | refine nx_scope_normal ?_))
  with_reducible first | refine nx_normal ?_ | refine nx_normalM ?_

  refine awp_seq_region (fun Z hZ => ?_)
  refine sx_fieldAddr rfl tyF29_0 (by first | (simp only [Nat.reduceAdd, Nat.add_zero, Nat.zero_add]; first | done | rfl) | rfl) rfl ?_
  first | refine sx_load 0 rfl rfl tyA27 tyS27 rfl rfl ?_ | refine sx_load 1 rfl rfl tyA27 tyS27 rfl rfl ?_
  refine sx_move rfl rfl ?_
  refine sx_indexAddr (o + p * 2) Try.underlying27 tyS60 rfl rfl (by omega) (by simp) rfl ?_
  refine sx_fieldAddr rfl tyF60_1 (by first | (simp only [Nat.reduceAdd, Nat.add_zero, Nat.zero_add]; first | done | rfl) | rfl) rfl ?_
  refine sx_loadRo 1 rfl rfl (p * 2 + 1) rfl tyA9 tyS9 (icells_tx hx) rfl ?_
  refine sx_assign rfl rfl ?_
  refine sx_assign rfl rfl ?_
  refine sx_nil (hZ _ _ ?_)
  refine awp_forget [(4, _), (5, _)] (Kn.cons rfl (Kn.cons rfl (Kn.nil))) ?_
  refine awp_ret ?_
  repeat (with_reducible (first | refine nx_then_ret ?_ | refine nx_block_ret ?_ | refine nx_scope_ret ?_))
  exact nx_ret2 rfl rfl rfl rfl
/-- All bytes. -/
def cBytes (L : List It) : Nat := (L.map fun e => e.tx.length).sum
theorem cBytes_snoc {L : List It} {k : Nat} {x : It} (h : L[k]? = some x) : cBytes (L.take (k + 1)) = cBytes (L.take k) + x.tx.length := by
  rw [List.take_add_one, h]
  simp [cBytes]
theorem cBytes_le (L : List It) (k : Nat) : cBytes (L.take k) ≤ cBytes L := by
  have : cBytes L = cBytes (L.take k) + cBytes (L.drop k) := by
    simp only [cBytes]
    rw [← List.sum_append, ← List.map_append, List.take_append_drop]
  omega
theorem iclone_fn (A : Option Addr) (c : Nat) (L : List It) (T : Heap) (hA : ArgOk A L.length) (hT : 0 < L.length → T = roE A (icells L)) (hnil : A = none → L.length = 0) (hro : Ro T) (hL : L.length ≤ 100000) :
    Fn Try.prog 32 [.slice A L.length c] T fun v H' => RowOk v L.length ∧ H' = rowE v 60 2 (icells L) := by
  refine Fn.enter (N := 8) Try.func32 rfl (by kernel_rfl) rfl (fun w0 => ?_)

  refine awp_seq_region (fun Z hZ => ?_)
  refine sx_assign rfl rfl ?_
  refine sx_nil (hZ _ _ ?_)
  refine awp_forget [(0, _)] (Kn.cons rfl (Kn.nil)) ?_
  refine awp_seq ?_
  refine awp_seq_region (fun Z hZ => ?_)
  refine sx_move rfl rfl ?_
  refine sx_sliceEqNil Try.underlying27 rfl rfl ?_
  refine sx_nil (hZ _ _ ?_)
  refine awp_forget [(0, _), (4, _)] (Kn.cons rfl (Kn.cons rfl (Kn.nil))) ?_
  first | refine awp_cond rfl (fun h => ?_) (fun h => ?_) | refine awp_seq (awp_cond rfl (fun h => ?_) (fun h => ?_))
  · have h0 : A = none := by simpa using h
    have hl := hnil h0
    refine awp_seq_region (fun Z hZ => ?_)
    refine sx_assign rfl rfl ?_
    refine sx_nil (hZ _ _ ?_)
    refine awp_forget [(2, _)] (Kn.cons rfl (Kn.nil)) ?_
    refine awp_ret ?_
    repeat (with_reducible (first | refine nx_then_ret ?_ | refine nx_block_ret ?_ | refine nx_scope_ret ?_))
    have hLn : L = [] := List.length_eq_zero_iff.1 hl
    subst hLn
    exact nx_ret1h [] rfl rfl (HLe.sub (List.nil_sublist _)) ⟨RowOk.nil, rfl⟩
  refine awp_skip ?_
  repeat (with_reducible (first | refine nx_block_normal ?_ | refine nx_scope_normal ?_))
  with_reducible first | refine nx_normal ?_ | refine nx_normalM ?_
  refine awp_seq_region (fun Z hZ => ?_)
  refine sx_buildSlice0 Try.underlying27 tyS60 rfl (fun g => ?_)
  refine sx_heap (T ++ rowE (.slice (some ⟨g, 0, none⟩) 0 0) 60 2 []) ((HLe.swap _ _).trans (HLe.ownRow [] T rfl (Nat.zero_le _))) ?_
  refine sx_move rfl rfl ?_
  refine sx_appendE T elemIt rfl (RowOk.mk g 0 0) rfl rfl (fun w hw => rd_arg hA hT (icells_len L) hnil (HLe.sub (List.sublist_append_left _ _)) hw) (icells_one L) (by show _ ≤ 9223372036854775807; omega) (by omega) (HLe.refl _) rfl (fun v2 hv2 => ?_)
  rw [List.nil_append]
  rw [Nat.zero_add] at hv2
  refine sx_assign rfl rfl ?_
  refine sx_nil (hZ _ _ ?_)
  refine awp_forget [(2, _)] (Kn.cons rfl (Kn.nil)) ?_
  refine awp_ret ?_
  repeat (with_reducible (first | refine nx_then_ret ?_ | refine nx_block_ret ?_ | refine nx_scope_ret ?_))
  exact nx_ret1h _ rfl rfl (HLe.sub (List.sublist_append_right _ _)) ⟨hv2, rfl⟩
theorem items_fn (A : Option Addr) (c : Nat) (L : List It) (T : Heap) (hA : ArgOk A L.length) (hT : 0 < L.length → T = roE A (icells L)) (hnil : A = none → L.length = 0) (hro : Ro T) (hL : L.length ≤ 100000) :
    Fn Try.prog 21 [chV A L.length c] T fun v H' => RowOk v L.length ∧ H' = rowE v 60 2 (icells L) := by
  refine Fn.enter (N := 6) Try.func21 rfl (by kernel_rfl) rfl (fun w0 => ?_)

  refine awp_seq_region (fun Z hZ => ?_)
  refine sx_box rfl rfl rfl (fun g1 => ?_)
  refine sx_assign rfl rfl ?_
  refine sx_nil (hZ _ _ ?_)
  refine awp_forget [(1, _)] (Kn.cons rfl (Kn.nil)) ?_

  refine awp_seq_region (fun Z hZ => ?_)
  refine sx_fieldAddr rfl tyF29_0 (by first | (simp only [Nat.reduceAdd, Nat.add_zero, Nat.zero_add]; first | done | rfl) | rfl) rfl ?_
  first | refine sx_load 0 rfl rfl tyA27 tyS27 rfl rfl ?_
  refine sx_callRT T (iclone_fn A c L T hA hT hnil hro hL) rfl (List.sublist_cons_self _ _) hro rfl (fun v hv => ?_)
  refine sx_assign rfl rfl ?_
  refine sx_nil (hZ _ _ ?_)
  refine awp_forget [(2, _)] (Kn.cons rfl (Kn.nil)) ?_
  refine awp_ret ?_
  repeat (with_reducible (first | refine nx_then_ret ?_ | refine nx_block_ret ?_ | refine nx_scope_ret ?_))
  exact nx_ret1h _ rfl rfl (HLe.sub (List.sublist_append_left _ _)) ⟨hv, rfl⟩
end Go.Proofs.Ytahmhcmfeloclaa
