/- Shelf's functions on a shelf that is not there. No conditions. -/
import Derived.Test.YtjelakmndcecoaaSh11
namespace Go.Proofs.Ytjelakmndcecoaa
open Go.RowKit
set_option linter.unusedVariables false
set_option linter.unusedSimpArgs false
set_option maxRecDepth 100000
theorem nlook_fn (k : Ky) : Fn Try.prog 17 [.pointer none, LI.encK k] [] fun v _ => v = .tuple #[.slice none 0 0, .bool false] := by
  refine Fn.enter (N := 42) Try.func17 rfl (by kernel_rfl) rfl (fun w0 => ?_)

  refine awp_seq_region (fun Z hZ => ?_)
  refine sx_box rfl rfl rfl (fun g1 => ?_)
  refine sx_assign rfl rfl ?_
  refine sx_assign rfl rfl ?_
  refine sx_nil (hZ _ _ ?_)
  refine awp_forget [(0, _), (3, _)] (Kn.cons rfl (Kn.cons rfl (Kn.nil))) ?_
  refine awp_seq ?_
  refine awp_seq_region (fun Z hZ => ?_)
  refine sx_move rfl rfl ?_
  refine sx_nilNil Try.underlying23 rfl rfl ?_
  refine sx_nil (hZ _ _ ?_)
  refine awp_forget [(0, _), (3, _), (9, _)] (Kn.cons rfl (Kn.cons rfl (Kn.cons rfl (Kn.nil)))) ?_
  first | refine awp_cond rfl (fun h => ?_) (fun h => ?_) | refine awp_seq (awp_cond rfl (fun h => ?_) (fun h => ?_))
  · refine awp_seq_region (fun Z hZ => ?_)
    refine sx_assign rfl rfl ?_
    refine sx_assign rfl rfl ?_
    refine sx_nil (hZ _ _ ?_)
    refine awp_forget [(4, _), (5, _)] (Kn.cons rfl (Kn.cons rfl (Kn.nil))) ?_
    refine awp_ret ?_
    repeat (with_reducible (first | refine nx_then_ret ?_ | refine nx_block_ret ?_ | refine nx_scope_ret ?_))
    exact nx_ret2 rfl rfl rfl rfl
  · cases h
theorem nkeep_fn (k : Ky) (t : List UInt8) : Fn Try.prog 13 [.pointer none, LI.encK k, .string (str t)] [] fun v _ => v = .tuple #[.slice none 0 0, iq 1] := by
  refine Fn.enter (N := 68) Try.func13 rfl (by kernel_rfl) rfl (fun w0 => ?_)

  refine awp_seq_region (fun Z hZ => ?_)
  refine sx_box rfl rfl rfl (fun g1 => ?_)
  refine sx_assign rfl rfl ?_
  refine sx_assign rfl rfl ?_
  refine sx_nil (hZ _ _ ?_)
  refine awp_forget [(0, _), (2, _), (4, _)] (Kn.cons rfl (Kn.cons rfl (Kn.cons rfl (Kn.nil)))) ?_
  refine awp_seq ?_
  refine awp_seq_region (fun Z hZ => ?_)
  refine sx_move rfl rfl ?_
  refine sx_nilNil Try.underlying23 rfl rfl ?_
  refine sx_nil (hZ _ _ ?_)
  refine awp_forget [(0, _), (2, _), (4, _), (12, _)] (Kn.cons rfl (Kn.cons rfl (Kn.cons rfl (Kn.cons rfl (Kn.nil))))) ?_
  first | refine awp_cond rfl (fun h => ?_) (fun h => ?_) | refine awp_seq (awp_cond rfl (fun h => ?_) (fun h => ?_))
  · refine awp_seq_region (fun Z hZ => ?_)
    refine sx_assign rfl rfl ?_
    refine sx_assign rfl rfl ?_
    refine sx_nil (hZ _ _ ?_)
    refine awp_forget [(6, _), (7, _)] (Kn.cons rfl (Kn.cons rfl (Kn.nil))) ?_
    refine awp_ret ?_
    repeat (with_reducible (first | refine nx_then_ret ?_ | refine nx_block_ret ?_ | refine nx_scope_ret ?_))
    exact nx_ret2 rfl rfl rfl rfl
  · cases h
theorem nlen_fn : Fn Try.prog 16 [.pointer none] [] fun v _ => v = iq 0 := by
  refine Fn.enter (N := 10) Try.func16 rfl (by kernel_rfl) rfl (fun w0 => ?_)

  refine awp_seq_region (fun Z hZ => ?_)
  refine sx_assign rfl rfl ?_
  refine sx_nil (hZ _ _ ?_)
  refine awp_forget [(0, _)] (Kn.cons rfl (Kn.nil)) ?_
  refine awp_seq ?_
  refine awp_seq_region (fun Z hZ => ?_)
  refine sx_move rfl rfl ?_
  refine sx_nilNil Try.underlying23 rfl rfl ?_
  refine sx_nil (hZ _ _ ?_)
  refine awp_forget [(0, _), (4, _)] (Kn.cons rfl (Kn.cons rfl (Kn.nil))) ?_
  first | refine awp_cond rfl (fun h => ?_) (fun h => ?_) | refine awp_seq (awp_cond rfl (fun h => ?_) (fun h => ?_))
  · refine awp_seq_region (fun Z hZ => ?_)
    refine sx_assign rfl rfl ?_
    refine sx_nil (hZ _ _ ?_)
    refine awp_forget [(2, _)] (Kn.cons rfl (Kn.nil)) ?_
    refine awp_ret ?_
    repeat (with_reducible (first | refine nx_then_ret ?_ | refine nx_block_ret ?_ | refine nx_scope_ret ?_))
    exact nx_ret1 rfl rfl rfl
  · cases h
theorem nmost_fn : Fn Try.prog 8 [.pointer none] [] fun v _ => v = iq 0 := by
  refine Fn.enter (N := 10) Try.func8 rfl (by kernel_rfl) rfl (fun w0 => ?_)

  refine awp_seq_region (fun Z hZ => ?_)
  refine sx_assign rfl rfl ?_
  refine sx_nil (hZ _ _ ?_)
  refine awp_forget [(0, _)] (Kn.cons rfl (Kn.nil)) ?_
  refine awp_seq ?_
  refine awp_seq_region (fun Z hZ => ?_)
  refine sx_move rfl rfl ?_
  refine sx_nilNil Try.underlying23 rfl rfl ?_
  refine sx_nil (hZ _ _ ?_)
  refine awp_forget [(0, _), (4, _)] (Kn.cons rfl (Kn.cons rfl (Kn.nil))) ?_
  first | refine awp_cond rfl (fun h => ?_) (fun h => ?_) | refine awp_seq (awp_cond rfl (fun h => ?_) (fun h => ?_))
  · refine awp_seq_region (fun Z hZ => ?_)
    refine sx_assign rfl rfl ?_
    refine sx_nil (hZ _ _ ?_)
    refine awp_forget [(2, _)] (Kn.cons rfl (Kn.nil)) ?_
    refine awp_ret ?_
    repeat (with_reducible (first | refine nx_then_ret ?_ | refine nx_block_ret ?_ | refine nx_scope_ret ?_))
    exact nx_ret1 rfl rfl rfl
  · cases h
theorem nkeys_fn : Fn Try.prog 12 [.pointer none] [] fun v _ => v = .slice none 0 0 := by
  refine Fn.enter (N := 10) Try.func12 rfl (by kernel_rfl) rfl (fun w0 => ?_)

  refine awp_seq_region (fun Z hZ => ?_)
  refine sx_assign rfl rfl ?_
  refine sx_nil (hZ _ _ ?_)
  refine awp_forget [(0, _)] (Kn.cons rfl (Kn.nil)) ?_
  refine awp_seq ?_
  refine awp_seq_region (fun Z hZ => ?_)
  refine sx_move rfl rfl ?_
  refine sx_nilNil Try.underlying23 rfl rfl ?_
  refine sx_nil (hZ _ _ ?_)
  refine awp_forget [(0, _), (4, _)] (Kn.cons rfl (Kn.cons rfl (Kn.nil))) ?_
  first | refine awp_cond rfl (fun h => ?_) (fun h => ?_) | refine awp_seq (awp_cond rfl (fun h => ?_) (fun h => ?_))
  · refine awp_seq_region (fun Z hZ => ?_)
    refine sx_assign rfl rfl ?_
    refine sx_nil (hZ _ _ ?_)
    refine awp_forget [(2, _)] (Kn.cons rfl (Kn.nil)) ?_
    refine awp_ret ?_
    repeat (with_reducible (first | refine nx_then_ret ?_ | refine nx_block_ret ?_ | refine nx_scope_ret ?_))
    exact nx_ret1 rfl rfl rfl
  · cases h
theorem nfork_fn : Fn Try.prog 19 [.pointer none] [] fun v _ => v = .pointer none := by
  refine Fn.enterM (n := 46) Try.func19 rfl (by kernel_rfl) rfl (fun w0 => ?_)

  refine awp_seq_region (fun Z hZ => ?_)
  refine sx_assign rfl rfl ?_
  refine sx_nil (hZ _ _ ?_)
  refine awp_forget [(0, _)] (Kn.cons rfl (Kn.nil)) ?_
  refine awp_seq ?_
  refine awp_seq_region (fun Z hZ => ?_)
  refine sx_move rfl rfl ?_
  refine sx_nilNil Try.underlying23 rfl rfl ?_
  refine sx_nil (hZ _ _ ?_)
  refine awp_forget [(0, _), (7, _)] (Kn.cons rfl (Kn.cons rfl (Kn.nil))) ?_
  first | refine awp_cond rfl (fun h => ?_) (fun h => ?_) | refine awp_seq (awp_cond rfl (fun h => ?_) (fun h => ?_))
  · refine awp_seq_region (fun Z hZ => ?_)
    refine sx_assign rfl rfl ?_
    refine sx_nil (hZ _ _ ?_)
    refine awp_forget [(2, _)] (Kn.cons rfl (Kn.nil)) ?_
    refine awp_ret ?_
    repeat (with_reducible (first | refine nx_then_ret ?_ | refine nx_block_ret ?_ | refine nx_scope_ret ?_))
    exact nx_unmark [] ⟨⟩ (nx_ret1 rfl rfl rfl)
  · cases h
theorem nclear_fn : Fn Try.prog 18 [.pointer none] [] fun v _ => v = .tuple #[] := by
  refine Fn.enter (N := 24) Try.func18 rfl (by kernel_rfl) rfl (fun w0 => ?_)
  refine awp_cut (ι := Unit) (fun c => [(0, .pointer none)]) (fun c => []) (fun c => True) ?_ ?_
  · skip
    refine awp_seq_region (fun Z hZ => ?_)
    refine sx_move rfl rfl ?_
    refine sx_callP nkeys_fn rfl rfl ?_
    first | refine sx_len Try.underlying42 rfl rfl ?_ | refine sx_lenS Try.underlying42 rfl rfl ?_
    refine sx_move rfl rfl ?_
    refine sx_nil (hZ _ _ ?_)
    refine awp_forget [(0, _), (5, _), (6, _), (7, _)] (Kn.cons rfl (Kn.cons rfl (Kn.cons rfl (Kn.cons rfl (Kn.nil))))) ?_
    refine awp_block ?_
    refine awp_loop (ι := Unit) (fun i => [(0, .pointer none), (5, .slice none 0 0), (6, iq (0 : Nat)), (7, iq (0 : Nat))]) (fun i => [])
      (fun i => True) (fun i => 0) () trivial (Kn.cons rfl (Kn.cons rfl (Kn.cons rfl (Kn.cons rfl Kn.nil)))) (HLe.refl _) ?_
    intro i hi

    refine awp_seq_region (fun Z hZ => ?_)
    first | refine sx_lss rfl rfl rfl ?_ | refine sx_slss rfl rfl rfl ?_
    refine sx_nil (hZ _ _ ?_)
    refine awp_forget [(0, _), (5, _), (6, _), (7, _), (8, _)] (Kn.cons rfl (Kn.cons rfl (Kn.cons rfl (Kn.cons rfl (Kn.cons rfl (Kn.nil)))))) ?_
    first | refine awp_cond rfl (fun h => ?_) (fun h => ?_) | refine awp_seq (awp_cond rfl (fun h => ?_) (fun h => ?_))
    · simp at h
    · refine awp_exit ?_
      repeat (with_reducible (first | refine nx_then_exit ?_ | refine nx_block_other (by decide) ?_ | refine nx_scope_exit ?_))
      with_reducible refine nx_block_exit ?_
      repeat (with_reducible (first | refine nx_block_normal ?_ | refine nx_scope_normal ?_))
      exact nx_cut () trivial (Kn.cons rfl Kn.nil) (HLe.refl _)
  intro c hc

  refine awp_seq_region (fun Z hZ => ?_)
  refine sx_move rfl rfl ?_
  refine sx_nilNeNil Try.underlying23 rfl rfl ?_
  refine sx_nil (hZ _ _ ?_)
  refine awp_forget [(0, _), (19, _)] (Kn.cons rfl (Kn.cons rfl (Kn.nil))) ?_
  first | refine awp_cond rfl (fun h => ?_) (fun h => ?_) | refine awp_seq (awp_cond rfl (fun h => ?_) (fun h => ?_))
  · cases h
  · refine awp_skip ?_
    exact nx_end0h [] rfl (HLe.refl _) rfl
theorem fork_le {W T1 : Heap} (h : Turn W T1) (A S D T U V : Heap) : HLe (A ++ (U ++ ((S ++ D) ++ (T1 ++ V)))) ((A ++ (W ++ S)) ++ (D ++ (T ++ (U ++ V)))) := by
  have h1 := h.2 (A ++ (U ++ (S ++ D))) V
  refine HLe.trans (b := A ++ (U ++ ((S ++ D) ++ (W ++ V)))) (by simpa only [List.append_assoc] using h1) ?_
  refine HLe.trans (b := (A ++ (W ++ S)) ++ (D ++ (U ++ V))) (fun _ _ _ hw => hw.perm ?_) (HLe.sub (List.Sublist.append_left (List.Sublist.append_left (List.sublist_append_right T _) D) _))
  have e1 : ((A ++ (W ++ S)) ++ (D ++ (U ++ V))).Perm (A ++ ((S ++ D) ++ (W ++ (U ++ V)))) := by
    rw [List.append_assoc A]
    refine List.Perm.append_left A ?_
    have := List.perm_append_comm_assoc W (S ++ D) (U ++ V)
    simp only [List.append_assoc] at this ⊢
    exact this
  refine e1.trans (List.Perm.append_left A ?_)
  have e2 := List.perm_append_comm_assoc ((S ++ D) ++ W) U V
  have e3 : (U ++ (((S ++ D) ++ W) ++ V)).Perm (U ++ ((S ++ D) ++ (W ++ V))) := by rw [List.append_assoc (S ++ D)]
  refine List.Perm.trans ?_ (e2.trans e3)
  rw [List.append_assoc (S ++ D) W]
theorem fork_le2 (D A U S V : Heap) : HLe (D ++ (A ++ (U ++ (S ++ V)))) (A ++ (U ++ ((S ++ D) ++ V))) := fun _ _ _ hw => hw.perm (by
  have e1 := List.perm_append_comm_assoc (A ++ (U ++ S)) D V
  simp only [List.append_assoc] at e1 ⊢
  exact e1)
theorem fork_le3 (E D A U S V : Heap) : HLe (A ++ (E ++ (U ++ ((S ++ D) ++ V)))) (E ++ (D ++ (A ++ (U ++ (S ++ V))))) := fun _ _ _ hw => hw.perm (by
  have e1 := List.perm_append_comm_assoc (E ++ D) (A ++ (U ++ S)) V
  have e3 := List.Perm.append_left A (List.perm_append_comm_assoc E (U ++ S) (D ++ V)).symm
  simp only [List.append_assoc] at e1 e3 ⊢
  exact e1.trans e3)
theorem fork_le4 (A S : Heap) (d e : Ent) (U T : Heap) : HLe (S ++ (A ++ ([d, e] ++ T))) (A ++ ([d] ++ (U ++ ((S ++ [e]) ++ T)))) := by
  refine HLe.trans (b := A ++ ([d] ++ ((S ++ [e]) ++ T))) (fun _ _ _ hw => hw.perm ?_) (HLe.sub (List.Sublist.append_left (List.Sublist.append_left (List.sublist_append_right U _) _) _))
  have e1 := List.perm_append_comm_assoc (A ++ [d]) S ([e] ++ T)
  simp only [List.append_assoc] at e1 ⊢
  exact e1
theorem after_step4 {B : Bk} {most : Nat} {S S' : Sh} {A' : Option Addr} {X' : List Item} {W T1 T : Heap} (h : StepT most S S' A' X' W T1 T) (C D E F : Heap) :
    HLe (shH B most S' ++ (C ++ (D ++ (E ++ (F ++ (T1 ++ T)))))) ((shH B most S' ++ W).filter Ent.wr ++ (C ++ (D ++ (E ++ (F ++ T))))) := by
  have := after_step3 (B := B) h C D (E ++ F)
  rw [List.append_assoc, List.append_assoc] at this
  exact this
end Go.Proofs.Ytjelakmndcecoaa
