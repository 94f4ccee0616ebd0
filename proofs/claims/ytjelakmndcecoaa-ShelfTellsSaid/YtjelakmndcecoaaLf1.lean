/- The walks of package leaves: pointers among entries, copies of rows. Conditions: the lists are not too long. -/
import Derived.Test.YtjelakmndcecoaaGdr3
import Derived.Test.YtjelakmndcecoaaSxZ
namespace Go.Proofs.Ytjelakmndcecoaa
open Go.RowKit
set_option linter.unusedVariables false
set_option linter.unusedSimpArgs false
def isPtr (e : En) : Bool := decide (e.run = 0)
def hasPtr (L : List En) : Bool := L.any isPtr
theorem clone_fn (A : Option Addr) (c : Nat) (L : List En) (T : Heap) (hA : ArgOk A L.length) (hT : 0 < L.length → T = roE A (ecells L)) (hnil : A = none → L.length = 0) (hro : Ro T) (hL : L.length ≤ 100000) :
    Fn Try.prog 31 [.slice A L.length c] T fun v H' => RowOk v L.length ∧ H' = rowE v 65 4 (ecells L) := by
  refine Fn.enter (N := 8) Try.func31 rfl (by kernel_rfl) rfl (fun w0 => ?_)

  refine awp_seq_region (fun Z hZ => ?_)
  refine sx_assign rfl rfl ?_
  refine sx_nil (hZ _ _ ?_)
  refine awp_forget [(0, _)] (Kn.cons rfl (Kn.nil)) ?_
  refine awp_seq ?_
  refine awp_seq_region (fun Z hZ => ?_)
  refine sx_move rfl rfl ?_
  refine sx_sliceEqNil Try.underlying44 rfl rfl ?_
  refine sx_nil (hZ _ _ ?_)
  refine awp_forget [(0, _), (4, _)] (Kn.cons rfl (Kn.cons rfl (Kn.nil))) ?_
  first | refine awp_cond rfl (fun h => ?_) (fun h => ?_) | refine awp_seq (awp_cond rfl (fun h => ?_) (fun h => ?_))
  · have h0 : A = none := by simpa using h
    have hl := hnil h0
    refine awp_seq_region (fun Z hZ => ?_)
    refine sx_assign rfl rfl ?_
    refine sx_nil (hZ _ _ ?_)
    refine awp_forget [(2, _)] (Kn.cons rfl (Kn.nil)) ?_
    refine awp_ret ?_
    repeat (with_reducible (first | refine nx_then_ret ?_ | refine nx_block_ret ?_ | refine nx_scope_ret ?_))
    have hLn : L = [] := List.length_eq_zero_iff.1 hl
    subst hLn
    exact nx_ret1h [] rfl rfl (HLe.sub (List.nil_sublist _)) ⟨RowOk.nil, rfl⟩
  refine awp_skip ?_
  repeat (with_reducible (first | refine nx_block_normal ?_ | refine nx_scope_normal ?_))
  with_reducible first | refine nx_normal ?_ | refine nx_normalM ?_
  refine awp_seq_region (fun Z hZ => ?_)
  refine sx_buildSlice0 Try.underlying44 tyS65 rfl (fun g => ?_)
  refine sx_heap (T ++ rowE (.slice (some ⟨g, 0, none⟩) 0 0) 65 4 []) ((HLe.swap _ _).trans (HLe.ownRow [] T rfl (Nat.zero_le _))) ?_
  refine sx_move rfl rfl ?_
  refine sx_appendE T elemEn rfl (RowOk.mk g 0 0) rfl rfl (fun w hw => rd_arg hA hT (ecells_len L) hnil (HLe.sub (List.sublist_append_left _ _)) hw) (ecells_one L) (by show _ ≤ 9223372036854775807; omega) (by omega) (HLe.refl _) rfl (fun v2 hv2 => ?_)
  rw [List.nil_append]
  rw [Nat.zero_add] at hv2
  refine sx_assign rfl rfl ?_
  refine sx_nil (hZ _ _ ?_)
  refine awp_forget [(2, _)] (Kn.cons rfl (Kn.nil)) ?_
  refine awp_ret ?_
  repeat (with_reducible (first | refine nx_then_ret ?_ | refine nx_block_ret ?_ | refine nx_scope_ret ?_))
  exact nx_ret1h _ rfl rfl (HLe.sub (List.sublist_append_right _ _)) ⟨hv2, rfl⟩
end Go.Proofs.Ytjelakmndcecoaa
