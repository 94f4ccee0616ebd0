/- The walks of package leaves: pointers among entries, copies of rows. Conditions: the lists are not too long. -/
import Derived.Test.YtodclhiggafkbaaGdr3
import Derived.Test.YtodclhiggafkbaaSxZ
namespace Go.Proofs.Ytodclhiggafkbaa
open Go.RowKit
set_option linter.unusedVariables false
set_option linter.unusedSimpArgs false
def isPtr (e : En) : Bool := decide (e.run = 0)
def hasPtr (L : List En) : Bool := L.any isPtr
theorem pointer_fn (e : En) (h : e.ok) : Fn Try.prog 25 [e.val] [] fun v _ => v = .bool (isPtr e) := by
  refine Fn.enter (N := 6) Try.func25 rfl (by kernel_rfl) rfl (fun w0 => ?_)

  refine awp_seq_region (fun Z hZ => ?_)
  refine sx_box rfl rfl rfl (fun g1 => ?_)
  refine sx_assign rfl rfl ?_
  refine sx_nil (hZ _ _ ?_)
  refine awp_forget [(1, _)] (Kn.cons rfl (Kn.nil)) ?_
  refine awp_seq_region (fun Z hZ => ?_)
  refine sx_fieldAddr rfl tyF52_3 (by first | (simp only [Nat.reduceAdd, Nat.add_zero, Nat.zero_add]; first | done | rfl) | rfl) rfl ?_
  first | refine sx_load 0 rfl rfl tyA50 tyS50 rfl rfl ?_
  first | refine sx_eql rfl rfl rfl ?_ | refine sx_seql rfl rfl rfl ?_
  refine sx_assign rfl rfl ?_
  refine sx_nil (hZ _ _ ?_)
  refine awp_forget [(2, _)] (Kn.cons rfl (Kn.nil)) ?_
  refine awp_ret ?_
  repeat (with_reducible (first | refine nx_then_ret ?_ | refine nx_block_ret ?_ | refine nx_scope_ret ?_))
  exact nx_ret1 rfl rfl (congrArg Value.bool (by rw [Bool.eq_iff_iff]; simp [isPtr]))
theorem index_fn (A : Option Addr) (c : Nat) (L : List En) (T : Heap) (hA : ArgOk A L.length) (hT : 0 < L.length → T = roE A (ecells L)) (hL : L.length ≤ maxLen) (hE : EnsOk L) :
    Fn Try.prog 46 [.slice A L.length c, .func (.func 25) #[] #[]] T fun v _ => ∃ i : Int, v = iq i ∧ (0 ≤ i ↔ hasPtr L = true) := by
  have hL' : L.length ≤ 9223372036854775807 := hL
  refine Fn.enter (N := 19) Try.func46 rfl (by kernel_rfl) rfl (fun w0 => ?_)

  refine awp_seq_region (fun Z hZ => ?_)
  refine sx_assign rfl rfl ?_
  refine sx_nil (hZ _ _ ?_)
  refine awp_forget [(0, _), (1, _)] (Kn.cons rfl (Kn.cons rfl (Kn.nil))) ?_
  refine awp_seq ?_
  refine awp_seq_region (fun Z hZ => ?_)
  refine sx_move rfl rfl ?_
  first | refine sx_len Try.underlying24 rfl rfl ?_ | refine sx_lenS Try.underlying24 rfl rfl ?_
  refine sx_move rfl rfl ?_
  refine sx_nil (hZ _ _ ?_)
  refine awp_forget [(0, _), (1, _), (7, _), (8, _)] (Kn.cons rfl (Kn.cons rfl (Kn.cons rfl (Kn.cons rfl (Kn.nil))))) ?_
  refine awp_block ?_
  refine awp_loop (ι := Nat) (fun k => [(0, .slice A L.length c), (1, .func (.func 25) #[] #[]), (7, iq (L.length : Nat)), (8, iq (k : Nat))]) (fun _ => T)
    (fun k => k ≤ L.length ∧ hasPtr (L.drop k) = hasPtr L) (fun k => L.length - k) 0 ⟨by simp, rfl⟩ (Kn.cons rfl (Kn.cons rfl (Kn.cons rfl (Kn.cons rfl Kn.nil)))) (HLe.refl _) ?_
  rintro k ⟨hk, hq⟩
  refine awp_seq_region (fun Z hZ => ?_)
  first | refine sx_lss rfl rfl rfl ?_ | refine sx_slss rfl rfl rfl ?_
  refine sx_nil (hZ _ _ ?_)
  refine awp_forget [(0, _), (1, _), (7, _), (8, _), (9, _)] (Kn.cons rfl (Kn.cons rfl (Kn.cons rfl (Kn.cons rfl (Kn.cons rfl (Kn.nil)))))) ?_
  first | refine awp_cond rfl (fun h => ?_) (fun h => ?_) | refine awp_seq (awp_cond rfl (fun h => ?_) (fun h => ?_))
  · have hlt : k < L.length := by simpa using h
    obtain ⟨x, hx⟩ : ∃ x, L[k]? = some x := ⟨_, List.getElem?_eq_getElem hlt⟩
    have hxe : L[k] = x := Option.some.inj ((List.getElem?_eq_getElem hlt).symm.trans hx)
    have hok : x.ok := hE x (List.mem_of_getElem? hx)
    rw [List.drop_eq_getElem_cons hlt, hxe, hasPtr, List.any_cons] at hq
    obtain ⟨g, o, rfl⟩ := hA (by omega)
    obtain rfl := hT (by omega)
    refine awp_skip ?_
    repeat (with_reducible (first | refine nx_block_normal ?_ | refine nx_scope_normal ?_))
    with_reducible first | refine nx_normal ?_ | refine nx_normalM ?_
    refine awp_seq (awp_block ?_)

    refine awp_seq_region (fun Z hZ => ?_)
    refine sx_move rfl rfl ?_
    refine sx_assign rfl rfl ?_
    refine sx_nil (hZ _ _ ?_)
    refine awp_forget [(0, _), (1, _), (5, _), (7, _), (8, _)] (Kn.cons rfl (Kn.cons rfl (Kn.cons rfl (Kn.cons rfl (Kn.cons rfl (Kn.nil)))))) ?_
    refine awp_seq_region (fun Z hZ => ?_)
    refine sx_move rfl rfl ?_
    refine sx_move rfl rfl ?_
    refine sx_move rfl rfl ?_
    refine sx_indexAddr (o + k * 4) Try.underlying24 tyS52 rfl rfl (by omega) (by simp) rfl ?_
    refine sx_loadRo 0 rfl rfl (k * 4) rfl tyA52 tyS52 (ecells_all hx) rfl ?_
    refine sx_callFV (caps := []) (vs := [x.val]) [] (pointer_fn x hok) rfl rfl (HLe.sub (List.nil_sublist _)) Ro.nil rfl ?_
    refine sx_nil (hZ _ _ ?_)
    refine awp_forget [(0, _), (1, _), (5, _), (7, _), (8, _), (16, _)] (Kn.cons rfl (Kn.cons rfl (Kn.cons rfl (Kn.cons rfl (Kn.cons rfl (Kn.cons rfl (Kn.nil))))))) ?_
    first | refine awp_cond rfl (fun hb => ?_) (fun hb => ?_) | refine awp_seq (awp_cond rfl (fun hb => ?_) (fun hb => ?_))
    · have hb' : isPtr x = true := hb
      rw [hb', Bool.true_or] at hq
      refine awp_seq_region (fun Z hZ => ?_)
      refine sx_move rfl rfl ?_
      refine sx_assign rfl rfl ?_
      refine sx_nil (hZ _ _ ?_)
      refine awp_forget [(4, _)] (Kn.cons rfl (Kn.nil)) ?_
      refine awp_ret ?_
      repeat (with_reducible (first | refine nx_then_ret ?_ | refine nx_block_ret ?_ | refine nx_scope_ret ?_))
      exact nx_ret1 rfl rfl ⟨(k : Int), rfl, fun _ => hq.symm, fun _ => by omega⟩
    have hb' : isPtr x = false := hb
    rw [hb', Bool.false_or] at hq
    refine awp_skip ?_
    repeat (with_reducible (first | refine nx_block_normal ?_ | refine nx_scope_normal ?_))
    with_reducible first | refine nx_normal ?_ | refine nx_normalM ?_
    refine awp_region (fun Z hZ => ?_)
    refine sx_add rfl rfl ((k + 1 : Nat) : Int) (by rw [IntWalk.i64_in _ (by omega)]; omega) rfl ?_
    refine sx_move rfl rfl ?_
    refine sx_nil (hZ _ _ ?_)
    refine nx_forget [(0, _), (1, _), (7, _), (8, _)] (Kn.cons rfl (Kn.cons rfl (Kn.cons rfl (Kn.cons rfl (Kn.nil))))) ?_
    exact nx_round (k + 1) ⟨by omega, hq⟩ (by omega) (Kn.cons rfl (Kn.cons rfl (Kn.cons rfl (Kn.cons rfl Kn.nil)))) (HLe.refl _)
  · refine awp_exit ?_
    repeat (with_reducible (first | refine nx_then_exit ?_ | refine nx_block_other (by decide) ?_ | refine nx_scope_exit ?_))
    with_reducible refine nx_block_exit ?_
    repeat (with_reducible (first | refine nx_block_normal ?_ | refine nx_scope_normal ?_))
    with_reducible first | refine nx_normal ?_ | refine nx_normalM ?_
    have hke : k = L.length := by simp at h; omega
    subst hke
    rw [List.drop_length] at hq
    refine awp_seq_region (fun Z hZ => ?_)
    refine sx_assign rfl rfl ?_
    refine sx_nil (hZ _ _ ?_)
    refine awp_forget [(4, _)] (Kn.cons rfl (Kn.nil)) ?_
    refine awp_ret ?_
    repeat (with_reducible (first | refine nx_then_ret ?_ | refine nx_block_ret ?_ | refine nx_scope_ret ?_))
    exact nx_ret1 rfl rfl ⟨-1, rfl, fun h => by omega, fun h => by rw [← hq] at h; simp [hasPtr] at h⟩
theorem contains_fn (A : Option Addr) (c : Nat) (L : List En) (T : Heap) (hA : ArgOk A L.length) (hT : 0 < L.length → T = roE A (ecells L)) (hro : Ro T) (hL : L.length ≤ maxLen) (hE : EnsOk L) :
    Fn Try.prog 24 [.slice A L.length c, .func (.func 25) #[] #[]] T fun v _ => v = .bool (hasPtr L) := by
  refine Fn.enter (N := 9) Try.func24 rfl (by kernel_rfl) rfl (fun w0 => ?_)

  refine awp_seq_region (fun Z hZ => ?_)
  refine sx_assign rfl rfl ?_
  refine sx_nil (hZ _ _ ?_)
  refine awp_forget [(0, _), (1, _)] (Kn.cons rfl (Kn.cons rfl (Kn.nil))) ?_
  refine awp_seq_region (fun Z hZ => ?_)
  refine sx_move rfl rfl ?_
  refine sx_move rfl rfl ?_
  refine sx_callO T [] (index_fn A c L T hA hT hL hE) rfl (by rw [List.append_nil]; exact HLe.refl _) rfl ?_
  rintro v H' ⟨i, rfl, hi⟩
  refine sx_heap [] (HLe.sub (List.nil_sublist _)) ?_
  first | refine sx_geq rfl rfl rfl ?_ | refine sx_sgeq rfl rfl rfl ?_
  refine sx_assign rfl rfl ?_
  refine sx_nil (hZ _ _ ?_)
  refine awp_forget [(4, _)] (Kn.cons rfl (Kn.nil)) ?_
  refine awp_ret ?_
  repeat (with_reducible (first | refine nx_then_ret ?_ | refine nx_block_ret ?_ | refine nx_scope_ret ?_))
  exact nx_ret1 rfl rfl (congrArg Value.bool (by rw [Bool.eq_iff_iff, ← hi]; simp))
theorem clone_fn (A : Option Addr) (c : Nat) (L : List En) (T : Heap) (hA : ArgOk A L.length) (hT : 0 < L.length → T = roE A (ecells L)) (hnil : A = none → L.length = 0) (hro : Ro T) (hL : L.length ≤ 100000) :
    Fn Try.prog 27 [.slice A L.length c] T fun v H' => RowOk v L.length ∧ H' = rowE v 52 4 (ecells L) := by
  refine Fn.enter (N := 8) Try.func27 rfl (by kernel_rfl) rfl (fun w0 => ?_)

  refine awp_seq_region (fun Z hZ => ?_)
  refine sx_assign rfl rfl ?_
  refine sx_nil (hZ _ _ ?_)
  refine awp_forget [(0, _)] (Kn.cons rfl (Kn.nil)) ?_
  refine awp_seq ?_
  refine awp_seq_region (fun Z hZ => ?_)
  refine sx_move rfl rfl ?_
  refine sx_sliceEqNil Try.underlying24 rfl rfl ?_
  refine sx_nil (hZ _ _ ?_)
  refine awp_forget [(0, _), (4, _)] (Kn.cons rfl (Kn.cons rfl (Kn.nil))) ?_
  first | refine awp_cond rfl (fun h => ?_) (fun h => ?_) | refine awp_seq (awp_cond rfl (fun h => ?_) (fun h => ?_))
  · have h0 : A = none := by simpa using h
    have hl := hnil h0
    refine awp_seq_region (fun Z hZ => ?_)
    refine sx_assign rfl rfl ?_
    refine sx_nil (hZ _ _ ?_)
    refine awp_forget [(2, _)] (Kn.cons rfl (Kn.nil)) ?_
    refine awp_ret ?_
    repeat (with_reducible (first | refine nx_then_ret ?_ | refine nx_block_ret ?_ | refine nx_scope_ret ?_))
    have hLn : L = [] := List.length_eq_zero_iff.1 hl
    subst hLn
    exact nx_ret1h [] rfl rfl (HLe.sub (List.nil_sublist _)) ⟨RowOk.nil, rfl⟩
  refine awp_skip ?_
  repeat (with_reducible (first | refine nx_block_normal ?_ | refine nx_scope_normal ?_))
  with_reducible first | refine nx_normal ?_ | refine nx_normalM ?_
  refine awp_seq_region (fun Z hZ => ?_)
  refine sx_buildSlice0 Try.underlying24 tyS52 rfl (fun g => ?_)
  refine sx_heap (T ++ rowE (.slice (some ⟨g, 0, none⟩) 0 0) 52 4 []) ((HLe.swap _ _).trans (HLe.ownRow [] T rfl (Nat.zero_le _))) ?_
  refine sx_move rfl rfl ?_
  refine sx_appendE T elemEn rfl (RowOk.mk g 0 0) rfl rfl (fun w hw => rd_arg hA hT (ecells_len L) hnil (HLe.sub (List.sublist_append_left _ _)) hw) (ecells_one L) (by show _ ≤ 9223372036854775807; omega) (by omega) (HLe.refl _) rfl (fun v2 hv2 => ?_)
  rw [List.nil_append]
  rw [Nat.zero_add] at hv2
  refine sx_assign rfl rfl ?_
  refine sx_nil (hZ _ _ ?_)
  refine awp_forget [(2, _)] (Kn.cons rfl (Kn.nil)) ?_
  refine awp_ret ?_
  repeat (with_reducible (first | refine nx_then_ret ?_ | refine nx_block_ret ?_ | refine nx_scope_ret ?_))
  exact nx_ret1h _ rfl rfl (HLe.sub (List.sublist_append_right _ _)) ⟨hv2, rfl⟩
end Go.Proofs.Ytodclhiggafkbaa
