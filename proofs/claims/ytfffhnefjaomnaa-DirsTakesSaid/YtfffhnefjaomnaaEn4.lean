/- The walks of the comparisons of rows of entries. Conditions: the lists are not too long. -/
import Derived.Test.YtfffhnefjaomnaaEn3
namespace Go.Proofs.Ytfffhnefjaomnaa
open Go.RowKit
set_option linter.unusedVariables false
set_option linter.unusedSimpArgs false
def enq (a b : En) : Bool := (a.id == b.id) && (a.off == b.off) && (a.len == b.len) && (a.run == b.run)
def sameL : List En → List En → Bool
  | [], [] => true
  | a :: r, b :: s => enq a b && sameL r s
  | _, _ => false
theorem enq_iff {a b : En} : enq a b = true ↔ a = b := by
  obtain ⟨a1, a2, a3, a4⟩ := a
  obtain ⟨b1, b2, b3, b4⟩ := b
  simp [enq, and_assoc]
theorem sameL_iff : ∀ {L M : List En}, sameL L M = true ↔ L = M
  | [], [] => by simp [sameL]
  | a :: r, b :: s => by simp [sameL, enq_iff, sameL_iff (L := r) (M := s)]
  | [], b :: s => by simp [sameL]
  | a :: r, [] => by simp [sameL]
theorem sameL_len : ∀ {L M : List En}, sameL L M = true → L.length = M.length := fun h => by rw [sameL_iff.1 h]
theorem en_eq (a b : En) : EqV Try.prog 10000 51 a.val b.val (enq a b) := by
  have h : EqV Try.prog 10000 51 a.val b.val _ := EqV.struct Try.underlying51 (by kernel_rfl) (.cons rfl tyA48 tyS48 rfl rfl (EqV.int Try.underlying48) (.cons rfl tyA48 tyS48 rfl rfl (EqV.int Try.underlying48) (.cons rfl tyA49 tyS49 rfl rfl (EqV.int Try.underlying49) (.cons rfl tyA49 tyS49 rfl rfl (EqV.int Try.underlying49) .nil))))
  have e : enq a b = ((((a.id : Int) == (b.id : Int)) && (((a.off : Int) == (b.off : Int)) && (((a.len : Int) == (b.len : Int)) && (((a.run : Int) == (b.run : Int)) && true))))) := by
    rw [Bool.eq_iff_iff]
    simp [enq, and_assoc]
    omega
  rw [e]
  exact h
theorem guard_en : Program.eqGuardType Try.prog Try.prog.depth 51 = false := by kernel_rfl
theorem en_eqR (a b : En) : EqV Try.prog 10000 61 a.val b.val (enq a b) := by
  have h : EqV Try.prog 10000 61 a.val b.val _ := EqV.struct Try.underlying61 (by kernel_rfl) (.cons rfl tyA48 tyS48 rfl rfl (EqV.int Try.underlying48) (.cons rfl tyA48 tyS48 rfl rfl (EqV.int Try.underlying48) (.cons rfl tyA49 tyS49 rfl rfl (EqV.int Try.underlying49) (.cons rfl tyA49 tyS49 rfl rfl (EqV.int Try.underlying49) .nil))))
  have e : enq a b = ((((a.id : Int) == (b.id : Int)) && (((a.off : Int) == (b.off : Int)) && (((a.len : Int) == (b.len : Int)) && (((a.run : Int) == (b.run : Int)) && true))))) := by
    rw [Bool.eq_iff_iff]
    simp [enq, and_assoc]
    omega
  rw [e]
  exact h
theorem guard_enR : Program.eqGuardType Try.prog Try.prog.depth 61 = false := by kernel_rfl
theorem equal_fn (A : Option Addr) (c : Nat) (L : List En) (T : Heap) (hA : ArgOk A L.length) (hT : 0 < L.length → T = roE A (ecells L)) (hL : L.length ≤ maxLen)
    (B : Option Addr) (d : Nat) (M : List En) (U : Heap) (hB : ArgOk B M.length) (hU : 0 < M.length → U = roE B (ecells M)) (hM : M.length ≤ maxLen) :
    Fn Try.prog 32 [.slice A L.length c, .slice B M.length d] (T ++ U) fun v _ => v = .bool (sameL L M) := by
  have hL' : L.length ≤ 9223372036854775807 := hL
  have hM' : M.length ≤ 9223372036854775807 := hM
  refine Fn.enter (N := 26) Try.func32 rfl (by kernel_rfl) rfl (fun w0 => ?_)

  refine awp_seq_region (fun Z hZ => ?_)
  refine sx_assign rfl rfl ?_
  refine sx_nil (hZ _ _ ?_)
  refine awp_forget [(0, _), (1, _)] (Kn.cons rfl (Kn.cons rfl (Kn.nil))) ?_
  refine awp_seq ?_
  refine awp_seq_region (fun Z hZ => ?_)
  refine sx_move rfl rfl ?_
  first | refine sx_len Try.underlying27 rfl rfl ?_ | refine sx_lenS Try.underlying27 rfl rfl ?_
  refine sx_move rfl rfl ?_
  first | refine sx_len Try.underlying27 rfl rfl ?_ | refine sx_lenS Try.underlying27 rfl rfl ?_
  first | refine sx_neq rfl rfl rfl ?_ | refine sx_sneq rfl rfl rfl ?_
  refine sx_nil (hZ _ _ ?_)
  refine awp_forget [(0, _), (1, _), (10, _)] (Kn.cons rfl (Kn.cons rfl (Kn.cons rfl (Kn.nil)))) ?_
  first | refine awp_cond rfl (fun ha => ?_) (fun ha => ?_) | refine awp_seq (awp_cond rfl (fun ha => ?_) (fun ha => ?_))
  · have hne : L.length ≠ M.length := by simp at ha; omega
    rw [show sameL L M = false by cases hs : sameL L M with | false => rfl | true => exact absurd (sameL_len hs) hne]
    refine awp_seq_region (fun Z hZ => ?_)
    refine sx_assign rfl rfl ?_
    refine sx_nil (hZ _ _ ?_)
    refine awp_forget [(4, _)] (Kn.cons rfl (Kn.nil)) ?_
    refine awp_ret ?_
    repeat (with_reducible (first | refine nx_then_ret ?_ | refine nx_block_ret ?_ | refine nx_scope_ret ?_))
    exact nx_ret1 rfl rfl rfl
  have hlm : L.length = M.length := by simp at ha; omega
  refine awp_skip ?_
  repeat (with_reducible (first | refine nx_block_normal ?_ | refine nx_scope_normal ?_))
  with_reducible first | refine nx_normal ?_ | refine nx_normalM ?_
  refine awp_seq ?_
  refine awp_seq_region (fun Z hZ => ?_)
  refine sx_move rfl rfl ?_
  first | refine sx_len Try.underlying27 rfl rfl ?_ | refine sx_lenS Try.underlying27 rfl rfl ?_
  refine sx_move rfl rfl ?_
  refine sx_nil (hZ _ _ ?_)
  refine awp_forget [(0, _), (1, _), (12, _), (13, _)] (Kn.cons rfl (Kn.cons rfl (Kn.cons rfl (Kn.cons rfl (Kn.nil))))) ?_
  refine awp_block ?_
  refine awp_loop (ι := Nat) (fun k => [(0, .slice A L.length c), (1, .slice B M.length d), (12, iq (L.length : Nat)), (13, iq (k : Nat))]) (fun _ => T ++ U)
    (fun k => k ≤ L.length ∧ sameL (L.drop k) (M.drop k) = sameL L M) (fun k => L.length - k) 0 ⟨by simp, rfl⟩ (Kn.cons rfl (Kn.cons rfl (Kn.cons rfl (Kn.cons rfl Kn.nil)))) (HLe.refl _) ?_
  rintro k ⟨hk, hq⟩
  refine awp_seq_region (fun Z hZ => ?_)
  first | refine sx_lss rfl rfl rfl ?_ | refine sx_slss rfl rfl rfl ?_
  refine sx_nil (hZ _ _ ?_)
  refine awp_forget [(0, _), (1, _), (12, _), (13, _), (14, _)] (Kn.cons rfl (Kn.cons rfl (Kn.cons rfl (Kn.cons rfl (Kn.cons rfl (Kn.nil)))))) ?_
  first | refine awp_cond rfl (fun h => ?_) (fun h => ?_) | refine awp_seq (awp_cond rfl (fun h => ?_) (fun h => ?_))
  · have hlt : k < L.length := by simpa using h
    obtain ⟨x, hx⟩ : ∃ x, L[k]? = some x := ⟨_, List.getElem?_eq_getElem hlt⟩
    obtain ⟨y, hy⟩ : ∃ y, M[k]? = some y := ⟨_, List.getElem?_eq_getElem (by omega)⟩
    have hxe : L[k] = x := Option.some.inj ((List.getElem?_eq_getElem hlt).symm.trans hx)
    have hye : M[k]'(by omega) = y := Option.some.inj ((List.getElem?_eq_getElem (by omega)).symm.trans hy)
    rw [List.drop_eq_getElem_cons hlt, List.drop_eq_getElem_cons (show k < M.length by omega), hxe, hye, sameL] at hq
    obtain ⟨g, o, rfl⟩ := hA (by omega)
    obtain ⟨g', o', rfl⟩ := hB (by omega)
    obtain rfl := hT (by omega)
    obtain rfl := hU (by omega)
    refine awp_skip ?_
    repeat (with_reducible (first | refine nx_block_normal ?_ | refine nx_scope_normal ?_))
    with_reducible first | refine nx_normal ?_ | refine nx_normalM ?_
    refine awp_seq (awp_block ?_)

    refine awp_seq_region (fun Z hZ => ?_)
    refine sx_move rfl rfl ?_
    refine sx_assign rfl rfl ?_
    refine sx_nil (hZ _ _ ?_)
    refine awp_forget [(0, _), (1, _), (5, _), (12, _), (13, _)] (Kn.cons rfl (Kn.cons rfl (Kn.cons rfl (Kn.cons rfl (Kn.cons rfl (Kn.nil)))))) ?_
    refine awq_seq_region mixed (by kernel_rfl) (fun Z hZ => ?_)
    refine sq_move rfl rfl ?_
    refine sq_move rfl rfl ?_
    refine sq_indexAddr (o + k * 4) Try.underlying27 tyS51 rfl rfl (by omega) (by simp) rfl ?_
    refine sq_loadRo 0 rfl rfl (k * 4) rfl tyA51 tyS51 (ecells_all hx) rfl ?_
    refine sq_move rfl rfl ?_
    refine sq_move rfl rfl ?_
    refine sq_indexAddr (o' + k * 4) Try.underlying27 tyS51 rfl rfl (by omega) (by simp) rfl ?_
    refine sq_loadRo 1 rfl rfl (k * 4) rfl tyA51 tyS51 (ecells_all hy) rfl ?_
    refine sq_aneq (en_eq x y) guard_en rfl rfl rfl ?_
    refine sq_nil (hZ _ _ ?_)
    refine awp_forget [(0, _), (1, _), (12, _), (13, _), (24, _)] (Kn.cons rfl (Kn.cons rfl (Kn.cons rfl (Kn.cons rfl (Kn.cons rfl (Kn.nil)))))) ?_
    first | refine awp_cond rfl (fun hb => ?_) (fun hb => ?_) | refine awp_seq (awp_cond rfl (fun hb => ?_) (fun hb => ?_))
    · have hb' : enq x y = false := by simpa using hb
      rw [hb'] at hq
      rw [← hq]
      refine awp_seq_region (fun Z hZ => ?_)
      refine sx_assign rfl rfl ?_
      refine sx_nil (hZ _ _ ?_)
      refine awp_forget [(4, _)] (Kn.cons rfl (Kn.nil)) ?_
      refine awp_ret ?_
      repeat (with_reducible (first | refine nx_then_ret ?_ | refine nx_block_ret ?_ | refine nx_scope_ret ?_))
      exact nx_ret1 rfl rfl rfl
    have hb' : enq x y = true := by simpa using hb
    rw [hb', Bool.true_and] at hq
    refine awp_skip ?_
    repeat (with_reducible (first | refine nx_block_normal ?_ | refine nx_scope_normal ?_))
    with_reducible first | refine nx_normal ?_ | refine nx_normalM ?_
    refine awp_region (fun Z hZ => ?_)
    refine sx_add rfl rfl ((k + 1 : Nat) : Int) (by rw [IntWalk.i64_in _ (by omega)]; omega) rfl ?_
    refine sx_move rfl rfl ?_
    refine sx_nil (hZ _ _ ?_)
    refine nx_forget [(0, _), (1, _), (12, _), (13, _)] (Kn.cons rfl (Kn.cons rfl (Kn.cons rfl (Kn.cons rfl (Kn.nil))))) ?_
    exact nx_round (k + 1) ⟨by omega, hq⟩ (by omega) (Kn.cons rfl (Kn.cons rfl (Kn.cons rfl (Kn.cons rfl Kn.nil)))) (HLe.refl _)
  · refine awp_exit ?_
    repeat (with_reducible (first | refine nx_then_exit ?_ | refine nx_block_other (by decide) ?_ | refine nx_scope_exit ?_))
    with_reducible refine nx_block_exit ?_
    repeat (with_reducible (first | refine nx_block_normal ?_ | refine nx_scope_normal ?_))
    with_reducible first | refine nx_normal ?_ | refine nx_normalM ?_
    have hke : k = L.length := by simp at h; omega
    subst hke
    rw [List.drop_length, List.drop_of_length_le (by omega), sameL] at hq
    rw [← hq]
    refine awp_seq_region (fun Z hZ => ?_)
    refine sx_assign rfl rfl ?_
    refine sx_nil (hZ _ _ ?_)
    refine awp_forget [(4, _)] (Kn.cons rfl (Kn.nil)) ?_
    refine awp_ret ?_
    repeat (with_reducible (first | refine nx_then_ret ?_ | refine nx_block_ret ?_ | refine nx_scope_ret ?_))
    exact nx_ret1 rfl rfl rfl
theorem esame_fn (A : Option Addr) (c : Nat) (L : List En) (T : Heap) (hA : ArgOk A L.length) (hT : 0 < L.length → T = roE A (ecells L)) (hroT : Ro T) (hL : L.length ≤ maxLen)
    (B : Option Addr) (d : Nat) (M : List En) (U : Heap) (hB : ArgOk B M.length) (hU : 0 < M.length → U = roE B (ecells M)) (hroU : Ro U) (hM : M.length ≤ maxLen) :
    Fn Try.prog 18 [.slice A L.length c, .slice B M.length d] (T ++ U) fun v _ => v = .bool (sameL L M) := by
  refine Fn.enter (N := 8) Try.func18 rfl (by kernel_rfl) rfl (fun w0 => ?_)

  refine awp_seq_region (fun Z hZ => ?_)
  refine sx_assign rfl rfl ?_
  refine sx_nil (hZ _ _ ?_)
  refine awp_forget [(0, _), (1, _)] (Kn.cons rfl (Kn.cons rfl (Kn.nil))) ?_
  refine awp_seq_region (fun Z hZ => ?_)
  refine sx_move rfl rfl ?_
  refine sx_move rfl rfl ?_
  refine sx_callPT (T ++ U) (equal_fn A c L T hA hT hL B d M U hB hU hM) rfl (List.Sublist.refl _) (hroT.append hroU) rfl ?_
  refine sx_assign rfl rfl ?_
  refine sx_nil (hZ _ _ ?_)
  refine awp_forget [(4, _)] (Kn.cons rfl (Kn.nil)) ?_
  refine awp_ret ?_
  repeat (with_reducible (first | refine nx_then_ret ?_ | refine nx_block_ret ?_ | refine nx_scope_ret ?_))
  exact nx_ret1 rfl rfl rfl
theorem rsame_fn (A : Option Addr) (c : Nat) (L : List En) (T : Heap) (hA : ArgOk A L.length) (hT : 0 < L.length → T = roE A (ecells L)) (hL : L.length ≤ maxLen)
    (B : Option Addr) (d : Nat) (M : List En) (U : Heap) (hB : ArgOk B M.length) (hU : 0 < M.length → U = roE B (ecells M)) (hM : M.length ≤ maxLen) :
    Fn Try.prog 16 [.slice A L.length c, .slice B M.length d] (T ++ U) fun v _ => v = .bool (sameL L M) := by
  have hL' : L.length ≤ 9223372036854775807 := hL
  have hM' : M.length ≤ 9223372036854775807 := hM
  refine Fn.enter (N := 26) Try.func16 rfl (by kernel_rfl) rfl (fun w0 => ?_)

  refine awp_seq_region (fun Z hZ => ?_)
  refine sx_assign rfl rfl ?_
  refine sx_nil (hZ _ _ ?_)
  refine awp_forget [(0, _), (1, _)] (Kn.cons rfl (Kn.cons rfl (Kn.nil))) ?_
  refine awp_seq ?_
  refine awp_seq_region (fun Z hZ => ?_)
  refine sx_move rfl rfl ?_
  first | refine sx_len Try.underlying22 rfl rfl ?_ | refine sx_lenS Try.underlying22 rfl rfl ?_
  refine sx_move rfl rfl ?_
  first | refine sx_len Try.underlying22 rfl rfl ?_ | refine sx_lenS Try.underlying22 rfl rfl ?_
  first | refine sx_neq rfl rfl rfl ?_ | refine sx_sneq rfl rfl rfl ?_
  refine sx_nil (hZ _ _ ?_)
  refine awp_forget [(0, _), (1, _), (10, _)] (Kn.cons rfl (Kn.cons rfl (Kn.cons rfl (Kn.nil)))) ?_
  first | refine awp_cond rfl (fun ha => ?_) (fun ha => ?_) | refine awp_seq (awp_cond rfl (fun ha => ?_) (fun ha => ?_))
  · have hne : L.length ≠ M.length := by simp at ha; omega
    rw [show sameL L M = false by cases hs : sameL L M with | false => rfl | true => exact absurd (sameL_len hs) hne]
    refine awp_seq_region (fun Z hZ => ?_)
    refine sx_assign rfl rfl ?_
    refine sx_nil (hZ _ _ ?_)
    refine awp_forget [(4, _)] (Kn.cons rfl (Kn.nil)) ?_
    refine awp_ret ?_
    repeat (with_reducible (first | refine nx_then_ret ?_ | refine nx_block_ret ?_ | refine nx_scope_ret ?_))
    exact nx_ret1 rfl rfl rfl
  have hlm : L.length = M.length := by simp at ha; omega
  refine awp_skip ?_
  repeat (with_reducible (first | refine nx_block_normal ?_ | refine nx_scope_normal ?_))
  with_reducible first | refine nx_normal ?_ | refine nx_normalM ?_
  refine awp_seq ?_
  refine awp_seq_region (fun Z hZ => ?_)
  refine sx_assign rfl rfl ?_
  refine sx_nil (hZ _ _ ?_)
  refine awp_forget [(0, _), (1, _), (5, _)] (Kn.cons rfl (Kn.cons rfl (Kn.cons rfl (Kn.nil)))) ?_
  refine awp_block ?_
  refine awp_loop (ι := Nat) (fun k => [(0, .slice A L.length c), (1, .slice B M.length d), (5, iq (k : Nat))]) (fun _ => T ++ U)
    (fun k => k ≤ L.length ∧ sameL (L.drop k) (M.drop k) = sameL L M) (fun k => L.length - k) 0 ⟨by simp, rfl⟩ (Kn.cons rfl (Kn.cons rfl (Kn.cons rfl Kn.nil))) (HLe.refl _) ?_
  rintro k ⟨hk, hq⟩
  refine awp_seq ?_
  refine awp_seq_region (fun Z hZ => ?_)
  refine sx_move rfl rfl ?_
  refine sx_move rfl rfl ?_
  first | refine sx_len Try.underlying22 rfl rfl ?_ | refine sx_lenS Try.underlying22 rfl rfl ?_
  first | refine sx_lss rfl rfl rfl ?_ | refine sx_slss rfl rfl rfl ?_
  refine sx_nil (hZ _ _ ?_)
  refine awp_forget [(0, _), (1, _), (5, _), (14, _)] (Kn.cons rfl (Kn.cons rfl (Kn.cons rfl (Kn.cons rfl (Kn.nil))))) ?_
  first | refine awp_cond rfl (fun h => ?_) (fun h => ?_) | refine awp_seq (awp_cond rfl (fun h => ?_) (fun h => ?_))
  · have hlt : k < L.length := by simpa using h
    obtain ⟨x, hx⟩ : ∃ x, L[k]? = some x := ⟨_, List.getElem?_eq_getElem hlt⟩
    obtain ⟨y, hy⟩ : ∃ y, M[k]? = some y := ⟨_, List.getElem?_eq_getElem (by omega)⟩
    have hxe : L[k] = x := Option.some.inj ((List.getElem?_eq_getElem hlt).symm.trans hx)
    have hye : M[k]'(by omega) = y := Option.some.inj ((List.getElem?_eq_getElem (by omega)).symm.trans hy)
    rw [List.drop_eq_getElem_cons hlt, List.drop_eq_getElem_cons (show k < M.length by omega), hxe, hye, sameL] at hq
    obtain ⟨g, o, rfl⟩ := hA (by omega)
    obtain ⟨g', o', rfl⟩ := hB (by omega)
    obtain rfl := hT (by omega)
    obtain rfl := hU (by omega)
    refine awp_skip ?_
    repeat (with_reducible (first | refine nx_block_normal ?_ | refine nx_scope_normal ?_))
    with_reducible first | refine nx_normal ?_ | refine nx_normalM ?_
    refine awp_seq (awp_block ?_)

    refine awq_seq_region mixed (by kernel_rfl) (fun Z hZ => ?_)
    refine sq_move rfl rfl ?_
    refine sq_move rfl rfl ?_
    refine sq_indexAddr (o + k * 4) Try.underlying22 tyS61 rfl rfl (by omega) (by simp) rfl ?_
    refine sq_loadRo 0 rfl rfl (k * 4) rfl tyA61 tyS61 (ecells_all hx) rfl ?_
    refine sq_move rfl rfl ?_
    refine sq_move rfl rfl ?_
    refine sq_indexAddr (o' + k * 4) Try.underlying22 tyS61 rfl rfl (by omega) (by simp) rfl ?_
    refine sq_loadRo 1 rfl rfl (k * 4) rfl tyA61 tyS61 (ecells_all hy) rfl ?_
    refine sq_aneq (en_eqR x y) guard_enR rfl rfl rfl ?_
    refine sq_nil (hZ _ _ ?_)
    refine awp_forget [(0, _), (1, _), (5, _), (25, _)] (Kn.cons rfl (Kn.cons rfl (Kn.cons rfl (Kn.cons rfl (Kn.nil))))) ?_
    first | refine awp_cond rfl (fun hb => ?_) (fun hb => ?_) | refine awp_seq (awp_cond rfl (fun hb => ?_) (fun hb => ?_))
    · have hb' : enq x y = false := by simpa using hb
      rw [hb'] at hq
      rw [← hq]
      refine awp_seq_region (fun Z hZ => ?_)
      refine sx_assign rfl rfl ?_
      refine sx_nil (hZ _ _ ?_)
      refine awp_forget [(4, _)] (Kn.cons rfl (Kn.nil)) ?_
      refine awp_ret ?_
      repeat (with_reducible (first | refine nx_then_ret ?_ | refine nx_block_ret ?_ | refine nx_scope_ret ?_))
      exact nx_ret1 rfl rfl rfl
    have hb' : enq x y = true := by simpa using hb
    rw [hb', Bool.true_and] at hq
    refine awp_skip ?_
    repeat (with_reducible (first | refine nx_block_normal ?_ | refine nx_scope_normal ?_))
    with_reducible first | refine nx_normal ?_ | refine nx_normalM ?_
    refine awp_region (fun Z hZ => ?_)
    refine sx_move rfl rfl ?_
    refine sx_add rfl rfl ((k + 1 : Nat) : Int) (by rw [IntWalk.i64_in _ (by omega)]; omega) rfl ?_
    refine sx_assign rfl rfl ?_
    refine sx_nil (hZ _ _ ?_)
    refine nx_forget [(0, _), (1, _), (5, _)] (Kn.cons rfl (Kn.cons rfl (Kn.cons rfl (Kn.nil)))) ?_
    exact nx_round (k + 1) ⟨by omega, hq⟩ (by omega) (Kn.cons rfl (Kn.cons rfl (Kn.cons rfl Kn.nil))) (HLe.refl _)
  · refine awp_exit ?_
    repeat (with_reducible (first | refine nx_then_exit ?_ | refine nx_block_other (by decide) ?_ | refine nx_scope_exit ?_))
    with_reducible refine nx_block_exit ?_
    repeat (with_reducible (first | refine nx_block_normal ?_ | refine nx_scope_normal ?_))
    with_reducible first | refine nx_normal ?_ | refine nx_normalM ?_
    have hke : k = L.length := by simp at h; omega
    subst hke
    rw [List.drop_length, List.drop_of_length_le (by omega), sameL] at hq
    rw [← hq]
    refine awp_seq_region (fun Z hZ => ?_)
    refine sx_assign rfl rfl ?_
    refine sx_nil (hZ _ _ ?_)
    refine awp_forget [(4, _)] (Kn.cons rfl (Kn.nil)) ?_
    refine awp_ret ?_
    repeat (with_reducible (first | refine nx_then_ret ?_ | refine nx_block_ret ?_ | refine nx_scope_ret ?_))
    exact nx_ret1 rfl rfl rfl
end Go.Proofs.Ytfffhnefjaomnaa
