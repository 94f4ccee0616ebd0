/- The walks of chart.Same, and of the document's. Conditions: the lists are not too long. -/
import Derived.Test.YtahmhcmfeloclaaCh3
namespace Go.Proofs.Ytahmhcmfeloclaa
open Go.RowKit
set_option linter.unusedVariables false
set_option linter.unusedSimpArgs false
def itq (a b : It) : Bool := (a.id == b.id) && (a.tx == b.tx)
def sameI : List It → List It → Bool
  | [], [] => true
  | a :: r, b :: s => itq a b && sameI r s
  | _, _ => false
theorem itq_iff {a b : It} : itq a b = true ↔ a = b := by
  obtain ⟨a1, a2⟩ := a
  obtain ⟨b1, b2⟩ := b
  simp [itq]
theorem sameI_iff : ∀ {L M : List It}, sameI L M = true ↔ L = M
  | [], [] => by simp [sameI]
  | a :: r, b :: s => by simp [sameI, itq_iff, sameI_iff (L := r) (M := s)]
  | [], b :: s => by simp [sameI]
  | a :: r, [] => by simp [sameI]
theorem sameI_len : ∀ {L M : List It}, sameI L M = true → L.length = M.length := fun h => by rw [sameI_iff.1 h]
theorem it_eq (a b : It) : EqV Try.prog 10000 60 a.val b.val (itq a b) := by
  have h : EqV Try.prog 10000 60 a.val b.val _ := EqV.struct Try.underlying60 (by kernel_rfl) (.cons rfl tyA51 tyS51 rfl rfl (EqV.int Try.underlying51) (.cons rfl tyA9 tyS9 rfl rfl (EqV.string Try.underlying9) .nil))
  have e : itq a b = (((a.id : Int) == (b.id : Int)) && ((a.tx == b.tx) && true)) := by
    rw [Bool.eq_iff_iff]
    simp [itq]
    intro _
    omega
  rw [e]
  exact h
theorem guard_it : Program.eqGuardType Try.prog Try.prog.depth 60 = false := by kernel_rfl
theorem it_eqR (a b : It) : EqV Try.prog 10000 58 a.val b.val (itq a b) := by
  have h : EqV Try.prog 10000 58 a.val b.val _ := EqV.struct Try.underlying58 (by kernel_rfl) (.cons rfl tyA51 tyS51 rfl rfl (EqV.int Try.underlying51) (.cons rfl tyA9 tyS9 rfl rfl (EqV.string Try.underlying9) .nil))
  have e : itq a b = (((a.id : Int) == (b.id : Int)) && ((a.tx == b.tx) && true)) := by
    rw [Bool.eq_iff_iff]
    simp [itq]
    intro _
    omega
  rw [e]
  exact h
theorem guard_itR : Program.eqGuardType Try.prog Try.prog.depth 58 = false := by kernel_rfl
theorem iequal_fn (A : Option Addr) (c : Nat) (L : List It) (T : Heap) (hA : ArgOk A L.length) (hT : 0 < L.length → T = roE A (icells L)) (hL : L.length ≤ maxLen)
    (B : Option Addr) (d : Nat) (M : List It) (U : Heap) (hB : ArgOk B M.length) (hU : 0 < M.length → U = roE B (icells M)) (hM : M.length ≤ maxLen) :
    Fn Try.prog 34 [.slice A L.length c, .slice B M.length d] (T ++ U) fun v _ => v = .bool (sameI L M) := by
  have hL' : L.length ≤ 9223372036854775807 := hL
  have hM' : M.length ≤ 9223372036854775807 := hM
  refine Fn.enter (N := 26) Try.func34 rfl (by kernel_rfl) rfl (fun w0 => ?_)

  refine awp_seq_region (fun Z hZ => ?_)
  refine sx_assign rfl rfl ?_
  refine sx_nil (hZ _ _ ?_)
  refine awp_forget [(0, _), (1, _)] (Kn.cons rfl (Kn.cons rfl (Kn.nil))) ?_
  refine awp_seq ?_
  refine awp_seq_region (fun Z hZ => ?_)
  refine sx_move rfl rfl ?_
  first | refine sx_len Try.underlying27 rfl rfl ?_ | refine sx_lenS Try.underlying27 rfl rfl ?_
  refine sx_move rfl rfl ?_
  first | refine sx_len Try.underlying27 rfl rfl ?_ | refine sx_lenS Try.underlying27 rfl rfl ?_
  first | refine sx_neq rfl rfl rfl ?_ | refine sx_sneq rfl rfl rfl ?_
  refine sx_nil (hZ _ _ ?_)
  refine awp_forget [(0, _), (1, _), (10, _)] (Kn.cons rfl (Kn.cons rfl (Kn.cons rfl (Kn.nil)))) ?_
  first | refine awp_cond rfl (fun ha => ?_) (fun ha => ?_) | refine awp_seq (awp_cond rfl (fun ha => ?_) (fun ha => ?_))
  · have hne : L.length ≠ M.length := by simp at ha; omega
    rw [show sameI L M = false by cases hs : sameI L M with | false => rfl | true => exact absurd (sameI_len hs) hne]
    refine awp_seq_region (fun Z hZ => ?_)
    refine sx_assign rfl rfl ?_
    refine sx_nil (hZ _ _ ?_)
    refine awp_forget [(4, _)] (Kn.cons rfl (Kn.nil)) ?_
    refine awp_ret ?_
    repeat (with_reducible (first | refine nx_then_ret ?_ | refine nx_block_ret ?_ | refine nx_scope_ret ?_))
    exact nx_ret1 rfl rfl rfl
  have hlm : L.length = M.length := by simp at ha; omega
  refine awp_skip ?_
  repeat (with_reducible (first | refine nx_block_normal ?_ | refine nx_scope_normal ?_))
  with_reducible first | refine nx_normal ?_ | refine nx_normalM ?_
  refine awp_seq ?_
  refine awp_seq_region (fun Z hZ => ?_)
  refine sx_move rfl rfl ?_
  first | refine sx_len Try.underlying27 rfl rfl ?_ | refine sx_lenS Try.underlying27 rfl rfl ?_
  refine sx_move rfl rfl ?_
  refine sx_nil (hZ _ _ ?_)
  refine awp_forget [(0, _), (1, _), (12, _), (13, _)] (Kn.cons rfl (Kn.cons rfl (Kn.cons rfl (Kn.cons rfl (Kn.nil))))) ?_
  refine awp_block ?_
  refine awp_loop (ι := Nat) (fun k => [(0, .slice A L.length c), (1, .slice B M.length d), (12, iq (L.length : Nat)), (13, iq (k : Nat))]) (fun _ => T ++ U)
    (fun k => k ≤ L.length ∧ sameI (L.drop k) (M.drop k) = sameI L M) (fun k => L.length - k) 0 ⟨by simp, rfl⟩ (Kn.cons rfl (Kn.cons rfl (Kn.cons rfl (Kn.cons rfl Kn.nil)))) (HLe.refl _) ?_
  rintro k ⟨hk, hq⟩
  refine awp_seq_region (fun Z hZ => ?_)
  first | refine sx_lss rfl rfl rfl ?_ | refine sx_slss rfl rfl rfl ?_
  refine sx_nil (hZ _ _ ?_)
  refine awp_forget [(0, _), (1, _), (12, _), (13, _), (14, _)] (Kn.cons rfl (Kn.cons rfl (Kn.cons rfl (Kn.cons rfl (Kn.cons rfl (Kn.nil)))))) ?_
  first | refine awp_cond rfl (fun h => ?_) (fun h => ?_) | refine awp_seq (awp_cond rfl (fun h => ?_) (fun h => ?_))
  · have hlt : k < L.length := by simpa using h
    obtain ⟨x, hx⟩ : ∃ x, L[k]? = some x := ⟨_, List.getElem?_eq_getElem hlt⟩
    obtain ⟨y, hy⟩ : ∃ y, M[k]? = some y := ⟨_, List.getElem?_eq_getElem (by omega)⟩
    have hxe : L[k] = x := Option.some.inj ((List.getElem?_eq_getElem hlt).symm.trans hx)
    have hye : M[k]'(by omega) = y := Option.some.inj ((List.getElem?_eq_getElem (by omega)).symm.trans hy)
    rw [List.drop_eq_getElem_cons hlt, List.drop_eq_getElem_cons (show k < M.length by omega), hxe, hye, sameI] at hq
    obtain ⟨g, o, rfl⟩ := hA (by omega)
    obtain ⟨g', o', rfl⟩ := hB (by omega)
    obtain rfl := hT (by omega)
    obtain rfl := hU (by omega)
    refine awp_skip ?_
    repeat (with_reducible (first | refine nx_block_normal ?_ | refine nx_scope_normal ?_))
    with_reducible first | refine nx_normal ?_ | refine nx_normalM ?_
    refine awp_seq (awp_block ?_)

    refine awp_seq_region (fun Z hZ => ?_)
    refine sx_move rfl rfl ?_
    refine sx_assign rfl rfl ?_
    refine sx_nil (hZ _ _ ?_)
    refine awp_forget [(0, _), (1, _), (5, _), (12, _), (13, _)] (Kn.cons rfl (Kn.cons rfl (Kn.cons rfl (Kn.cons rfl (Kn.cons rfl (Kn.nil)))))) ?_
    refine awq_seq_region mixed (by kernel_rfl) (fun Z hZ => ?_)
    refine sq_move rfl rfl ?_
    refine sq_move rfl rfl ?_
    refine sq_indexAddr (o + k * 2) Try.underlying27 tyS60 rfl rfl (by omega) (by simp) rfl ?_
    refine sq_loadRo 0 rfl rfl (k * 2) rfl tyA60 tyS60 (icells_all hx) rfl ?_
    refine sq_move rfl rfl ?_
    refine sq_move rfl rfl ?_
    refine sq_indexAddr (o' + k * 2) Try.underlying27 tyS60 rfl rfl (by omega) (by simp) rfl ?_
    refine sq_loadRo 1 rfl rfl (k * 2) rfl tyA60 tyS60 (icells_all hy) rfl ?_
    refine sq_aneq (it_eq x y) guard_it rfl rfl rfl ?_
    refine sq_nil (hZ _ _ ?_)
    refine awp_forget [(0, _), (1, _), (12, _), (13, _), (24, _)] (Kn.cons rfl (Kn.cons rfl (Kn.cons rfl (Kn.cons rfl (Kn.cons rfl (Kn.nil)))))) ?_
    first | refine awp_cond rfl (fun hb => ?_) (fun hb => ?_) | refine awp_seq (awp_cond rfl (fun hb => ?_) (fun hb => ?_))
    · have hb' : itq x y = false := by simpa using hb
      rw [hb'] at hq
      rw [← hq]
      refine awp_seq_region (fun Z hZ => ?_)
      refine sx_assign rfl rfl ?_
      refine sx_nil (hZ _ _ ?_)
      refine awp_forget [(4, _)] (Kn.cons rfl (Kn.nil)) ?_
      refine awp_ret ?_
      repeat (with_reducible (first | refine nx_then_ret ?_ | refine nx_block_ret ?_ | refine nx_scope_ret ?_))
      exact nx_ret1 rfl rfl rfl
    have hb' : itq x y = true := by simpa using hb
    rw [hb', Bool.true_and] at hq
    refine awp_skip ?_
    repeat (with_reducible (first | refine nx_block_normal ?_ | refine nx_scope_normal ?_))
    with_reducible first | refine nx_normal ?_ | refine nx_normalM ?_
    refine awp_region (fun Z hZ => ?_)
    refine sx_add rfl rfl ((k + 1 : Nat) : Int) (by rw [IntWalk.i64_in _ (by omega)]; omega) rfl ?_
    refine sx_move rfl rfl ?_
    refine sx_nil (hZ _ _ ?_)
    refine nx_forget [(0, _), (1, _), (12, _), (13, _)] (Kn.cons rfl (Kn.cons rfl (Kn.cons rfl (Kn.cons rfl (Kn.nil))))) ?_
    exact nx_round (k + 1) ⟨by omega, hq⟩ (by omega) (Kn.cons rfl (Kn.cons rfl (Kn.cons rfl (Kn.cons rfl Kn.nil)))) (HLe.refl _)
  · refine awp_exit ?_
    repeat (with_reducible (first | refine nx_then_exit ?_ | refine nx_block_other (by decide) ?_ | refine nx_scope_exit ?_))
    with_reducible refine nx_block_exit ?_
    repeat (with_reducible (first | refine nx_block_normal ?_ | refine nx_scope_normal ?_))
    with_reducible first | refine nx_normal ?_ | refine nx_normalM ?_
    have hke : k = L.length := by simp at h; omega
    subst hke
    rw [List.drop_length, List.drop_of_length_le (by omega), sameI] at hq
    rw [← hq]
    refine awp_seq_region (fun Z hZ => ?_)
    refine sx_assign rfl rfl ?_
    refine sx_nil (hZ _ _ ?_)
    refine awp_forget [(4, _)] (Kn.cons rfl (Kn.nil)) ?_
    refine awp_ret ?_
    repeat (with_reducible (first | refine nx_then_ret ?_ | refine nx_block_ret ?_ | refine nx_scope_ret ?_))
    exact nx_ret1 rfl rfl rfl
theorem csame_fn (A : Option Addr) (c : Nat) (L : List It) (T : Heap) (hA : ArgOk A L.length) (hT : 0 < L.length → T = roE A (icells L)) (hroT : Ro T) (hL : L.length ≤ maxLen)
    (B : Option Addr) (d : Nat) (M : List It) (U : Heap) (hB : ArgOk B M.length) (hU : 0 < M.length → U = roE B (icells M)) (hroU : Ro U) (hM : M.length ≤ maxLen) :
    Fn Try.prog 23 [chV A L.length c, chV B M.length d] (T ++ U) fun v _ => v = .bool (sameI L M) := by
  refine Fn.enter (N := 10) Try.func23 rfl (by kernel_rfl) rfl (fun w0 => ?_)

  refine awp_seq_region (fun Z hZ => ?_)
  refine sx_box rfl rfl rfl (fun g1 => ?_)
  refine sx_box rfl rfl rfl (fun g2 => ?_)
  refine sx_assign rfl rfl ?_
  refine sx_nil (hZ _ _ ?_)
  refine awp_forget [(2, _), (3, _)] (Kn.cons rfl (Kn.cons rfl (Kn.nil))) ?_

  refine awp_seq_region (fun Z hZ => ?_)
  refine sx_fieldAddr rfl tyF29_0 (by first | (simp only [Nat.reduceAdd, Nat.add_zero, Nat.zero_add]; first | done | rfl) | rfl) rfl ?_
  first | refine sx_load 0 rfl rfl tyA27 tyS27 rfl rfl ?_ | refine sx_load 1 rfl rfl tyA27 tyS27 rfl rfl ?_
  refine sx_fieldAddr rfl tyF29_0 (by first | (simp only [Nat.reduceAdd, Nat.add_zero, Nat.zero_add]; first | done | rfl) | rfl) rfl ?_
  first | refine sx_load 0 rfl rfl tyA27 tyS27 rfl rfl ?_ | refine sx_load 1 rfl rfl tyA27 tyS27 rfl rfl ?_
  refine sx_callPT (T ++ U) (iequal_fn A c L T hA hT hL B d M U hB hU hM) rfl ((List.sublist_cons_self _ _).trans (List.sublist_cons_self _ _)) (hroT.append hroU) rfl ?_
  refine sx_assign rfl rfl ?_
  refine sx_nil (hZ _ _ ?_)
  refine awp_forget [(4, _)] (Kn.cons rfl (Kn.nil)) ?_
  refine awp_ret ?_
  repeat (with_reducible (first | refine nx_then_ret ?_ | refine nx_block_ret ?_ | refine nx_scope_ret ?_))
  exact nx_ret1 rfl rfl rfl
theorem risame_fn (A : Option Addr) (c : Nat) (L : List It) (T : Heap) (hA : ArgOk A L.length) (hT : 0 < L.length → T = roE A (icells L)) (hL : L.length ≤ maxLen)
    (B : Option Addr) (d : Nat) (M : List It) (U : Heap) (hB : ArgOk B M.length) (hU : 0 < M.length → U = roE B (icells M)) (hM : M.length ≤ maxLen) :
    Fn Try.prog 19 [.slice A L.length c, .slice B M.length d] (T ++ U) fun v _ => v = .bool (sameI L M) := by
  have hL' : L.length ≤ 9223372036854775807 := hL
  have hM' : M.length ≤ 9223372036854775807 := hM
  refine Fn.enter (N := 26) Try.func19 rfl (by kernel_rfl) rfl (fun w0 => ?_)

  refine awp_seq_region (fun Z hZ => ?_)
  refine sx_assign rfl rfl ?_
  refine sx_nil (hZ _ _ ?_)
  refine awp_forget [(0, _), (1, _)] (Kn.cons rfl (Kn.cons rfl (Kn.nil))) ?_
  refine awp_seq ?_
  refine awp_seq_region (fun Z hZ => ?_)
  refine sx_move rfl rfl ?_
  first | refine sx_len Try.underlying22 rfl rfl ?_ | refine sx_lenS Try.underlying22 rfl rfl ?_
  refine sx_move rfl rfl ?_
  first | refine sx_len Try.underlying22 rfl rfl ?_ | refine sx_lenS Try.underlying22 rfl rfl ?_
  first | refine sx_neq rfl rfl rfl ?_ | refine sx_sneq rfl rfl rfl ?_
  refine sx_nil (hZ _ _ ?_)
  refine awp_forget [(0, _), (1, _), (10, _)] (Kn.cons rfl (Kn.cons rfl (Kn.cons rfl (Kn.nil)))) ?_
  first | refine awp_cond rfl (fun ha => ?_) (fun ha => ?_) | refine awp_seq (awp_cond rfl (fun ha => ?_) (fun ha => ?_))
  · have hne : L.length ≠ M.length := by simp at ha; omega
    rw [show sameI L M = false by cases hs : sameI L M with | false => rfl | true => exact absurd (sameI_len hs) hne]
    refine awp_seq_region (fun Z hZ => ?_)
    refine sx_assign rfl rfl ?_
    refine sx_nil (hZ _ _ ?_)
    refine awp_forget [(4, _)] (Kn.cons rfl (Kn.nil)) ?_
    refine awp_ret ?_
    repeat (with_reducible (first | refine nx_then_ret ?_ | refine nx_block_ret ?_ | refine nx_scope_ret ?_))
    exact nx_ret1 rfl rfl rfl
  have hlm : L.length = M.length := by simp at ha; omega
  refine awp_skip ?_
  repeat (with_reducible (first | refine nx_block_normal ?_ | refine nx_scope_normal ?_))
  with_reducible first | refine nx_normal ?_ | refine nx_normalM ?_
  refine awp_seq ?_
  refine awp_seq_region (fun Z hZ => ?_)
  refine sx_assign rfl rfl ?_
  refine sx_nil (hZ _ _ ?_)
  refine awp_forget [(0, _), (1, _), (5, _)] (Kn.cons rfl (Kn.cons rfl (Kn.cons rfl (Kn.nil)))) ?_
  refine awp_block ?_
  refine awp_loop (ι := Nat) (fun k => [(0, .slice A L.length c), (1, .slice B M.length d), (5, iq (k : Nat))]) (fun _ => T ++ U)
    (fun k => k ≤ L.length ∧ sameI (L.drop k) (M.drop k) = sameI L M) (fun k => L.length - k) 0 ⟨by simp, rfl⟩ (Kn.cons rfl (Kn.cons rfl (Kn.cons rfl Kn.nil))) (HLe.refl _) ?_
  rintro k ⟨hk, hq⟩
  refine awp_seq ?_
  refine awp_seq_region (fun Z hZ => ?_)
  refine sx_move rfl rfl ?_
  refine sx_move rfl rfl ?_
  first | refine sx_len Try.underlying22 rfl rfl ?_ | refine sx_lenS Try.underlying22 rfl rfl ?_
  first | refine sx_lss rfl rfl rfl ?_ | refine sx_slss rfl rfl rfl ?_
  refine sx_nil (hZ _ _ ?_)
  refine awp_forget [(0, _), (1, _), (5, _), (14, _)] (Kn.cons rfl (Kn.cons rfl (Kn.cons rfl (Kn.cons rfl (Kn.nil))))) ?_
  first | refine awp_cond rfl (fun h => ?_) (fun h => ?_) | refine awp_seq (awp_cond rfl (fun h => ?_) (fun h => ?_))
  · have hlt : k < L.length := by simpa using h
    obtain ⟨x, hx⟩ : ∃ x, L[k]? = some x := ⟨_, List.getElem?_eq_getElem hlt⟩
    obtain ⟨y, hy⟩ : ∃ y, M[k]? = some y := ⟨_, List.getElem?_eq_getElem (by omega)⟩
    have hxe : L[k] = x := Option.some.inj ((List.getElem?_eq_getElem hlt).symm.trans hx)
    have hye : M[k]'(by omega) = y := Option.some.inj ((List.getElem?_eq_getElem (by omega)).symm.trans hy)
    rw [List.drop_eq_getElem_cons hlt, List.drop_eq_getElem_cons (show k < M.length by omega), hxe, hye, sameI] at hq
    obtain ⟨g, o, rfl⟩ := hA (by omega)
    obtain ⟨g', o', rfl⟩ := hB (by omega)
    obtain rfl := hT (by omega)
    obtain rfl := hU (by omega)
    refine awp_skip ?_
    repeat (with_reducible (first | refine nx_block_normal ?_ | refine nx_scope_normal ?_))
    with_reducible first | refine nx_normal ?_ | refine nx_normalM ?_
    refine awp_seq (awp_block ?_)

    refine awq_seq_region mixed (by kernel_rfl) (fun Z hZ => ?_)
    refine sq_move rfl rfl ?_
    refine sq_move rfl rfl ?_
    refine sq_indexAddr (o + k * 2) Try.underlying22 tyS58 rfl rfl (by omega) (by simp) rfl ?_
    refine sq_loadRo 0 rfl rfl (k * 2) rfl tyA58 tyS58 (icells_all hx) rfl ?_
    refine sq_move rfl rfl ?_
    refine sq_move rfl rfl ?_
    refine sq_indexAddr (o' + k * 2) Try.underlying22 tyS58 rfl rfl (by omega) (by simp) rfl ?_
    refine sq_loadRo 1 rfl rfl (k * 2) rfl tyA58 tyS58 (icells_all hy) rfl ?_
    refine sq_aneq (it_eqR x y) guard_itR rfl rfl rfl ?_
    refine sq_nil (hZ _ _ ?_)
    refine awp_forget [(0, _), (1, _), (5, _), (25, _)] (Kn.cons rfl (Kn.cons rfl (Kn.cons rfl (Kn.cons rfl (Kn.nil))))) ?_
    first | refine awp_cond rfl (fun hb => ?_) (fun hb => ?_) | refine awp_seq (awp_cond rfl (fun hb => ?_) (fun hb => ?_))
    · have hb' : itq x y = false := by simpa using hb
      rw [hb'] at hq
      rw [← hq]
      refine awp_seq_region (fun Z hZ => ?_)
      refine sx_assign rfl rfl ?_
      refine sx_nil (hZ _ _ ?_)
      refine awp_forget [(4, _)] (Kn.cons rfl (Kn.nil)) ?_
      refine awp_ret ?_
      repeat (with_reducible (first | refine nx_then_ret ?_ | refine nx_block_ret ?_ | refine nx_scope_ret ?_))
      exact nx_ret1 rfl rfl rfl
    have hb' : itq x y = true := by simpa using hb
    rw [hb', Bool.true_and] at hq
    refine awp_skip ?_
    repeat (with_reducible (first | refine nx_block_normal ?_ | refine nx_scope_normal ?_))
    with_reducible first | refine nx_normal ?_ | refine nx_normalM ?_
    refine awp_region (fun Z hZ => ?_)
    refine sx_move rfl rfl ?_
    refine sx_add rfl rfl ((k + 1 : Nat) : Int) (by rw [IntWalk.i64_in _ (by omega)]; omega) rfl ?_
    refine sx_assign rfl rfl ?_
    refine sx_nil (hZ _ _ ?_)
    refine nx_forget [(0, _), (1, _), (5, _)] (Kn.cons rfl (Kn.cons rfl (Kn.cons rfl (Kn.nil)))) ?_
    exact nx_round (k + 1) ⟨by omega, hq⟩ (by omega) (Kn.cons rfl (Kn.cons rfl (Kn.cons rfl Kn.nil))) (HLe.refl _)
  · refine awp_exit ?_
    repeat (with_reducible (first | refine nx_then_exit ?_ | refine nx_block_other (by decide) ?_ | refine nx_scope_exit ?_))
    with_reducible refine nx_block_exit ?_
    repeat (with_reducible (first | refine nx_block_normal ?_ | refine nx_scope_normal ?_))
    with_reducible first | refine nx_normal ?_ | refine nx_normalM ?_
    have hke : k = L.length := by simp at h; omega
    subst hke
    rw [List.drop_length, List.drop_of_length_le (by omega), sameI] at hq
    rw [← hq]
    refine awp_seq_region (fun Z hZ => ?_)
    refine sx_assign rfl rfl ?_
    refine sx_nil (hZ _ _ ?_)
    refine awp_forget [(4, _)] (Kn.cons rfl (Kn.nil)) ?_
    refine awp_ret ?_
    repeat (with_reducible (first | refine nx_then_ret ?_ | refine nx_block_ret ?_ | refine nx_scope_ret ?_))
    exact nx_ret1 rfl rfl rfl
end Go.Proofs.Ytahmhcmfeloclaa
