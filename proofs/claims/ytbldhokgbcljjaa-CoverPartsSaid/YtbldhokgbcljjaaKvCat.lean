/- The walk of slices.Concat at intervals. Conditions: the lists are not too long. -/
import Derived.Test.YtbldhokgbcljjaaKv1
import Derived.Test.YtbldhokgbcljjaaKvGr
namespace Go.Proofs.Ytbldhokgbcljjaa
open Go.RowKit
set_option linter.unusedVariables false
set_option linter.unusedSimpArgs false
/-- A part: a slice and what it holds. -/
abbrev Sc := Option Addr × Nat × List Sp
abbrev scv (p : Sc) : Value := .slice p.1 p.2.2.length p.2.1
def ScOk (T : Heap) (p : Sc) : Prop := ∀ w0 Wr w, Sat w0 Wr T w → Rd w 2 p.1 p.2.2.length (scells p.2.2)
def scAll (ps : List Sc) : List Sp := ps.flatMap fun p => p.2.2
def scAt (ps : List Sc) (i : Nat) : Sc := (ps[i]?).getD (none, 0, [])
theorem scAt_at {L : List Sc} {i : Nat} (h : i < L.length) : L[i]? = some (scAt L i) := by simp [scAt, List.getElem?_eq_getElem h]
theorem scAll_snoc {ps : List Sc} {k : Nat} {p : Sc} (h : ps[k]? = some p) : scAll (ps.take (k + 1)) = scAll (ps.take k) ++ p.2.2 := by
  rw [List.take_add_one, h]
  simp [scAll]
theorem scAll_le (ps : List Sc) (k : Nat) : (scAll (ps.take k)).length ≤ (scAll ps).length := by
  have : scAll ps = scAll (ps.take k) ++ scAll (ps.drop k) := by
    simp only [scAll]
    rw [← List.flatMap_append, List.take_append_drop]
  rw [this, List.length_append]
  omega
theorem scv_rd {ps : List Sc} {k : Nat} (h : k < ps.length) : rdV false 1 (ps.map scv) k = some (scv (scAt ps k)) := by
  have h1 := scAt_at h
  simp [rdV, h1]
theorem sconcat_fn (g : Nat) (ps : List Sc) (T : Heap) (hps : ∀ p ∈ ps, ScOk T p) (hro : Ro T) (hl : ps.length ≤ 1000) (hL : (scAll ps).length ≤ 100000) :
    Fn Try.prog 76 [.slice (some ⟨g, 0, none⟩) ps.length ps.length] (.ro g 0 (ps.map scv) :: T) fun v H' => RowOk v (scAll ps).length ∧ H' = rowE v 43 2 (scells (scAll ps)) := by
  have hro2 : Ro (.ro g 0 (ps.map scv) :: T) := fun e he => by
    rcases List.mem_cons.1 he with rfl | he
    · rfl
    · exact hro e he
  refine Fn.enter (N := 36) Try.func76 rfl (by kernel_rfl) rfl (fun w0 => ?_)

  refine awp_seq_region (fun Z hZ => ?_)
  refine sx_assign rfl rfl ?_
  refine sx_nil (hZ _ _ ?_)
  refine awp_forget [(0, _)] (Kn.cons rfl (Kn.nil)) ?_
  refine awp_seq_region (fun Z hZ => ?_)
  refine sx_assign rfl rfl ?_
  refine sx_nil (hZ _ _ ?_)
  refine awp_forget [(0, _), (3, _)] (Kn.cons rfl (Kn.cons rfl (Kn.nil))) ?_
  refine awp_seq ?_
  refine awp_seq_region (fun Z hZ => ?_)
  refine sx_move rfl rfl ?_
  first | refine sx_len Try.underlying40 rfl rfl ?_ | refine sx_lenS Try.underlying40 rfl rfl ?_
  refine sx_move rfl rfl ?_
  refine sx_nil (hZ _ _ ?_)
  refine awp_forget [(0, _), (3, _), (9, _), (10, _), (11, _)] (Kn.cons rfl (Kn.cons rfl (Kn.cons rfl (Kn.cons rfl (Kn.cons rfl (Kn.nil)))))) ?_
  refine awp_block ?_
  refine awp_loop (ι := Nat) (fun k => [(0, .slice (some ⟨g, 0, none⟩) ps.length ps.length), (3, iq ((scAll (ps.take k)).length : Nat)), (9, .slice (some ⟨g, 0, none⟩) ps.length ps.length), (10, iq (ps.length : Nat)), (11, iq (k : Nat))]) (fun _ => .ro g 0 (ps.map scv) :: T)
    (fun k => k ≤ ps.length) (fun k => ps.length - k) 0 (by simp) (Kn.cons rfl (Kn.cons rfl (Kn.cons rfl (Kn.cons rfl (Kn.cons rfl Kn.nil))))) (HLe.refl _) ?_
  rintro k hk
  refine awp_seq_region (fun Z hZ => ?_)
  first | refine sx_lss rfl rfl rfl ?_ | refine sx_slss rfl rfl rfl ?_
  refine sx_nil (hZ _ _ ?_)
  refine awp_forget [(0, _), (3, _), (9, _), (10, _), (11, _), (12, _)] (Kn.cons rfl (Kn.cons rfl (Kn.cons rfl (Kn.cons rfl (Kn.cons rfl (Kn.cons rfl (Kn.nil))))))) ?_
  first | refine awp_cond rfl (fun h => ?_) (fun h => ?_) | refine awp_seq (awp_cond rfl (fun h => ?_) (fun h => ?_))
  · have hlt : k < ps.length := by simpa using h
    have hx := scAt_at hlt
    have hrd := scv_rd hlt
    have hsn := congrArg List.length (scAll_snoc hx)
    have hle := scAll_le ps (k + 1)
    rw [List.length_append] at hsn
    obtain ⟨p, hp⟩ : ∃ p, scAt ps k = p := ⟨_, rfl⟩
    rw [hp] at hx hrd hsn
    refine awp_skip ?_
    repeat (with_reducible (first | refine nx_block_normal ?_ | refine nx_scope_normal ?_))
    with_reducible first | refine nx_normal ?_ | refine nx_normalM ?_
    refine awp_seq (awp_block ?_)
    refine awp_seq_region (fun Z hZ => ?_)
    refine sx_indexAddr k Try.underlying40 tyS24 rfl rfl (by omega) (by simp) rfl ?_
    refine sx_loadRo 0 rfl rfl k (by simp) tyA24 tyS24 hrd rfl ?_
    refine sx_assign rfl rfl ?_
    refine sx_nil (hZ _ _ ?_)
    refine awp_forget [(0, _), (3, _), (5, _), (9, _), (10, _), (11, _)] (Kn.cons rfl (Kn.cons rfl (Kn.cons rfl (Kn.cons rfl (Kn.cons rfl (Kn.cons rfl (Kn.nil))))))) ?_
    refine awp_seq_region (fun Z hZ => ?_)
    refine sx_move rfl rfl ?_
    refine sx_move rfl rfl ?_
    first | refine sx_len Try.underlying24 rfl rfl ?_ | refine sx_lenS Try.underlying24 rfl rfl ?_
    refine sx_add rfl rfl (((scAll (ps.take (k + 1))).length : Nat) : Int) (by rw [IntWalk.i64_in _ (by omega)]; omega) rfl ?_
    refine sx_assign rfl rfl ?_
    refine sx_nil (hZ _ _ ?_)
    refine awp_forget [(0, _), (3, _), (9, _), (10, _), (11, _)] (Kn.cons rfl (Kn.cons rfl (Kn.cons rfl (Kn.cons rfl (Kn.cons rfl (Kn.nil)))))) ?_
    refine awp_seq_region (fun Z hZ => ?_)
    refine sx_move rfl rfl ?_
    first | refine sx_lss rfl rfl rfl ?_ | refine sx_slss rfl rfl rfl ?_
    refine sx_nil (hZ _ _ ?_)
    refine awp_forget [(0, _), (3, _), (9, _), (10, _), (11, _), (20, _)] (Kn.cons rfl (Kn.cons rfl (Kn.cons rfl (Kn.cons rfl (Kn.cons rfl (Kn.cons rfl (Kn.nil))))))) ?_
    first | refine awp_cond rfl (fun h6 => ?_) (fun h6 => ?_) | refine awp_seq (awp_cond rfl (fun h6 => ?_) (fun h6 => ?_))
    · exfalso
      simp at h6
      omega
    refine awp_skip ?_
    repeat (with_reducible (first | refine nx_block_normal ?_ | refine nx_scope_normal ?_))
    with_reducible first | refine nx_normal ?_ | refine nx_normalM ?_
    refine awp_region (fun Z hZ => ?_)
    refine sx_add rfl rfl ((k + 1 : Nat) : Int) (by rw [IntWalk.i64_in _ (by omega)]; omega) rfl ?_
    refine sx_move rfl rfl ?_
    refine sx_nil (hZ _ _ ?_)
    refine nx_forget [(0, _), (3, _), (9, _), (10, _), (11, _)] (Kn.cons rfl (Kn.cons rfl (Kn.cons rfl (Kn.cons rfl (Kn.cons rfl (Kn.nil)))))) ?_
    exact nx_round (k + 1) (by omega) (by omega) (Kn.cons rfl (Kn.cons rfl (Kn.cons rfl (Kn.cons rfl (Kn.cons rfl Kn.nil))))) (HLe.refl _)
  · have hke : k = ps.length := by simp at h; omega
    subst hke
    refine awp_exit ?_
    repeat (with_reducible (first | refine nx_then_exit ?_ | refine nx_block_other (by decide) ?_ | refine nx_scope_exit ?_))
    with_reducible refine nx_block_exit ?_
    repeat (with_reducible (first | refine nx_block_normal ?_ | refine nx_scope_normal ?_))
    with_reducible first | refine nx_normal ?_ | refine nx_normalM ?_
    rw [List.take_length]
    refine awp_seq_region (fun Z hZ => ?_)
    refine sx_move rfl rfl ?_
    refine sx_callO [] _ (growS_fn (scAll ps).length (by omega)) rfl (HLe.refl _) rfl ?_
    rintro v H' ⟨hv, rfl⟩
    rw [rowE_flt]
    refine sx_heap ((.ro g 0 (ps.map scv) :: T) ++ rowE v 43 2 []) (HLe.swap _ _) ?_
    refine sx_assign rfl rfl ?_
    refine sx_nil (hZ _ _ ?_)
    refine awp_forget [(0, _), (6, _)] (Kn.cons rfl (Kn.cons rfl (Kn.nil))) ?_
    refine awp_seq ?_
    refine awp_seq_region (fun Z hZ => ?_)
    refine sx_move rfl rfl ?_
    first | refine sx_len Try.underlying40 rfl rfl ?_ | refine sx_lenS Try.underlying40 rfl rfl ?_
    refine sx_move rfl rfl ?_
    refine sx_nil (hZ _ _ ?_)
    refine awp_forget [(6, _), (25, _), (26, _), (27, _)] (Kn.cons rfl (Kn.cons rfl (Kn.cons rfl (Kn.cons rfl (Kn.nil))))) ?_
    refine awp_block ?_
    refine awp_loop (ι := Nat × Value) (fun i => [(6, i.2), (25, .slice (some ⟨g, 0, none⟩) ps.length ps.length), (26, iq (ps.length : Nat)), (27, iq (i.1 : Nat))]) (fun i => (.ro g 0 (ps.map scv) :: T) ++ rowE i.2 43 2 (scells (scAll (ps.take i.1))))
      (fun i => i.1 ≤ ps.length ∧ RowOk i.2 (scAll (ps.take i.1)).length) (fun i => ps.length - i.1) (0, v) ⟨by simp, hv⟩ (Kn.cons rfl (Kn.cons rfl (Kn.cons rfl (Kn.cons rfl Kn.nil)))) (HLe.refl _) ?_
    rintro ⟨k, v⟩ ⟨hk, hv⟩
    simp only at hk hv
    refine awp_heap (.ro g 0 (ps.map scv) :: (T ++ rowE v 43 2 (scells (scAll (ps.take k))))) (HLe.refl _) ?_
    refine awp_seq_region (fun Z hZ => ?_)
    first | refine sx_lss rfl rfl rfl ?_ | refine sx_slss rfl rfl rfl ?_
    refine sx_nil (hZ _ _ ?_)
    refine awp_forget [(6, _), (25, _), (26, _), (27, _), (28, _)] (Kn.cons rfl (Kn.cons rfl (Kn.cons rfl (Kn.cons rfl (Kn.cons rfl (Kn.nil)))))) ?_
    first | refine awp_cond rfl (fun h => ?_) (fun h => ?_) | refine awp_seq (awp_cond rfl (fun h => ?_) (fun h => ?_))
    · have hlt : k < ps.length := by simpa using h
      have hx := scAt_at hlt
      have hrd := scv_rd hlt
      have hsn := scAll_snoc hx
      have hle := scAll_le ps (k + 1)
      have hok := hps _ (List.mem_of_getElem? hx)
      obtain ⟨p, hp⟩ : ∃ p, scAt ps k = p := ⟨_, rfl⟩
      rw [hp] at hx hrd hsn hok
      rw [hsn, List.length_append] at hle
      refine awp_skip ?_
      repeat (with_reducible (first | refine nx_block_normal ?_ | refine nx_scope_normal ?_))
      with_reducible first | refine nx_normal ?_ | refine nx_normalM ?_
      refine awp_seq (awp_block ?_)
      refine awp_seq_region (fun Z hZ => ?_)
      refine sx_indexAddr k Try.underlying40 tyS24 rfl rfl (by omega) (by simp) rfl ?_
      refine sx_loadRo 0 rfl rfl k (by simp) tyA24 tyS24 hrd rfl ?_
      refine sx_assign rfl rfl ?_
      refine sx_nil (hZ _ _ ?_)
      refine awp_forget [(6, _), (8, _), (25, _), (26, _), (27, _)] (Kn.cons rfl (Kn.cons rfl (Kn.cons rfl (Kn.cons rfl (Kn.cons rfl (Kn.nil)))))) ?_
      refine awp_region (fun Z hZ => ?_)
      refine sx_move rfl rfl ?_
      refine sx_move rfl rfl ?_
      refine sx_appendE (.ro g 0 (ps.map scv) :: T) elemSp rfl hv (scells_len _) rfl (fun w hw => hok _ _ _ (hw.sub ((List.sublist_append_left T _).trans (List.sublist_cons_self _ _)))) (scells_one _) (by show _ ≤ 9223372036854775807; omega) (by omega) (HLe.refl _) rfl (fun v2 hv2 => ?_)
      refine sx_assign rfl rfl ?_
      refine sx_nil (hZ _ _ ?_)
      refine nx_forget [(6, _), (25, _), (26, _), (27, _)] (Kn.cons rfl (Kn.cons rfl (Kn.cons rfl (Kn.cons rfl (Kn.nil))))) ?_
      repeat (with_reducible (first | refine nx_block_normal ?_ | refine nx_scope_normal ?_))
      with_reducible first | refine nx_normal ?_ | refine nx_normalM ?_
      refine awp_region (fun Z hZ => ?_)
      refine sx_add rfl rfl ((k + 1 : Nat) : Int) (by rw [IntWalk.i64_in _ (by omega)]; omega) rfl ?_
      refine sx_move rfl rfl ?_
      refine sx_nil (hZ _ _ ?_)
      refine nx_forget [(6, _), (25, _), (26, _), (27, _)] (Kn.cons rfl (Kn.cons rfl (Kn.cons rfl (Kn.cons rfl (Kn.nil))))) ?_
      refine nx_round (k + 1, v2) ⟨by show k + 1 ≤ _; omega, by show RowOk v2 _; rw [hsn, List.length_append]; exact hv2⟩ (by simp; omega) (Kn.cons rfl (Kn.cons rfl (Kn.cons rfl (Kn.cons rfl Kn.nil)))) ?_
      rw [hsn, show scells (scAll (ps.take k) ++ p.2.2) = scells (scAll (ps.take k)) ++ scells p.2.2 from List.flatMap_append]
      exact HLe.refl _
    · refine awp_exit ?_
      repeat (with_reducible (first | refine nx_then_exit ?_ | refine nx_block_other (by decide) ?_ | refine nx_scope_exit ?_))
      with_reducible refine nx_block_exit ?_
      repeat (with_reducible (first | refine nx_block_normal ?_ | refine nx_scope_normal ?_))
      with_reducible first | refine nx_normal ?_ | refine nx_normalM ?_
      have hke : k = ps.length := by simp at h; omega
      subst hke
      rw [List.take_length] at hv ⊢
      refine awp_seq_region (fun Z hZ => ?_)
      refine sx_move rfl rfl ?_
      refine sx_assign rfl rfl ?_
      refine sx_nil (hZ _ _ ?_)
      refine awp_forget [(2, _)] (Kn.cons rfl (Kn.nil)) ?_
      refine awp_ret ?_
      repeat (with_reducible (first | refine nx_then_ret ?_ | refine nx_block_ret ?_ | refine nx_scope_ret ?_))
      exact nx_ret1h _ rfl rfl (HLe.sub (List.sublist_append_right (.ro g 0 (ps.map scv) :: T) _)) ⟨hv, rfl⟩
end Go.Proofs.Ytbldhokgbcljjaa
