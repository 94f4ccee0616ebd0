/- The walks of leaves.Join and of what it stands on. Conditions: the lists and texts are not too long. -/
import Derived.Test.YtodclhiggafkbaaLf5
namespace Go.Proofs.Ytodclhiggafkbaa
open Go.RowKit
set_option linter.unusedVariables false
set_option linter.unusedSimpArgs false
def pieceQ (p : En) (t : List UInt8) : List En × Nat :=
  if t.length < p.off + p.len then ([], 8)
  else if (decQ ((t.drop p.off).take p.len)).2.2 ≠ 0 then ([], (decQ ((t.drop p.off).take p.len)).2.2)
  else if hasPtr (decQ ((t.drop p.off).take p.len)).1 = true then ([], 20)
  else if (decQ ((t.drop p.off).take p.len)).1.length = 0 ∨ (atE (decQ ((t.drop p.off).take p.len)).1 0).id ≠ p.id then ([], 10)
  else ((decQ ((t.drop p.off).take p.len)).1, 0)
def joinG (t : List UInt8) : List En → List En → List En × Nat
  | out, [] => if rowC out ≠ 0 then ([], rowC out) else (out, 0)
  | out, x :: r => if isPtr x = true then (if (pieceQ x t).2 ≠ 0 then ([], (pieceQ x t).2) else joinG t (out ++ (pieceQ x t).1) r) else joinG t (out ++ [x]) r
def joinQ (L : List En) (t : List UInt8) : List En × Nat := if rowC L ≠ 0 then ([], rowC L) else joinG t [] L
theorem pieceQ_ok (p : En) (t : List UInt8) : (pieceQ p t).1.length ≤ 4096 ∧ EnsOk (pieceQ p t).1 := by
  have he : EnsOk [] := fun e h => by cases h
  obtain ⟨h1, h2, _⟩ := decQ_ok ((t.drop p.off).take p.len)
  unfold pieceQ
  split
  · exact ⟨Nat.zero_le _, he⟩
  split
  · exact ⟨Nat.zero_le _, he⟩
  split
  · exact ⟨Nat.zero_le _, he⟩
  split
  · exact ⟨Nat.zero_le _, he⟩
  · exact ⟨h1, h2⟩
theorem piece_fn (p : En) (hp : p.ok) (ho : p.off ≤ 1099511627776) (t : List UInt8) (ht : t.length ≤ 1000000) :
    Fn Try.prog 33 [p.val, .string (str t)] [] fun v H' => ∃ u, v = .tuple #[u, iq (pieceQ p t).2] ∧ RowOk u (pieceQ p t).1.length ∧ H' = rowE u 52 4 (ecells (pieceQ p t).1) := by
  obtain ⟨p1, p2, p3, p4⟩ := hp
  refine Fn.enter (N := 55) Try.func33 rfl (by kernel_rfl) rfl (fun w0 => ?_)

  refine awp_seq_region (fun Z hZ => ?_)
  refine sx_box rfl rfl rfl (fun g1 => ?_)
  refine sx_assign rfl rfl ?_
  refine sx_assign rfl rfl ?_
  refine sx_nil (hZ _ _ ?_)
  refine awp_forget [(1, _), (2, _)] (Kn.cons rfl (Kn.cons rfl (Kn.nil))) ?_
  refine awp_seq ?_
  refine awp_seq_region (fun Z hZ => ?_)
  refine sx_fieldAddr rfl tyF52_1 (by first | (simp only [Nat.reduceAdd, Nat.add_zero, Nat.zero_add]; first | done | rfl) | rfl) rfl ?_
  first | refine sx_load 0 rfl rfl tyA47 tyS47 rfl rfl ?_
  refine sx_fieldAddr rfl tyF52_2 (by first | (simp only [Nat.reduceAdd, Nat.add_zero, Nat.zero_add]; first | done | rfl) | rfl) rfl ?_
  first | refine sx_load 0 rfl rfl tyA50 tyS50 rfl rfl ?_
  refine sx_conv Try.underlying50 Try.underlying47 rfl ((p.len : Nat) : Int) (by rw [IntWalk.u64_in _ (by omega)]) rfl ?_
  refine sx_add rfl rfl ((p.off + p.len : Nat) : Int) (by rw [IntWalk.u64_in _ (by omega)]; omega) rfl ?_
  refine sx_move rfl rfl ?_
  first | refine sx_len Try.underlying9 rfl rfl ?_ | refine sx_lenS Try.underlying9 rfl rfl ?_
  refine sx_conv Try.underlying3 Try.underlying47 rfl ((t.length : Nat) : Int) (by rw [IntWalk.u64_in _ (by omega)]) rfl ?_
  first | refine sx_gtr rfl rfl rfl ?_ | refine sx_sgtr rfl rfl rfl ?_
  refine sx_nil (hZ _ _ ?_)
  refine awp_forget [(1, _), (2, _), (18, _)] (Kn.cons rfl (Kn.cons rfl (Kn.cons rfl (Kn.nil)))) ?_
  first | refine awp_cond rfl (fun h => ?_) (fun h => ?_) | refine awp_seq (awp_cond rfl (fun h => ?_) (fun h => ?_))
  · have h1 : t.length < p.off + p.len := by simp at h; omega
    rw [show pieceQ p t = ([], 8) by unfold pieceQ; rw [if_pos h1]]
    refine awp_seq_region (fun Z hZ => ?_)
    refine sx_assign rfl rfl ?_
    refine sx_assign rfl rfl ?_
    refine sx_nil (hZ _ _ ?_)
    refine awp_forget [(4, _), (5, _)] (Kn.cons rfl (Kn.cons rfl (Kn.nil))) ?_
    refine awp_ret ?_
    repeat (with_reducible (first | refine nx_then_ret ?_ | refine nx_block_ret ?_ | refine nx_scope_ret ?_))
    exact nx_ret2h [] rfl rfl rfl (HLe.sub (List.nil_sublist _)) ⟨_, rfl, RowOk.nil, rfl⟩
  have h1 : ¬ t.length < p.off + p.len := by simp at h; omega
  obtain ⟨s, hs⟩ : ∃ s, (t.drop p.off).take p.len = s := ⟨_, rfl⟩
  have hsl : s.length ≤ 1000000 := by rw [← hs, List.length_take, List.length_drop]; omega
  have hD := ddecode_fn s hsl
  obtain ⟨d1, d2, d3, d4⟩ := decQ_ok s
  obtain ⟨M, hM⟩ : ∃ M, (decQ s).1 = M := ⟨_, rfl⟩
  obtain ⟨e, he⟩ : ∃ e, (decQ s).2.2 = e := ⟨_, rfl⟩
  rw [hM, he] at hD
  rw [hM] at d1 d2
  have hmax : M.length ≤ maxLen := by show _ ≤ 9223372036854775807; omega
  refine awp_skip ?_
  repeat (with_reducible (first | refine nx_block_normal ?_ | refine nx_scope_normal ?_))
  with_reducible first | refine nx_normal ?_ | refine nx_normalM ?_
  refine awp_seq_region (fun Z hZ => ?_)
  refine sx_move rfl rfl ?_
  refine sx_fieldAddr rfl tyF52_1 (by first | (simp only [Nat.reduceAdd, Nat.add_zero, Nat.zero_add]; first | done | rfl) | rfl) rfl ?_
  first | refine sx_load 0 rfl rfl tyA47 tyS47 rfl rfl ?_
  refine sx_fieldAddr rfl tyF52_1 (by first | (simp only [Nat.reduceAdd, Nat.add_zero, Nat.zero_add]; first | done | rfl) | rfl) rfl ?_
  first | refine sx_load 0 rfl rfl tyA47 tyS47 rfl rfl ?_
  refine sx_fieldAddr rfl tyF52_2 (by first | (simp only [Nat.reduceAdd, Nat.add_zero, Nat.zero_add]; first | done | rfl) | rfl) rfl ?_
  first | refine sx_load 0 rfl rfl tyA50 tyS50 rfl rfl ?_
  refine sx_conv Try.underlying50 Try.underlying47 rfl ((p.len : Nat) : Int) (by rw [IntWalk.u64_in _ (by omega)]) rfl ?_
  refine sx_add rfl rfl ((p.off + p.len : Nat) : Int) (by rw [IntWalk.u64_in _ (by omega)]; omega) rfl ?_
  refine sx_sliceS s Try.underlying9 rfl rfl rfl (by omega) (by omega) (by omega) (by rw [← hs]; simp only [Int.toNat_natCast]; rw [Nat.add_sub_cancel_left]) rfl ?_
  refine sx_callO [] [_] hD rfl (HLe.refl _) rfl ?_
  rintro v H' ⟨u, rfl, hu, rfl⟩
  rw [rowE_flt]
  obtain ⟨A1, c1, rfl, hA1, hle1⟩ := hu.ro
  refine sx_heap ([_] ++ rowE (.slice A1 M.length c1) 52 4 (ecells M)) (HLe.swap _ _) ?_
  refine sx_move rfl rfl ?_
  refine sx_extract rfl rfl rfl ?_
  refine sx_extract rfl rfl rfl ?_
  refine sx_extract rfl rfl rfl ?_
  refine sx_assign rfl rfl ?_
  refine sx_assign rfl rfl ?_
  refine sx_assign rfl rfl ?_
  refine sx_nil (hZ _ _ ?_)
  refine awp_forget [(2, _), (6, _), (8, _)] (Kn.cons rfl (Kn.cons rfl (Kn.cons rfl (Kn.nil)))) ?_
  refine awp_seq (awp_block ?_)

  refine awp_seq_region (fun Z hZ => ?_)
  refine sx_move rfl rfl ?_
  first | refine sx_neq rfl rfl rfl ?_ | refine sx_sneq rfl rfl rfl ?_
  refine sx_assign rfl rfl ?_
  refine sx_nil (hZ _ _ ?_)
  refine awp_forget [(2, _), (6, _), (8, _), (34, _)] (Kn.cons rfl (Kn.cons rfl (Kn.cons rfl (Kn.cons rfl (Kn.nil))))) ?_
  first | refine awp_cond rfl (fun h2 => ?_) (fun h2 => ?_) | refine awp_seq (awp_cond rfl (fun h2 => ?_) (fun h2 => ?_))
  · have he0 : e ≠ 0 := by simp at h2; omega
    rw [show pieceQ p t = ([], e) by unfold pieceQ; rw [if_neg h1, hs, he, if_pos he0]]
    refine awp_seq_region (fun Z hZ => ?_)
    refine sx_move rfl rfl ?_
    refine sx_assign rfl rfl ?_
    refine sx_assign rfl rfl ?_
    refine sx_nil (hZ _ _ ?_)
    refine awp_forget [(4, _), (5, _)] (Kn.cons rfl (Kn.cons rfl (Kn.nil))) ?_
    refine awp_ret ?_
    repeat (with_reducible (first | refine nx_then_ret ?_ | refine nx_block_ret ?_ | refine nx_scope_ret ?_))
    exact nx_ret2h [] rfl rfl rfl (HLe.sub (List.nil_sublist _)) ⟨_, rfl, RowOk.nil, rfl⟩
  have he0 : e = 0 := by simp at h2; omega
  refine awp_seq_region (fun Z hZ => ?_)
  refine sx_move rfl rfl ?_
  refine sx_callV (roE A1 (ecells M)) (contains_fn A1 c1 M _ hA1.arg (fun _ => rfl) (Ro.roE _ _) hmax d2) rfl (row_view hle1 [.own g1 52 p.cells] _ _ _) (Ro.roE _ _) rfl ?_
  refine sx_assign rfl rfl ?_
  refine sx_nil (hZ _ _ ?_)
  refine awp_forget [(2, _), (6, _), (38, _)] (Kn.cons rfl (Kn.cons rfl (Kn.cons rfl (Kn.nil)))) ?_
  first | refine awp_cond rfl (fun h3 => ?_) (fun h3 => ?_) | refine awp_seq (awp_cond rfl (fun h3 => ?_) (fun h3 => ?_))
  · have h3' : hasPtr M = true := h3
    rw [show pieceQ p t = ([], 20) by unfold pieceQ; rw [if_neg h1, hs, he, if_neg (by simpa using he0), hM, if_pos h3']]
    refine awp_seq_region (fun Z hZ => ?_)
    refine sx_assign rfl rfl ?_
    refine sx_assign rfl rfl ?_
    refine sx_nil (hZ _ _ ?_)
    refine awp_forget [(4, _), (5, _)] (Kn.cons rfl (Kn.cons rfl (Kn.nil))) ?_
    refine awp_ret ?_
    repeat (with_reducible (first | refine nx_then_ret ?_ | refine nx_block_ret ?_ | refine nx_scope_ret ?_))
    exact nx_ret2h [] rfl rfl rfl (HLe.sub (List.nil_sublist _)) ⟨_, rfl, RowOk.nil, rfl⟩
  have h3' : ¬ hasPtr M = true := by rw [show hasPtr M = false from h3]; decide
  have hAs : 0 < M.length → ∃ g, A1 = some ⟨g, 0, none⟩ := fun h0 => by
    obtain ⟨g, c', hh⟩ := hu.some h0
    injection hh with hh _ _
    exact ⟨g, hh⟩
  obtain ⟨gz, hgz⟩ : ∃ g, 0 < M.length → A1 = some ⟨g, 0, none⟩ := by
    rcases Nat.eq_zero_or_pos M.length with h0 | h0
    · exact ⟨0, fun h => by omega⟩
    · obtain ⟨g, hg⟩ := hAs h0
      exact ⟨g, fun _ => hg⟩
  have hpos : ((M.length : Int) == 0) = false → 0 < M.length := fun h => by simp at h; exact List.length_pos_iff.2 h
  refine awq_seq_meet [(6, .slice A1 M.length c1), (41, .bool (decide (M.length = 0 ∨ (atE M 0).id ≠ p.id)))] ([.own g1 52 p.cells] ++ rowE (.slice A1 M.length c1) 52 4 (ecells M)) mixed (by kernel_rfl) (fun Z hZ => ?_) ?_
  · refine sq_move rfl rfl ?_
    first | refine sq_len Try.underlying24 rfl rfl ?_ | refine sq_lenS Try.underlying24 rfl rfl ?_
    first | refine sq_eql rfl rfl rfl ?_ | refine sq_seql rfl rfl rfl ?_
    refine sq_move rfl rfl ?_
    refine sq_split 45 rfl (fun hb3 => ?_) (fun hb3 => ?_)
    · refine sq_off rfl rfl rfl rfl rfl ?_
      refine sq_off rfl rfl rfl rfl rfl ?_
      refine sq_off rfl rfl rfl rfl rfl ?_
      refine sq_off rfl rfl rfl rfl rfl ?_
      refine sq_off rfl rfl rfl rfl rfl ?_
      refine sq_off rfl rfl rfl rfl rfl ?_
      refine sq_off rfl rfl rfl rfl rfl ?_
      refine sq_pick rfl rfl rfl ?_
      refine sq_assign rfl rfl ?_
      refine sq_nil (hZ _ _ ?_ ?_)
      · exact Kn.cons rfl (Kn.cons (congrArg some (congrArg Value.bool (by first | (simp at hb3; subst hb3; rfl) | (simp at hb3; rw [Bool.eq_iff_iff]; simp [hb3]; omega) | (simp at hb3; rw [Bool.eq_iff_iff]; simp [hb3])))) Kn.nil)
      · exact HLe.refl _
    · refine sq_on rfl rfl rfl ?_
      refine sq_move rfl rfl ?_
      refine sq_on rfl rfl rfl ?_
      refine sq_indexAddr 0 Try.underlying24 tyS52 (by rw [hgz (hpos hb3)]; rfl) rfl (by have := hpos hb3; omega) (by simp) rfl ?_
      refine sq_on rfl rfl rfl ?_
      refine sq_fieldAddr rfl tyF52_0 (by first | (simp only [Nat.reduceAdd, Nat.add_zero, Nat.zero_add]; first | done | rfl) | rfl) rfl ?_
      refine sq_on rfl rfl rfl ?_
      refine sq_loadRd (o := 0) (n := M.length) (size := 4) (xs := ecells M) 0 rfl rfl (fun w hw => by have hg := hgz (hpos hb3); subst hg; exact rd_rowE hu (ecells_len M) (fun y hy => List.mem_append_right _ hy) hw) (hpos hb3) tyA47 tyS47 (rd_id (k := 0) (atE_at (hpos hb3))) rfl ?_
      refine sq_on rfl rfl rfl ?_
      refine sq_fieldAddr rfl tyF52_0 (by first | (simp only [Nat.reduceAdd, Nat.add_zero, Nat.zero_add]; first | done | rfl) | rfl) rfl ?_
      refine sq_on rfl rfl rfl ?_
      first | refine sq_load 0 rfl rfl tyA47 tyS47 rfl rfl ?_
      refine sq_on rfl rfl rfl ?_
      first | refine sq_neq rfl rfl rfl ?_ | refine sq_sneq rfl rfl rfl ?_
      refine sq_pick rfl rfl rfl ?_
      refine sq_assign rfl rfl ?_
      refine sq_nil (hZ _ _ ?_ ?_)
      · exact Kn.cons rfl (Kn.cons (congrArg some (congrArg Value.bool (by first | (simp at hb3; subst hb3; rfl) | (simp at hb3; rw [Bool.eq_iff_iff]; simp [hb3]; omega) | (simp at hb3; rw [Bool.eq_iff_iff]; simp [hb3])))) Kn.nil)
      · exact HLe.refl _
  first | refine awp_cond rfl (fun h4 => ?_) (fun h4 => ?_) | refine awp_seq (awp_cond rfl (fun h4 => ?_) (fun h4 => ?_))
  · have h4' : M.length = 0 ∨ (atE M 0).id ≠ p.id := by simpa using h4
    rw [show pieceQ p t = ([], 10) by unfold pieceQ; rw [if_neg h1, hs, he, if_neg (by simpa using he0), hM, if_neg h3', if_pos h4']]
    refine awp_seq_region (fun Z hZ => ?_)
    refine sx_assign rfl rfl ?_
    refine sx_assign rfl rfl ?_
    refine sx_nil (hZ _ _ ?_)
    refine awp_forget [(4, _), (5, _)] (Kn.cons rfl (Kn.cons rfl (Kn.nil))) ?_
    refine awp_ret ?_
    repeat (with_reducible (first | refine nx_then_ret ?_ | refine nx_block_ret ?_ | refine nx_scope_ret ?_))
    exact nx_ret2h [] rfl rfl rfl (HLe.sub (List.nil_sublist _)) ⟨_, rfl, RowOk.nil, rfl⟩
  have h4' : ¬ (M.length = 0 ∨ (atE M 0).id ≠ p.id) := by simpa using h4
  rw [show pieceQ p t = (M, 0) by unfold pieceQ; rw [if_neg h1, hs, he, if_neg (by simpa using he0), hM, if_neg h3', if_neg h4']]
  refine awp_skip ?_
  repeat (with_reducible (first | refine nx_block_normal ?_ | refine nx_scope_normal ?_))
  with_reducible first | refine nx_normal ?_ | refine nx_normalM ?_
  refine awp_seq_region (fun Z hZ => ?_)
  refine sx_move rfl rfl ?_
  refine sx_assign rfl rfl ?_
  refine sx_assign rfl rfl ?_
  refine sx_nil (hZ _ _ ?_)
  refine awp_forget [(4, _), (5, _)] (Kn.cons rfl (Kn.cons rfl (Kn.nil))) ?_
  refine awp_ret ?_
  repeat (with_reducible (first | refine nx_then_ret ?_ | refine nx_block_ret ?_ | refine nx_scope_ret ?_))
  exact nx_ret2h _ rfl rfl rfl (HLe.sub (List.sublist_append_right _ _)) ⟨_, rfl, hu, rfl⟩
end Go.Proofs.Ytodclhiggafkbaa
