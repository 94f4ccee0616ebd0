/- The walks of package dirs: Encode; and of the document's answer. Conditions: the lists are not too long. -/
import Derived.Test.YtfffhnefjaomnaaDr3
namespace Go.Proofs.Ytfffhnefjaomnaa
open Go.RowKit
set_option linter.unusedVariables false
set_option linter.unusedSimpArgs false
def encQ (L : List En) : List UInt8 × Nat := if rowC L = 0 then (if 65536 < sumB (numsQ L) then ([], 5) else (allB (numsQ L), 0)) else ([], rowC L)
theorem allB_pos (L : List En) : 0 < (allB (numsQ L)).length := by
  have := vb_pos L.length
  simp only [allB, numsQ, List.flatMap_cons, List.length_append]
  omega
theorem dencode_fn (A : Option Addr) (c : Nat) (L : List En) (T : Heap) (hA : ArgOk A L.length) (hT : 0 < L.length → T = roE A (ecells L)) (hro : Ro T) (hL : L.length ≤ 10000) (hE : EnsOk L) :
    Fn Try.prog 9 [.slice A L.length c] T fun v _ => v = .tuple #[.string (str (encQ L).1), iq (encQ L).2] := by
  have hmax : L.length ≤ maxLen := by show _ ≤ 9223372036854775807; omega
  have hnl := numsQ_lt hE (by omega)
  have hall := allB_len hnl
  have hlen := numsQ_len L
  refine Fn.enterM (n := 25) Try.func9 rfl (by kernel_rfl) rfl (fun w0 => ?_)

  refine awp_seq_region (fun Z hZ => ?_)
  refine sx_assign rfl rfl ?_
  refine sx_assign rfl rfl ?_
  refine sx_nil (hZ _ _ ?_)
  refine awp_forget [(0, _)] (Kn.cons rfl (Kn.nil)) ?_
  refine awp_seq ?_
  refine awp_seq_region (fun Z hZ => ?_)
  refine sx_move rfl rfl ?_
  refine sx_callPT T (erow_fn A c L T hA hT hro hmax hE) rfl (List.Sublist.refl _) hro rfl ?_
  refine sx_assign rfl rfl ?_
  refine sx_nil (hZ _ _ ?_)
  refine awp_forget [(0, _), (4, _)] (Kn.cons rfl (Kn.cons rfl (Kn.nil))) ?_
  refine awp_seq_region (fun Z hZ => ?_)
  refine sx_move rfl rfl ?_
  first | refine sx_neq rfl rfl rfl ?_ | refine sx_sneq rfl rfl rfl ?_
  refine sx_nil (hZ _ _ ?_)
  refine awp_forget [(0, _), (4, _), (10, _)] (Kn.cons rfl (Kn.cons rfl (Kn.cons rfl (Kn.nil)))) ?_
  first | refine awp_cond rfl (fun h => ?_) (fun h => ?_) | refine awp_seq (awp_cond rfl (fun h => ?_) (fun h => ?_))
  · have h0 : rowC L ≠ 0 := by simp at h; omega
    rw [show encQ L = ([], rowC L) by unfold encQ; rw [if_neg h0]]
    refine awp_seq_region (fun Z hZ => ?_)
    refine sx_move rfl rfl ?_
    refine sx_assign rfl rfl ?_
    refine sx_assign rfl rfl ?_
    refine sx_nil (hZ _ _ ?_)
    refine awp_forget [(2, _), (3, _)] (Kn.cons rfl (Kn.cons rfl (Kn.nil))) ?_
    refine awp_ret ?_
    repeat (with_reducible (first | refine nx_then_ret ?_ | refine nx_block_ret ?_ | refine nx_scope_ret ?_))
    exact nx_unmark [] trivial (nx_ret2 rfl rfl rfl rfl)
  have h0 : rowC L = 0 := by simp at h; omega
  have hsz : sizeQ L = sumB (numsQ L) := by unfold sizeQ; rw [if_pos h0]
  refine awp_skip ?_
  repeat (with_reducible (first | refine nx_block_normal ?_ | refine nx_scope_normal ?_))
  with_reducible first | refine nx_normal ?_ | refine nx_normalM ?_
  refine awp_seq ?_
  refine awp_seq_region (fun Z hZ => ?_)
  refine sx_move rfl rfl ?_
  refine sx_callPT T (dsize_fn A c L T hA hT hro (by omega) hE) rfl (List.Sublist.refl _) hro rfl ?_
  first | refine sx_gtr rfl rfl rfl ?_ | refine sx_sgtr rfl rfl rfl ?_
  refine sx_nil (hZ _ _ ?_)
  refine awp_forget [(0, _), (14, _)] (Kn.cons rfl (Kn.cons rfl (Kn.nil))) ?_
  rw [hsz]
  first | refine awp_cond rfl (fun h1 => ?_) (fun h1 => ?_) | refine awp_seq (awp_cond rfl (fun h1 => ?_) (fun h1 => ?_))
  · have h1' : 65536 < sumB (numsQ L) := by simp at h1; omega
    rw [show encQ L = ([], 5) by unfold encQ; rw [if_pos h0, if_pos h1']]
    refine awp_seq_region (fun Z hZ => ?_)
    refine sx_assign rfl rfl ?_
    refine sx_assign rfl rfl ?_
    refine sx_nil (hZ _ _ ?_)
    refine awp_forget [(2, _), (3, _)] (Kn.cons rfl (Kn.cons rfl (Kn.nil))) ?_
    refine awp_ret ?_
    repeat (with_reducible (first | refine nx_then_ret ?_ | refine nx_block_ret ?_ | refine nx_scope_ret ?_))
    exact nx_unmark [] trivial (nx_ret2 rfl rfl rfl rfl)
  have h1' : ¬ 65536 < sumB (numsQ L) := by simp at h1; omega
  rw [show encQ L = (allB (numsQ L), 0) by unfold encQ; rw [if_pos h0, if_neg h1']]
  refine awp_skip ?_
  repeat (with_reducible (first | refine nx_block_normal ?_ | refine nx_scope_normal ?_))
  with_reducible first | refine nx_normal ?_ | refine nx_normalM ?_
  refine awp_seq_region (fun Z hZ => ?_)
  refine sx_alloc tyZ55 rfl (fun g1 => ?_)
  refine sx_nil (hZ _ _ ?_)
  refine awp_forget [(0, _), (5, _)] (Kn.cons rfl (Kn.cons rfl (Kn.nil))) ?_
  refine awp_seq ?_
  refine awp_seq_region (fun Z hZ => ?_)
  refine sx_move rfl rfl ?_
  refine sx_callO [] (.own g1 55 [.slice none 0 0] :: T) (numbers_fn A L.length c) rfl (HLe.refl _) rfl ?_
  rintro v H' ⟨g, rfl, rfl⟩
  refine sx_heap (.own g1 55 [.slice none 0 0] :: .ro g 0 [.slice A L.length c] :: T) ((HLe.comm3 [_] [_] T).trans (HLe.toRo [] _)) ?_
  refine sx_nil (hZ _ _ ?_)
  refine awp_forget [(5, _), (16, _)] (Kn.cons rfl (Kn.cons rfl (Kn.nil))) ?_
  refine awp_block ?_
  refine awp_range (fun k H => ∃ v, RowOk v k ∧ H = .own g1 55 [v] :: rowE v 48 1 (uqL ((numsQ L).take k))) [] (fun _ _ => False) [.own g1 55 [.slice none 0 0]] (numbers_it g A c L T hA hT (by omega) hE) rfl (fun k H ⟨v, _, h⟩ => by subst h; exact .cons rfl (rowE_wrs _ _ _ _)) (fun _ _ h => h.elim) Ro.nil (fun x hx => by rcases List.mem_cons.1 hx with rfl | hx; rfl; exact hro x hx) (fun k vs h => by rw [List.getElem?_map] at h; cases hk : (numsQ L)[k]? with | none => rw [hk] at h; cases h | some x => rw [hk] at h; obtain rfl := Option.some.inj h; rfl) rfl ⟨_, RowOk.nil, rfl⟩ (by rw [List.append_nil]; exact HLe.refl _) rfl ?_ ?_ (fun _ _ _ h => h.elim)
  · rintro k vs H hk ⟨v, hv, rfl⟩ l w1
    rw [List.getElem?_map] at hk
    cases hkx : (numsQ L)[k]? with
    | none => rw [hkx] at hk; cases hk
    | some x =>
      rw [hkx] at hk
      obtain rfl := Option.some.inj hk
      have hlt : k < (numsQ L).length := (List.getElem?_eq_some_iff.1 hkx).1
      have htk : uqL ((numsQ L).take (k + 1)) = uqL ((numsQ L).take k) ++ [uq x] := by
        rw [List.take_succ_eq_append_getElem hlt, (List.getElem?_eq_some_iff.1 hkx).2]; simp

      refine awp_region (fun Z hZ => ?_)
      refine sx_assign rfl rfl ?_
      refine sx_nil (hZ _ _ ?_)
      refine nx_forget [(5, _), (6, _)] (Kn.cons rfl (Kn.cons rfl (Kn.nil))) ?_
      refine nx_assign [] Wrs.nil (HLe.refl _) fun w2 => ?_
      refine awp_block ?_
      refine awp_heap (.own g1 55 [v] :: rowE v 48 1 (uqL ((numsQ L).take k))) (by rw [List.append_nil]; exact HLe.refl _) ?_
      refine awp_region (fun Z hZ => ?_)
      first | refine sx_load 0 rfl rfl tyA55 tyS55 rfl rfl ?_
      refine sx_move rfl rfl ?_
      refine sx_buildSlice Try.underlying55 tyS48 tyZ48 rfl rfl rfl rfl (by first | (simp only [List.take_succ_cons, List.take_zero, List.drop_succ_cons, List.drop_zero, List.cons_append, List.nil_append, List.append_nil, List.length_cons, List.length_nil, Nat.reduceAdd, Nat.zero_add, Nat.add_zero, Value.cells, wrV, zrep_one, List.replicate_succ, List.replicate_zero, Nat.reduceMul, Nat.zero_mul]; first | done | rfl) | rfl) rfl (fun g2 => ?_)
      refine sx_appendE [_, _] elemU64 rfl hv (by rw [uqL_len, List.length_take, Nat.min_eq_left (by omega)]; omega) rfl (fun w hw => rd_own (i := 0) (xs := [uq x]) rfl rfl hw) rfl (by show _ ≤ 9223372036854775807; omega) (by omega) (HLe.refl _) rfl (fun v2 hv2 => ?_)
      obtain ⟨g4, c4, rfl⟩ := hv2.some (by omega)
      first | refine sx_store1 0 rfl rfl rfl tyS55 rfl (by first | (simp only [List.length_cons, List.length_nil, Nat.reduceAdd, Nat.zero_add, Nat.add_zero]; first | done | rfl) | rfl) (by first | (simp only [List.set_cons_succ, List.set_cons_zero, Nat.reduceAdd, Nat.add_zero, Nat.zero_add]; first | done | rfl) | rfl) (by first | (simp only [List.set_cons_succ, List.set_cons_zero]; first | done | rfl) | rfl) ?_ | refine sx_store1 1 rfl rfl rfl tyS55 rfl (by first | (simp only [List.length_cons, List.length_nil, Nat.reduceAdd, Nat.zero_add, Nat.add_zero]; first | done | rfl) | rfl) (by first | (simp only [List.set_cons_succ, List.set_cons_zero, Nat.reduceAdd, Nat.add_zero, Nat.zero_add]; first | done | rfl) | rfl) (by first | (simp only [List.set_cons_succ, List.set_cons_zero]; first | done | rfl) | rfl) ?_
      refine sx_nil (hZ _ _ ?_)
      refine nx_forget [] (Kn.nil) ?_
      refine nx_block_normal ?_
      exact nx_next _ ⟨.slice (some ⟨g4, 0, none⟩) (k + 1) c4, RowOk.mk _ _ _, rfl⟩ (by rw [htk]; exact HLe.drop 1 rfl)
  · rintro D H ⟨v, hv, rfl⟩
    rw [List.length_map] at hv ⊢
    rw [List.take_length]
    obtain ⟨gv, cv, rfl⟩ := hv.some (by omega)
    refine nx_block_normal ?_
    repeat (with_reducible (first | refine nx_block_normal ?_ | refine nx_scope_normal ?_))
    with_reducible first | refine nx_normal ?_ | refine nx_normalM ?_

    refine awp_heap (.ob D isDef :: .own g1 55 [.slice (some ⟨gv, 0, none⟩) (numsQ L).length cv] :: .ob gv (RowP 48 1 (numsQ L).length cv (uqL (numsQ L))) :: .ro g 0 [.slice A L.length c] :: T) (by rw [List.append_nil]; exact HLe.refl _) ?_
    refine awp_seq_region (fun Z hZ => ?_)
    first | refine sx_load 0 rfl rfl tyA55 tyS55 rfl rfl ?_ | refine sx_load 1 rfl rfl tyA55 tyS55 rfl rfl ?_ | refine sx_load 2 rfl rfl tyA55 tyS55 rfl rfl ?_ | refine sx_load 3 rfl rfl tyA55 tyS55 rfl rfl ?_
    refine sx_callO [_] (.ob D isDef :: .own g1 55 [.slice (some ⟨gv, 0, none⟩) (numsQ L).length cv] :: .ro g 0 [.slice A L.length c] :: T) (all_fn gv cv (numsQ L) hnl (by omega)) rfl (HLe.comm3 [_, _] [_] _) rfl ?_
    rintro u H' ⟨hu, rfl⟩
    rw [rowE_flt]
    obtain ⟨gu, cu, rfl⟩ := hu.some (allB_pos L)
    refine sx_strB (l := allB (numsQ L)) Try.underlying59 Try.underlying5 Try.underlying9 rfl (fun w hw => rd_row (i := 0) rfl hw) rfl ?_
    refine sx_assign rfl rfl ?_
    refine sx_assign rfl rfl ?_
    refine sx_nil (hZ _ _ ?_)
    refine awp_forget [(2, _), (3, _)] (Kn.cons rfl (Kn.cons rfl (Kn.nil))) ?_
    refine awp_ret ?_
    repeat (with_reducible (first | refine nx_then_ret ?_ | refine nx_block_ret ?_ | refine nx_scope_ret ?_))
    exact nx_unmark [1] ⟨rfl, trivial⟩ (nx_ret2 rfl rfl rfl rfl)
end Go.Proofs.Ytfffhnefjaomnaa
