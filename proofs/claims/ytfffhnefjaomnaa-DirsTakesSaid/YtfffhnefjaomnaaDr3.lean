/- The walks of package dirs: Encode and Size. Conditions: the lists are not too long. -/
import Derived.Test.YtfffhnefjaomnaaDr2
namespace Go.Proofs.Ytfffhnefjaomnaa
open Go.RowKit
set_option linter.unusedVariables false
set_option linter.unusedSimpArgs false
theorem elemU64 : ElemOk Try.prog 55 48 1 8 := ElemOk.mk_ (z := .int .u64 0) Try.underlying55 (by kernel_rfl) rfl (by omega)
theorem uqL_len (l : List Nat) : (uqL l).length = l.length := by simp
def sumB (l : List Nat) : Nat := (allB l).length
theorem sumB_take {xs : List Nat} {k : Nat} (h : k < xs.length) : sumB (xs.take (k + 1)) = sumB (xs.take k) + (vb xs[k]).length := by unfold sumB; rw [allB_take h]; simp
theorem allB_mono (xs : List Nat) (k : Nat) : sumB (xs.take k) ≤ sumB xs := by
  have := congrArg (fun l => (allB l).length) (List.take_append_drop k xs)
  simp only [allB, List.flatMap_append, List.length_append] at this
  unfold sumB allB
  omega
def sizeQ (L : List En) : Nat := if rowC L = 0 then sumB (numsQ L) else 0
theorem dsize_fn (A : Option Addr) (c : Nat) (L : List En) (T : Heap) (hA : ArgOk A L.length) (hT : 0 < L.length → T = roE A (ecells L)) (hro : Ro T) (hL : L.length ≤ 100000) (hE : EnsOk L) :
    Fn Try.prog 12 [.slice A L.length c] T fun v _ => v = iq (sizeQ L) := by
  have hmax : L.length ≤ maxLen := by show _ ≤ 9223372036854775807; omega
  have hnl := numsQ_lt hE (by omega)
  have hall := allB_len hnl
  have hlen := numsQ_len L
  refine Fn.enterM (n := 16) Try.func12 rfl (by kernel_rfl) rfl (fun w0 => ?_)

  refine awp_seq_region (fun Z hZ => ?_)
  refine sx_assign rfl rfl ?_
  refine sx_nil (hZ _ _ ?_)
  refine awp_forget [(0, _)] (Kn.cons rfl (Kn.nil)) ?_
  refine awp_seq ?_
  refine awp_seq_region (fun Z hZ => ?_)
  refine sx_move rfl rfl ?_
  refine sx_callPT T (erow_fn A c L T hA hT hro hmax hE) rfl (List.Sublist.refl _) hro rfl ?_
  first | refine sx_neq rfl rfl rfl ?_ | refine sx_sneq rfl rfl rfl ?_
  refine sx_nil (hZ _ _ ?_)
  refine awp_forget [(0, _), (7, _)] (Kn.cons rfl (Kn.cons rfl (Kn.nil))) ?_
  first | refine awp_cond rfl (fun h => ?_) (fun h => ?_) | refine awp_seq (awp_cond rfl (fun h => ?_) (fun h => ?_))
  · have h0 : rowC L ≠ 0 := by simp at h; omega
    rw [show sizeQ L = 0 by unfold sizeQ; rw [if_neg h0]]
    refine awp_seq_region (fun Z hZ => ?_)
    refine sx_assign rfl rfl ?_
    refine sx_nil (hZ _ _ ?_)
    refine awp_forget [(2, _)] (Kn.cons rfl (Kn.nil)) ?_
    refine awp_ret ?_
    repeat (with_reducible (first | refine nx_then_ret ?_ | refine nx_block_ret ?_ | refine nx_scope_ret ?_))
    exact nx_unmark [] trivial (nx_ret1 rfl rfl rfl)
  have h0 : rowC L = 0 := by simp at h; omega
  rw [show sizeQ L = sumB (numsQ L) by unfold sizeQ; rw [if_pos h0]]
  refine awp_skip ?_
  repeat (with_reducible (first | refine nx_block_normal ?_ | refine nx_scope_normal ?_))
  with_reducible first | refine nx_normal ?_ | refine nx_normalM ?_
  refine awp_seq_region (fun Z hZ => ?_)
  refine sx_alloc tyZ3 rfl (fun g1 => ?_)
  first | refine sx_store1 0 rfl rfl rfl tyS3 rfl (by first | (simp only [List.length_cons, List.length_nil, Nat.reduceAdd, Nat.zero_add, Nat.add_zero]; first | done | rfl) | rfl) (by first | (simp only [List.set_cons_succ, List.set_cons_zero, Nat.reduceAdd, Nat.add_zero, Nat.zero_add]; first | done | rfl) | rfl) (by first | (simp only [List.set_cons_succ, List.set_cons_zero]; first | done | rfl) | rfl) ?_
  refine sx_nil (hZ _ _ ?_)
  refine awp_forget [(0, _), (3, _)] (Kn.cons rfl (Kn.cons rfl (Kn.nil))) ?_
  refine awp_seq ?_
  refine awp_seq_region (fun Z hZ => ?_)
  refine sx_move rfl rfl ?_
  refine sx_callO [] (.own g1 3 [iq 0] :: T) (numbers_fn A L.length c) rfl (HLe.refl _) rfl ?_
  rintro v H' ⟨g, rfl, rfl⟩
  refine sx_heap (.own g1 3 [iq 0] :: .ro g 0 [.slice A L.length c] :: T) ((HLe.comm3 [_] [_] T).trans (HLe.toRo [] _)) ?_
  refine sx_nil (hZ _ _ ?_)
  refine awp_forget [(3, _), (9, _)] (Kn.cons rfl (Kn.cons rfl (Kn.nil))) ?_
  refine awp_block ?_
  refine awp_range (fun k H => H = [.own g1 3 [iq (sumB ((numsQ L).take k))]]) [] (fun _ _ => False) _ (numbers_it g A c L T hA hT hL hE) rfl (fun k H h => by subst h; exact .cons rfl .nil) (fun _ _ h => h.elim) Ro.nil (fun x hx => by rcases List.mem_cons.1 hx with rfl | hx; rfl; exact hro x hx) (fun k vs h => by rw [List.getElem?_map] at h; cases hk : (numsQ L)[k]? with | none => rw [hk] at h; cases h | some x => rw [hk] at h; obtain rfl := Option.some.inj h; rfl) rfl rfl (by rw [List.append_nil]; exact HLe.refl _) rfl ?_ ?_ (fun _ _ _ h => h.elim)
  · intro k vs H hk hH l w1
    subst hH
    rw [List.getElem?_map] at hk
    cases hkx : (numsQ L)[k]? with
    | none => rw [hkx] at hk; cases hk
    | some x =>
      rw [hkx] at hk
      obtain rfl := Option.some.inj hk
      have hlt : k < (numsQ L).length := (List.getElem?_eq_some_iff.1 hkx).1
      have hxe : (numsQ L)[k] = x := (List.getElem?_eq_some_iff.1 hkx).2
      have hx : x < 18446744073709551616 := hnl x (List.mem_of_getElem? hkx)
      have hs := sumB_take hlt
      rw [hxe] at hs
      have hm := allB_mono (numsQ L) (k + 1)
      unfold sumB at hm hs

      refine awp_region (fun Z hZ => ?_)
      refine sx_assign rfl rfl ?_
      refine sx_nil (hZ _ _ ?_)
      refine nx_forget [(3, _), (4, _)] (Kn.cons rfl (Kn.cons rfl (Kn.nil))) ?_
      refine nx_assign [] Wrs.nil (HLe.refl _) fun w2 => ?_
      refine awp_block ?_
      refine awp_heap [.own g1 3 [iq (sumB ((numsQ L).take k))]] (HLe.refl _) ?_
      refine awh_region [0, 1, 2, 3] [4] mixed (by kernel_rfl) rfl rfl (fun Z hZ => ?_)
      first | refine sq_load 0 rfl rfl tyA3 tyS3 rfl rfl ?_
      refine sq_move rfl rfl ?_
      refine sq_callP (vsize_fn x hx) rfl rfl ?_
      refine sq_add rfl rfl ((sumB ((numsQ L).take (k + 1)) : Nat) : Int) (by unfold sumB; rw [IntWalk.i64_in _ (by omega)]; omega) rfl ?_
      refine sq_nil ?_
      first | refine sx_store1 0 rfl rfl rfl tyS3 rfl (by first | (simp only [List.length_cons, List.length_nil, Nat.reduceAdd, Nat.zero_add, Nat.add_zero]; first | done | rfl) | rfl) (by first | (simp only [List.set_cons_succ, List.set_cons_zero, Nat.reduceAdd, Nat.add_zero, Nat.zero_add]; first | done | rfl) | rfl) (by first | (simp only [List.set_cons_succ, List.set_cons_zero]; first | done | rfl) | rfl) ?_
      refine sx_nil (hZ _ _ ?_)
      refine nx_forget [] (Kn.nil) ?_
      refine nx_block_normal ?_
      exact nx_next _ rfl (HLe.refl _)
  · intro D H hH
    subst hH
    rw [List.length_map, List.take_length]
    refine nx_block_normal ?_
    repeat (with_reducible (first | refine nx_block_normal ?_ | refine nx_scope_normal ?_))
    with_reducible first | refine nx_normal ?_ | refine nx_normalM ?_

    refine awp_heap (.ob D isDef :: .own g1 3 [iq (sumB (numsQ L))] :: (.ro g 0 [.slice A L.length c] :: T)) (by rw [List.append_nil]; exact HLe.refl _) ?_
    refine awp_seq_region (fun Z hZ => ?_)
    first | refine sx_load 0 rfl rfl tyA3 tyS3 rfl rfl ?_ | refine sx_load 1 rfl rfl tyA3 tyS3 rfl rfl ?_ | refine sx_load 2 rfl rfl tyA3 tyS3 rfl rfl ?_ | refine sx_load 3 rfl rfl tyA3 tyS3 rfl rfl ?_
    refine sx_assign rfl rfl ?_
    refine sx_nil (hZ _ _ ?_)
    refine awp_forget [(2, _)] (Kn.cons rfl (Kn.nil)) ?_
    refine awp_ret ?_
    repeat (with_reducible (first | refine nx_then_ret ?_ | refine nx_block_ret ?_ | refine nx_scope_ret ?_))
    exact nx_unmark [0] ⟨rfl, trivial⟩ (nx_ret1 rfl rfl rfl)
end Go.Proofs.Ytfffhnefjaomnaa
