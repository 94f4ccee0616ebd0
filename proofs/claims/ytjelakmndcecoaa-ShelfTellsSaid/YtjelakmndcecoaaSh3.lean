/- The walks of package shelf: drop, Look. No conditions but of lengths. -/
import Derived.Test.YtjelakmndcecoaaSh2
namespace Go.Proofs.Ytjelakmndcecoaa
open Go.RowKit
set_option linter.unusedVariables false
set_option linter.unusedSimpArgs false
set_option maxRecDepth 100000
abbrev keyE (g : Nat) (k : Ky) : Ent := .own g 47 [uq k.1, uq k.2]
theorem shdrop_fn (B : Bk) (most : Nat) (S : Sh) (X : List Item) (T : Heap) (L : List LI.Item) (tx : Nat → List UInt8) (k : Ky) (hS : ShOk most S X T L tx) :
    Fn Try.prog 30 [ptr B.g 0, LI.encK k] (shH B most S)
    fun v H' => ∃ S', v = .tuple #[] ∧ H' = shH B most S' ∧ ShOk most S' (rDrop X k) T (LI.rDrop L k) tx ∧ S'.nx = S.nx ∧ S'.hi = S.hi ∧ S'.mi = S.mi := by
  obtain ⟨hk, hhk⟩ : ∃ hk, LI.hasK L k = hk := ⟨_, rfl⟩
  have hpk := LI.peekL_fn B.cg B.cb most S.s L k hS.rep
  have hdr := LI.drop_fn B.cg B.cb most S.s L k hS.rep
  rw [hhk] at hpk hdr
  refine Fn.enter (N := 27) Try.func30 rfl (by kernel_rfl) rfl (fun w0 => ?_)

  refine awp_seq_region (fun Z hZ => ?_)
  refine sx_box rfl rfl rfl (fun g1 => ?_)
  refine sx_nil (hZ _ _ ?_)
  refine awp_forget [(0, _), (3, _)] (Kn.cons rfl (Kn.cons rfl (Kn.nil))) ?_
  refine aww_seq_region _ [(0, true), (1, true), (2, true), (3, true), (4, true), (5, false), (6, true), (7, true), (8, true), (9, true), (10, true)] mixed (by kernel_rfl) (HLe.pick [0, 1] (by simp) (by simp only [pick, List.filterMap_cons, List.filterMap_nil, List.getElem?_cons_succ, List.getElem?_cons_zero]; rfl)) (fun Z hZ => ?_)
  refine tw_p rfl ?_
  refine sv_move rfl rfl ?_
  refine sv_nil ?_
  refine tw_p rfl ?_
  refine sv_nilCheck rfl rfl ?_
  refine sv_nil ?_
  refine tw_p rfl ?_
  refine sv_fieldAddr rfl tyF60_0 (by first | (simp only [Nat.reduceAdd, Nat.add_zero, Nat.zero_add]; first | done | rfl) | rfl) rfl ?_
  refine sv_nil ?_
  refine tw_p rfl ?_
  first | refine sv_load 0 rfl rfl tyA55 tyS55 rfl rfl ?_ | refine sv_load 1 rfl rfl tyA55 tyS55 rfl rfl ?_
  refine sv_nil ?_
  refine tw_p rfl ?_
  first | refine sv_loadA 0 rfl rfl tyA47 tyS47 (by first | (simp only [List.length_cons, List.length_nil, Nat.reduceAdd, Nat.zero_add, Nat.add_zero]; first | done | rfl) | rfl) (by first | (simp only [List.take_succ_cons, List.take_zero, List.drop_succ_cons, List.drop_zero, List.cons_append, List.nil_append, List.append_nil, List.length_cons, List.length_nil, Nat.reduceAdd, Nat.zero_add, Nat.add_zero, Value.cells, wrV]; first | done | rfl) | rfl) rfl ?_ | refine sv_loadA 1 rfl rfl tyA47 tyS47 (by first | (simp only [List.length_cons, List.length_nil, Nat.reduceAdd, Nat.zero_add, Nat.add_zero]; first | done | rfl) | rfl) (by first | (simp only [List.take_succ_cons, List.take_zero, List.drop_succ_cons, List.drop_zero, List.cons_append, List.nil_append, List.append_nil, List.length_cons, List.length_nil, Nat.reduceAdd, Nat.zero_add, Nat.add_zero, Value.cells, wrV]; first | done | rfl) | rfl) rfl ?_
  refine sv_nil ?_
  refine tw_g rfl ?_
  refine sx_callK [3, 4] [0, 1, 2] hpk rfl rfl (by simp) rfl ?_
  rintro v H' ⟨rfl, rfl⟩
  refine sx_heap (_ :: _ :: _ :: LI.cacheH B.cg B.cb most S.s) (HLe.pick [2, 3, 4, 0, 1] (by simp) rfl) ?_
  refine sx_nil ⟨HLe.pick [0, 1] (by simp) rfl, ?_⟩
  refine tw_p rfl ?_
  refine sv_move rfl rfl ?_
  refine sv_nil ?_
  refine tw_p rfl ?_
  refine sv_extract rfl rfl rfl ?_
  refine sv_nil ?_
  refine tw_p rfl ?_
  refine sv_extract rfl rfl rfl ?_
  refine sv_nil ?_
  refine tw_p rfl ?_
  refine sv_assign rfl rfl ?_
  refine sv_nil ?_
  refine tw_p rfl ?_
  refine sv_assign rfl rfl ?_
  refine sv_nil ?_
  refine tw_nil (hZ _ _ ?_)
  refine awp_forget [(0, _), (3, _), (4, _), (5, _)] (Kn.cons rfl (Kn.cons rfl (Kn.cons rfl (Kn.cons rfl (Kn.nil))))) ?_

  refine awp_seq_region (fun Z hZ => ?_)
  refine sx_move rfl rfl ?_
  refine sx_nil (hZ _ _ ?_)
  refine awp_forget [(0, _), (3, _), (4, _), (15, _)] (Kn.cons rfl (Kn.cons rfl (Kn.cons rfl (Kn.cons rfl (Kn.nil))))) ?_
  first | refine awp_cond rfl (fun h => ?_) (fun h => ?_) | refine awp_seq (awp_cond rfl (fun h => ?_) (fun h => ?_))
  · subst h
    refine awp_seq_region (fun Z hZ => ?_)
    refine sx_move rfl rfl ?_
    refine sx_nilCheck rfl rfl ?_
    refine sx_fieldAddr rfl tyF60_1 (by first | (simp only [Nat.reduceAdd, Nat.add_zero, Nat.zero_add]; first | done | rfl) | rfl) rfl ?_
    first | refine sx_load 0 rfl rfl tyA58 tyS58 rfl rfl ?_ | refine sx_load 1 rfl rfl tyA58 tyS58 rfl rfl ?_ | refine sx_load 2 rfl rfl tyA58 tyS58 rfl rfl ?_ | refine sx_load 3 rfl rfl tyA58 tyS58 rfl rfl ?_ | refine sx_load 4 rfl rfl tyA58 tyS58 rfl rfl ?_
    refine sx_move rfl rfl ?_
    refine sx_deleteW 2 keyI Try.underlying58 (LI.valK L k) rfl rfl rfl rfl ?_
    refine sx_nil (hZ _ _ ?_)
    refine awp_forget [(0, _), (3, _)] (Kn.cons rfl (Kn.cons rfl (Kn.nil))) ?_
    refine aww_region _ [(0, true), (1, true), (2, true), (3, true), (4, true), (5, false)] mixed (by kernel_rfl) (HLe.pick [0, 1] (by simp) (by simp only [pick, List.filterMap_cons, List.filterMap_nil, List.getElem?_cons_succ, List.getElem?_cons_zero]; rfl)) (fun Z hZ => ?_)
    refine tw_p rfl ?_
    refine sv_move rfl rfl ?_
    refine sv_nil ?_
    refine tw_p rfl ?_
    refine sv_nilCheck rfl rfl ?_
    refine sv_nil ?_
    refine tw_p rfl ?_
    refine sv_fieldAddr rfl tyF60_0 (by first | (simp only [Nat.reduceAdd, Nat.add_zero, Nat.zero_add]; first | done | rfl) | rfl) rfl ?_
    refine sv_nil ?_
    refine tw_p rfl ?_
    first | refine sv_load 0 rfl rfl tyA55 tyS55 rfl rfl ?_ | refine sv_load 1 rfl rfl tyA55 tyS55 rfl rfl ?_
    refine sv_nil ?_
    refine tw_p rfl ?_
    first | refine sv_loadA 0 rfl rfl tyA47 tyS47 (by first | (simp only [List.length_cons, List.length_nil, Nat.reduceAdd, Nat.zero_add, Nat.add_zero]; first | done | rfl) | rfl) (by first | (simp only [List.take_succ_cons, List.take_zero, List.drop_succ_cons, List.drop_zero, List.cons_append, List.nil_append, List.append_nil, List.length_cons, List.length_nil, Nat.reduceAdd, Nat.zero_add, Nat.add_zero, Value.cells, wrV]; first | done | rfl) | rfl) rfl ?_ | refine sv_loadA 1 rfl rfl tyA47 tyS47 (by first | (simp only [List.length_cons, List.length_nil, Nat.reduceAdd, Nat.zero_add, Nat.add_zero]; first | done | rfl) | rfl) (by first | (simp only [List.take_succ_cons, List.take_zero, List.drop_succ_cons, List.drop_zero, List.cons_append, List.nil_append, List.append_nil, List.length_cons, List.length_nil, Nat.reduceAdd, Nat.zero_add, Nat.add_zero, Value.cells, wrV]; first | done | rfl) | rfl) rfl ?_
    refine sv_nil ?_
    refine tw_g rfl ?_
    refine sx_callK [3, 4] [0, 1, 2] hdr rfl rfl (by simp) rfl ?_
    rintro v H' ⟨s', rfl, hR, rfl⟩
    refine sx_heap (_ :: _ :: _ :: LI.cacheH B.cg B.cb most s') (HLe.pick [2, 3, 4, 0, 1] (by simp) rfl) ?_
    refine sx_nil ⟨HLe.pick [0, 1] (by simp) rfl, ?_⟩
    refine tw_nil (hZ _ _ ?_)
    refine nx_forget [] (Kn.nil) ?_
    exact nx_end0h (shH B most { S with s := s', M := adel S.M (LI.valK L k) }) rfl (HLe.pick [1, 2, 3, 4] (by simp) rfl) ⟨_, rfl, rfl, hS.drop hhk hR, rfl, rfl, rfl⟩
  · subst h
    refine awp_skip ?_
    obtain ⟨e1, e2⟩ := hS.drop0 hhk
    exact nx_end0h (shH B most S) rfl (HLe.pick [1, 2, 3, 4] (by simp) rfl) ⟨S, rfl, rfl, by rw [e1, e2]; exact hS, rfl, rfl, rfl⟩
/-- What looking for a key hands back. -/
def lookL (X : List Item) (k : Ky) : List En := if hasK X k then decL (valK X k) else []
def lookS (S : Sh) (X : List Item) (k : Ky) : Nat × Nat := if hasK X k then (S.hi + 1, S.mi) else (S.hi, S.mi + 1)
theorem look_r {M : List (Nat × Rw)} {n : Nat} {r : Rw} (h : aget M n = some r) : (if false = true then Value.tuple #[((aget M n).map encR).getD (encR rw0), .bool (aget M n).isSome] else ((aget M n).map encR).getD (encR rw0)) = encR r := by
  rw [h]; rfl
theorem SlOk.nil {A : Option Addr} {n : Nat} (h : SlOk A n) : A = none → n = 0 := by
  rcases h with ⟨rfl, rfl⟩ | ⟨g, o, rfl⟩
  · exact fun _ => rfl
  · exact fun h => by cases h
theorem shlook_fn (B : Bk) (most : Nat) (S : Sh) (X : List Item) (T : Heap) (k : Ky) (hT : Ro T) (hS : ShIs most S X T) (hb : S.hi ≤ 1000000 ∧ S.mi ≤ 1000000) :
    Fn Try.prog 17 [ptr B.g 0, LI.encK k] (shH B most S ++ T)
    fun v H' => ∃ v1 S', v = .tuple #[v1, .bool (hasK X k)] ∧ RowOk v1 (lookL X k).length ∧ H' = rowE v1 65 4 (ecells (lookL X k)) ++ shH B most S' ∧ ShIs most S' (rGetL X k) T ∧ S'.nx = S.nx ∧ (S'.hi, S'.mi) = lookS S X k := by
  obtain ⟨L, tx, hS⟩ := hS
  obtain ⟨hk, hhk⟩ : ∃ hk, LI.hasK L k = hk := ⟨_, rfl⟩
  have hx := hS.has_eq k
  have hget := LI.get_fn B.cg B.cb most S.s L k hS.rep
  rw [hhk] at hget hx
  refine Fn.enter (N := 42) Try.func17 rfl (by kernel_rfl) rfl (fun w0 => ?_)

  refine awp_seq_region (fun Z hZ => ?_)
  refine sx_box rfl rfl rfl (fun g1 => ?_)
  refine sx_assign rfl rfl ?_
  refine sx_assign rfl rfl ?_
  refine sx_nil (hZ _ _ ?_)
  refine awp_forget [(0, _), (3, _)] (Kn.cons rfl (Kn.cons rfl (Kn.nil))) ?_
  refine awp_seq ?_
  refine awp_seq_region (fun Z hZ => ?_)
  refine sx_move rfl rfl ?_
  refine sx_ptrNil Try.underlying23 rfl rfl ?_
  refine sx_nil (hZ _ _ ?_)
  refine awp_forget [(0, _), (3, _), (9, _)] (Kn.cons rfl (Kn.cons rfl (Kn.cons rfl (Kn.nil)))) ?_
  first | refine awp_cond rfl (fun h => ?_) (fun h => ?_) | refine awp_seq (awp_cond rfl (fun h => ?_) (fun h => ?_))
  · cases h
  refine awp_skip ?_
  repeat (with_reducible (first | refine nx_block_normal ?_ | refine nx_scope_normal ?_))
  with_reducible first | refine nx_normal ?_ | refine nx_normalM ?_
  refine aww_seq_region _ [(0, true), (1, true), (2, true), (3, true), (4, true), (5, false), (6, true), (7, true), (8, true), (9, true), (10, true)] mixed (by kernel_rfl) (HLe.pick [0, 1] (by simp) (by simp only [pick, List.filterMap_cons, List.filterMap_nil, List.getElem?_cons_succ, List.getElem?_cons_zero]; rfl)) (fun Z hZ => ?_)
  refine tw_p rfl ?_
  refine sv_move rfl rfl ?_
  refine sv_nil ?_
  refine tw_p rfl ?_
  refine sv_nilCheck rfl rfl ?_
  refine sv_nil ?_
  refine tw_p rfl ?_
  refine sv_fieldAddr rfl tyF60_0 (by first | (simp only [Nat.reduceAdd, Nat.add_zero, Nat.zero_add]; first | done | rfl) | rfl) rfl ?_
  refine sv_nil ?_
  refine tw_p rfl ?_
  first | refine sv_load 0 rfl rfl tyA55 tyS55 rfl rfl ?_ | refine sv_load 1 rfl rfl tyA55 tyS55 rfl rfl ?_
  refine sv_nil ?_
  refine tw_p rfl ?_
  first | refine sv_loadA 0 rfl rfl tyA47 tyS47 (by first | (simp only [List.length_cons, List.length_nil, Nat.reduceAdd, Nat.zero_add, Nat.add_zero]; first | done | rfl) | rfl) (by first | (simp only [List.take_succ_cons, List.take_zero, List.drop_succ_cons, List.drop_zero, List.cons_append, List.nil_append, List.append_nil, List.length_cons, List.length_nil, Nat.reduceAdd, Nat.zero_add, Nat.add_zero, Value.cells, wrV]; first | done | rfl) | rfl) rfl ?_ | refine sv_loadA 1 rfl rfl tyA47 tyS47 (by first | (simp only [List.length_cons, List.length_nil, Nat.reduceAdd, Nat.zero_add, Nat.add_zero]; first | done | rfl) | rfl) (by first | (simp only [List.take_succ_cons, List.take_zero, List.drop_succ_cons, List.drop_zero, List.cons_append, List.nil_append, List.append_nil, List.length_cons, List.length_nil, Nat.reduceAdd, Nat.zero_add, Nat.add_zero, Value.cells, wrV]; first | done | rfl) | rfl) rfl ?_
  refine sv_nil ?_
  refine tw_g rfl ?_
  refine sx_callA (LI.cacheH B.cg B.cb most S.s) [] (_ :: _ :: _ :: T) (by rw [List.append_nil]; exact hget) rfl (HLe.pickT (A := [_, _, _, _, _]) [3, 4, 0, 1, 2] (by simp) rfl hT) (List.nil_sublist _) Ro.nil rfl ?_
  rintro v H' ⟨s', rfl, hR, rfl⟩
  refine sx_heap (_ :: shelfE B S.nx S.hi S.mi :: rowsE B.b S.M :: (LI.cacheH B.cg B.cb most s' ++ T)) (HLe.pickT (A := [_, _, _, _, _]) [2, 3, 4, 0, 1] (by simp) rfl hT) ?_
  refine sx_nil ⟨HLe.pick [0, 1] (by simp) rfl, ?_⟩
  refine tw_p rfl ?_
  refine sv_move rfl rfl ?_
  refine sv_nil ?_
  refine tw_p rfl ?_
  refine sv_extract rfl rfl rfl ?_
  refine sv_nil ?_
  refine tw_p rfl ?_
  refine sv_extract rfl rfl rfl ?_
  refine sv_nil ?_
  refine tw_p rfl ?_
  refine sv_assign rfl rfl ?_
  refine sv_nil ?_
  refine tw_p rfl ?_
  refine sv_assign rfl rfl ?_
  refine sv_nil ?_
  refine tw_nil (hZ _ _ ?_)
  refine awp_forget [(0, _), (6, _), (7, _)] (Kn.cons rfl (Kn.cons rfl (Kn.cons rfl (Kn.nil)))) ?_
  refine awp_seq ?_
  refine awp_seq_region (fun Z hZ => ?_)
  refine sx_move rfl rfl ?_
  refine sx_not rfl rfl ?_
  refine sx_nil (hZ _ _ ?_)
  refine awp_forget [(0, _), (6, _), (20, _)] (Kn.cons rfl (Kn.cons rfl (Kn.cons rfl (Kn.nil)))) ?_
  first | refine awp_cond rfl (fun h => ?_) (fun h => ?_) | refine awp_seq (awp_cond rfl (fun h => ?_) (fun h => ?_))
  · have hf : hk = false := by simpa using h
    subst hf
    have e1 : rGetL X k = X := by unfold rGetL; rw [← hx]; rfl
    have e2 : lookL X k = [] := by unfold lookL; rw [← hx]; rfl
    refine awp_seq_region (fun Z hZ => ?_)
    refine sx_move rfl rfl ?_
    refine sx_nilCheck rfl rfl ?_
    refine sx_fieldAddr rfl tyF60_4 (by first | (simp only [Nat.reduceAdd, Nat.add_zero, Nat.zero_add]; first | done | rfl) | rfl) rfl ?_
    first | refine sx_load 0 rfl rfl tyA3 tyS3 rfl rfl ?_ | refine sx_load 1 rfl rfl tyA3 tyS3 rfl rfl ?_ | refine sx_load 2 rfl rfl tyA3 tyS3 rfl rfl ?_ | refine sx_load 3 rfl rfl tyA3 tyS3 rfl rfl ?_ | refine sx_load 4 rfl rfl tyA3 tyS3 rfl rfl ?_
    refine sx_add rfl rfl ((S.mi + 1 : Nat) : Int) (by rw [IntWalk.i64_in _ (by omega)]; omega) rfl ?_
    refine sx_nilCheck rfl rfl ?_
    refine sx_fieldAddr rfl tyF60_4 (by first | (simp only [Nat.reduceAdd, Nat.add_zero, Nat.zero_add]; first | done | rfl) | rfl) rfl ?_
    first | refine sx_store1 0 rfl rfl rfl tyS3 rfl (by first | (simp only [List.length_cons, List.length_nil, Nat.reduceAdd, Nat.zero_add, Nat.add_zero]; first | done | rfl) | rfl) (by first | (simp only [List.set_cons_succ, List.set_cons_zero, Nat.reduceAdd, Nat.add_zero, Nat.zero_add]; first | done | rfl) | rfl) (by first | (simp only [List.set_cons_succ, List.set_cons_zero]; first | done | rfl) | rfl) ?_ | refine sx_store1 1 rfl rfl rfl tyS3 rfl (by first | (simp only [List.length_cons, List.length_nil, Nat.reduceAdd, Nat.zero_add, Nat.add_zero]; first | done | rfl) | rfl) (by first | (simp only [List.set_cons_succ, List.set_cons_zero, Nat.reduceAdd, Nat.add_zero, Nat.zero_add]; first | done | rfl) | rfl) (by first | (simp only [List.set_cons_succ, List.set_cons_zero]; first | done | rfl) | rfl) ?_ | refine sx_store1 2 rfl rfl rfl tyS3 rfl (by first | (simp only [List.length_cons, List.length_nil, Nat.reduceAdd, Nat.zero_add, Nat.add_zero]; first | done | rfl) | rfl) (by first | (simp only [List.set_cons_succ, List.set_cons_zero, Nat.reduceAdd, Nat.add_zero, Nat.zero_add]; first | done | rfl) | rfl) (by first | (simp only [List.set_cons_succ, List.set_cons_zero]; first | done | rfl) | rfl) ?_ | refine sx_store1 3 rfl rfl rfl tyS3 rfl (by first | (simp only [List.length_cons, List.length_nil, Nat.reduceAdd, Nat.zero_add, Nat.add_zero]; first | done | rfl) | rfl) (by first | (simp only [List.set_cons_succ, List.set_cons_zero, Nat.reduceAdd, Nat.add_zero, Nat.zero_add]; first | done | rfl) | rfl) (by first | (simp only [List.set_cons_succ, List.set_cons_zero]; first | done | rfl) | rfl) ?_ | refine sx_store1 4 rfl rfl rfl tyS3 rfl (by first | (simp only [List.length_cons, List.length_nil, Nat.reduceAdd, Nat.zero_add, Nat.add_zero]; first | done | rfl) | rfl) (by first | (simp only [List.set_cons_succ, List.set_cons_zero, Nat.reduceAdd, Nat.add_zero, Nat.zero_add]; first | done | rfl) | rfl) (by first | (simp only [List.set_cons_succ, List.set_cons_zero]; first | done | rfl) | rfl) ?_
    refine sx_nil (hZ _ _ ?_)
    refine awp_forget [] (Kn.nil) ?_
    refine awp_seq_region (fun Z hZ => ?_)
    refine sx_assign rfl rfl ?_
    refine sx_assign rfl rfl ?_
    refine sx_nil (hZ _ _ ?_)
    refine awp_forget [(4, _), (5, _)] (Kn.cons rfl (Kn.cons rfl (Kn.nil))) ?_
    refine awp_ret ?_
    repeat (with_reducible (first | refine nx_then_ret ?_ | refine nx_block_ret ?_ | refine nx_scope_ret ?_))
    have hg := hS.get (k := k) hR S.hi (S.mi + 1)
    rw [e2, ← hx]
    exact nx_ret2h (shH B most { S with s := s', hi := S.hi, mi := S.mi + 1 }) rfl rfl rfl (HLe.sub ((List.sublist_append_left [_, _, _, _] T).trans (List.sublist_cons_self _ _))) ⟨_, _, rfl, RowOk.nil, rfl, hg.is, rfl, by unfold lookS; rw [← hx]; rfl⟩
  refine awp_skip ?_
  repeat (with_reducible (first | refine nx_block_normal ?_ | refine nx_scope_normal ?_))
  with_reducible first | refine nx_normal ?_ | refine nx_normalM ?_
  have hf : hk = true := by simpa using h
  subst hf
  obtain ⟨r, hr, hrl, ⟨hsl, hsub⟩, hr4⟩ := hS.look hhk
  have e2 : lookL X k = r.L := by unfold lookL; rw [← hx, hrl]; rfl
  refine awp_seq_region (fun Z hZ => ?_)
  refine sx_move rfl rfl ?_
  refine sx_nilCheck rfl rfl ?_
  refine sx_fieldAddr rfl tyF60_3 (by first | (simp only [Nat.reduceAdd, Nat.add_zero, Nat.zero_add]; first | done | rfl) | rfl) rfl ?_
  first | refine sx_load 0 rfl rfl tyA3 tyS3 rfl rfl ?_ | refine sx_load 1 rfl rfl tyA3 tyS3 rfl rfl ?_ | refine sx_load 2 rfl rfl tyA3 tyS3 rfl rfl ?_ | refine sx_load 3 rfl rfl tyA3 tyS3 rfl rfl ?_ | refine sx_load 4 rfl rfl tyA3 tyS3 rfl rfl ?_
  refine sx_add rfl rfl ((S.hi + 1 : Nat) : Int) (by rw [IntWalk.i64_in _ (by omega)]; omega) rfl ?_
  refine sx_nilCheck rfl rfl ?_
  refine sx_fieldAddr rfl tyF60_3 (by first | (simp only [Nat.reduceAdd, Nat.add_zero, Nat.zero_add]; first | done | rfl) | rfl) rfl ?_
  first | refine sx_store1 0 rfl rfl rfl tyS3 rfl (by first | (simp only [List.length_cons, List.length_nil, Nat.reduceAdd, Nat.zero_add, Nat.add_zero]; first | done | rfl) | rfl) (by first | (simp only [List.set_cons_succ, List.set_cons_zero, Nat.reduceAdd, Nat.add_zero, Nat.zero_add]; first | done | rfl) | rfl) (by first | (simp only [List.set_cons_succ, List.set_cons_zero]; first | done | rfl) | rfl) ?_ | refine sx_store1 1 rfl rfl rfl tyS3 rfl (by first | (simp only [List.length_cons, List.length_nil, Nat.reduceAdd, Nat.zero_add, Nat.add_zero]; first | done | rfl) | rfl) (by first | (simp only [List.set_cons_succ, List.set_cons_zero, Nat.reduceAdd, Nat.add_zero, Nat.zero_add]; first | done | rfl) | rfl) (by first | (simp only [List.set_cons_succ, List.set_cons_zero]; first | done | rfl) | rfl) ?_ | refine sx_store1 2 rfl rfl rfl tyS3 rfl (by first | (simp only [List.length_cons, List.length_nil, Nat.reduceAdd, Nat.zero_add, Nat.add_zero]; first | done | rfl) | rfl) (by first | (simp only [List.set_cons_succ, List.set_cons_zero, Nat.reduceAdd, Nat.add_zero, Nat.zero_add]; first | done | rfl) | rfl) (by first | (simp only [List.set_cons_succ, List.set_cons_zero]; first | done | rfl) | rfl) ?_ | refine sx_store1 3 rfl rfl rfl tyS3 rfl (by first | (simp only [List.length_cons, List.length_nil, Nat.reduceAdd, Nat.zero_add, Nat.add_zero]; first | done | rfl) | rfl) (by first | (simp only [List.set_cons_succ, List.set_cons_zero, Nat.reduceAdd, Nat.add_zero, Nat.zero_add]; first | done | rfl) | rfl) (by first | (simp only [List.set_cons_succ, List.set_cons_zero]; first | done | rfl) | rfl) ?_ | refine sx_store1 4 rfl rfl rfl tyS3 rfl (by first | (simp only [List.length_cons, List.length_nil, Nat.reduceAdd, Nat.zero_add, Nat.add_zero]; first | done | rfl) | rfl) (by first | (simp only [List.set_cons_succ, List.set_cons_zero, Nat.reduceAdd, Nat.add_zero, Nat.zero_add]; first | done | rfl) | rfl) (by first | (simp only [List.set_cons_succ, List.set_cons_zero]; first | done | rfl) | rfl) ?_
  refine sx_nil (hZ _ _ ?_)
  refine awp_forget [(0, _), (6, _)] (Kn.cons rfl (Kn.cons rfl (Kn.nil))) ?_
  refine awp_seq_region (fun Z hZ => ?_)
  refine sx_move rfl rfl ?_
  refine sx_nilCheck rfl rfl ?_
  refine sx_fieldAddr rfl tyF60_1 (by first | (simp only [Nat.reduceAdd, Nat.add_zero, Nat.zero_add]; first | done | rfl) | rfl) rfl ?_
  first | refine sx_load 0 rfl rfl tyA58 tyS58 rfl rfl ?_ | refine sx_load 1 rfl rfl tyA58 tyS58 rfl rfl ?_ | refine sx_load 2 rfl rfl tyA58 tyS58 rfl rfl ?_ | refine sx_load 3 rfl rfl tyA58 tyS58 rfl rfl ?_ | refine sx_load 4 rfl rfl tyA58 tyS58 rfl rfl ?_
  refine sx_move rfl rfl ?_
  refine sx_lookupW 2 keyI Try.underlying58 zeroR (LI.valK L k) _ rfl rfl rfl (look_r hr) rfl ?_
  refine sx_callVU (roE r.a (ecells r.L)) (clone_fn r.a r.c r.L _ hsl.arg (fun _ => rfl) hsl.nil (Ro.roE _ _) (by omega)) rfl (HLe.sub (hsub.trans (List.sublist_append_right [_, _, _, _, _] _))) (Ro.roE _ _) rfl ?_
  rintro v H' ⟨hv, rfl⟩
  rw [rowE_flt]
  refine sx_assign rfl rfl ?_
  refine sx_assign rfl rfl ?_
  refine sx_nil (hZ _ _ ?_)
  refine awp_forget [(4, _), (5, _)] (Kn.cons rfl (Kn.cons rfl (Kn.nil))) ?_
  refine awp_ret ?_
  repeat (with_reducible (first | refine nx_then_ret ?_ | refine nx_block_ret ?_ | refine nx_scope_ret ?_))
  have hg := hS.get (k := k) hR (S.hi + 1) S.mi
  rw [e2, ← hx]
  refine nx_ret2h (rowE v 65 4 (ecells r.L) ++ shH B most { S with s := s', hi := S.hi + 1, mi := S.mi }) rfl rfl rfl (HLe.sub ?_) ⟨_, _, rfl, hv, rfl, hg.is, rfl, by unfold lookS; rw [← hx]; rfl⟩
  exact List.Sublist.append_left ((List.sublist_append_left [_, _, _, _] T).trans (List.sublist_cons_self _ _)) _
end Go.Proofs.Ytjelakmndcecoaa
