/- The walks of the document's pool. Conditions: the texts are not too long. -/
import Derived.Test.YtffahimbmpddpaaMg8
namespace Go.Proofs.Ytffahimbmpddpaa.V
open Go.RowKit
set_option linter.unusedVariables false
set_option linter.unusedSimpArgs false
set_option maxRecDepth 100000
theorem nx_ret4h {P : Program} {n : Nat} {ro : Option Nat} {w0 : World} {Wr : List Nat} {fr : Fr} {H : Heap} {fn : Func} {R : Value → Heap → Prop} {r s t q : ResultVar} {v u x y : Value} (HH : Heap) (hr : fn.results = #[r, s, t, q]) (h1 : ResOk P fr H r v) (h2 : ResOk P fr H s u) (h3 : ResOk P fr H t x) (h4 : ResOk P fr H q y) (hk : HLe HH H) (hR : R (.tuple #[v, u, x, y]) HH) : nx ⟨n, ro, []⟩ w0 Wr fr H (bodyPost P fn (FnPost w0 Wr R)) .ret :=
  fun a w ha hw => ⟨ha.defers, _, by
    have e1 := h1.run' ha hw
    have e2 := h2.run' ha hw
    have e3 := h3.run' ha hw
    have e4 := h4.run' ha hw
    rw [results_eq]
    simp [hr, Sem.run_bind, e1, e2, e3, e4], _, HH, rfl, hR, hk _ _ _ hw⟩
abbrev txL (ts : List Tx) : List Value := ts.map fun t => .string (str t)
theorem elemTx : ElemOk Try.prog 94 9 1 16 := ElemOk.mk_ (z := .string ⟨#[]⟩) Try.underlying94 (by kernel_rfl) rfl (by omega)
theorem txL_at {ts : List Tx} {i : Nat} {t : Tx} (h : ts[i]? = some t) : rdV false 1 (txL ts) (i * 1) = some (.string (str t)) := by
  rw [Nat.mul_one]
  unfold rdV
  simp [h]
theorem txL_one (ts : List Tx) : (txL ts).all Value.oneCell' = true := List.all_eq_true.2 fun v hv => by
  obtain ⟨t, _, rfl⟩ := List.mem_map.1 hv
  rfl
theorem flat_take {ts : List Tx} {i : Nat} {t : Tx} (h : ts[i]? = some t) : (ts.take (i + 1)).flatten = (ts.take i).flatten ++ t := by
  obtain ⟨hlt, rfl⟩ := List.getElem?_eq_some_iff.1 h
  rw [List.take_succ_eq_append_getElem hlt, List.flatten_append]
  simp only [List.flatten_cons, List.flatten_nil, List.append_nil]
theorem flat_le (ts : List Tx) (i : Nat) : (ts.take i).flatten.length ≤ ts.flatten.length := by
  have : ts.flatten = (ts.take i).flatten ++ (ts.drop i).flatten := by rw [← List.flatten_append, List.take_append_drop]
  rw [this, List.length_append]
  omega
theorem rfind_fn (A : Option Addr) (c : Nat) (ts : List Tx) (s : Tx) (hA : SlOk A ts.length) (hfl : ts.flatten.length ≤ 1000000000) (hts : ts.length ≤ 1000000) (hs : s.length ≤ 1000000) :
    Fn Try.prog 63 [.slice A ts.length c, .string (str s)] (roE A (txL ts)) fun v _ => v = fdV (fdQ 0 ts s) := by
  refine Fn.enter (N := 34) Try.func63 rfl (by kernel_rfl) rfl (fun w0 => ?_)

  refine awp_seq_region (fun Z hZ => ?_)
  refine sx_alloc tyZ95 rfl (fun g1 => ?_)
  refine sx_assign rfl rfl ?_
  refine sx_nil (hZ _ _ ?_)
  refine awp_forget [(0, _), (1, _), (4, _)] (Kn.cons rfl (Kn.cons rfl (Kn.cons rfl (Kn.nil)))) ?_

  refine awp_seq_region (fun Z hZ => ?_)
  refine sx_assign rfl rfl ?_
  refine sx_nil (hZ _ _ ?_)
  refine awp_forget [(0, _), (1, _), (4, _), (6, _)] (Kn.cons rfl (Kn.cons rfl (Kn.cons rfl (Kn.cons rfl (Kn.nil))))) ?_
  refine awp_seq ?_
  refine awp_seq_region (fun Z hZ => ?_)
  refine sx_assign rfl rfl ?_
  refine sx_nil (hZ _ _ ?_)
  refine awp_forget [(0, _), (1, _), (4, _), (6, _), (7, _)] (Kn.cons rfl (Kn.cons rfl (Kn.cons rfl (Kn.cons rfl (Kn.cons rfl (Kn.nil)))))) ?_
  refine awp_block ?_
  refine awp_loop (ι := Nat) (fun i => [(0, .slice A ts.length c), (1, .string (str s)), (4, ptr g1 0), (6, iq ((ts.take i).flatten.length : Nat)), (7, iq (i : Nat))]) (fun _ => .own g1 95 [uq 0, wq4 0] :: roE A (txL ts))
    (fun i => i ≤ ts.length ∧ fdQ (ts.take i).flatten.length (ts.drop i) s = fdQ 0 ts s) (fun i => ts.length - i) 0 ⟨by simp, by simp⟩ (Kn.cons rfl (Kn.cons rfl (Kn.cons rfl (Kn.cons rfl (Kn.cons rfl Kn.nil))))) (HLe.refl _) ?_
  rintro i ⟨hi, hqq⟩
  refine awp_seq ?_
  refine awp_seq_region (fun Z hZ => ?_)
  refine sx_move rfl rfl ?_
  refine sx_move rfl rfl ?_
  first | refine sx_len Try.underlying94 rfl rfl ?_ | refine sx_lenS Try.underlying94 rfl rfl ?_
  first | refine sx_lss rfl rfl rfl ?_ | refine sx_slss rfl rfl rfl ?_
  refine sx_nil (hZ _ _ ?_)
  refine awp_forget [(0, _), (1, _), (4, _), (6, _), (7, _), (11, _)] (Kn.cons rfl (Kn.cons rfl (Kn.cons rfl (Kn.cons rfl (Kn.cons rfl (Kn.cons rfl (Kn.nil))))))) ?_
  first | refine awp_cond rfl (fun h1 => ?_) (fun h1 => ?_) | refine awp_seq (awp_cond rfl (fun h1 => ?_) (fun h1 => ?_))
  · have hlt : i < ts.length := by simpa using h1
    obtain ⟨t, ht⟩ : ∃ t, ts[i]? = some t := ⟨_, List.getElem?_eq_getElem hlt⟩
    have hdr : ts.drop i = t :: ts.drop (i + 1) := by rw [List.drop_eq_getElem_cons hlt]; congr 1; exact (List.getElem?_eq_some_iff.1 ht).2
    have hft := flat_take ht
    have hle := flat_le ts (i + 1)
    rw [hft, List.length_append] at hle
    rw [hdr, fdQ] at hqq
    obtain ⟨g, o, rfl⟩ := hA.some (by omega)
    obtain ⟨at0, hat⟩ : ∃ n, (ts.take i).flatten.length = n := ⟨_, rfl⟩
    rw [hat] at hqq hle ⊢
    refine awp_heap [.own g1 95 [uq 0, wq4 0], .ro g o (txL ts)] (HLe.refl _) ?_
    refine awp_skip ?_
    repeat (with_reducible (first | refine nx_block_normal ?_ | refine nx_scope_normal ?_))
    with_reducible first | refine nx_normal ?_ | refine nx_normalM ?_
    refine awp_seq (awp_block ?_)

    refine awp_seq ?_
    refine awp_seq_region (fun Z hZ => ?_)
    refine sx_move rfl rfl ?_
    refine sx_move rfl rfl ?_
    refine sx_indexAddr (o + i * 1) Try.underlying94 tyS9 rfl rfl (by omega) (by simp) rfl ?_
    refine sx_loadRo 1 rfl rfl (i * 1) rfl tyA9 tyS9 (txL_at ht) rfl ?_
    refine sx_move rfl rfl ?_
    first | refine sx_eql rfl rfl rfl ?_ | refine sx_seql rfl rfl rfl ?_
    refine sx_nil (hZ _ _ ?_)
    refine awp_forget [(0, _), (1, _), (4, _), (6, _), (7, _), (19, _)] (Kn.cons rfl (Kn.cons rfl (Kn.cons rfl (Kn.cons rfl (Kn.cons rfl (Kn.cons rfl (Kn.nil))))))) ?_
    first | refine awp_cond rfl (fun h2 => ?_) (fun h2 => ?_) | refine awp_seq (awp_cond rfl (fun h2 => ?_) (fun h2 => ?_))
    · have h2' : t = s := by simpa using h2
      rw [if_pos h2'] at hqq
      rw [← hqq]
      refine awp_seq_region (fun Z hZ => ?_)
      refine sx_move rfl rfl ?_
      refine sx_conv Try.underlying3 Try.underlying46 rfl ((at0 : Nat) : Int) (by rw [IntWalk.u64_in _ (by omega)]) rfl ?_
      refine sx_move rfl rfl ?_
      first | refine sx_len Try.underlying9 rfl rfl ?_ | refine sx_lenS Try.underlying9 rfl rfl ?_
      refine sx_conv Try.underlying3 Try.underlying61 rfl ((s.length : Nat) : Int) (by rw [IntWalk.u32_in _ (by omega)]) rfl ?_
      refine sx_build tyZ95 tyP95 rfl rfl (by first | (simp only [List.take_succ_cons, List.take_zero, List.drop_succ_cons, List.drop_zero, List.cons_append, List.nil_append, List.append_nil, List.length_cons, List.length_nil, Nat.reduceAdd, Nat.zero_add, Nat.add_zero, Value.cells, wrV, zrep_one, List.replicate_succ, List.replicate_zero, Nat.reduceMul, Nat.zero_mul]; first | done | rfl) | rfl) rfl ?_
      first | refine sx_store 0 rfl rfl rfl tyS95 (by first | (simp only [Value.cells]; first | done | rfl) | rfl) rfl rfl (by first | (simp only [List.length_cons, List.length_nil, Nat.reduceAdd, Nat.zero_add, Nat.add_zero]; first | done | rfl) | rfl) (by first | (simp only [List.take_succ_cons, List.take_zero, List.drop_succ_cons, List.drop_zero, List.cons_append, List.nil_append, List.append_nil, List.length_cons, List.length_nil, Nat.reduceAdd, Nat.zero_add, Nat.add_zero, Value.cells, wrV]; first | done | rfl) | rfl) (by first | (simp only [List.set_cons_succ, List.set_cons_zero]; first | done | rfl) | rfl) ?_ | refine sx_store 1 rfl rfl rfl tyS95 (by first | (simp only [Value.cells]; first | done | rfl) | rfl) rfl rfl (by first | (simp only [List.length_cons, List.length_nil, Nat.reduceAdd, Nat.zero_add, Nat.add_zero]; first | done | rfl) | rfl) (by first | (simp only [List.take_succ_cons, List.take_zero, List.drop_succ_cons, List.drop_zero, List.cons_append, List.nil_append, List.append_nil, List.length_cons, List.length_nil, Nat.reduceAdd, Nat.zero_add, Nat.add_zero, Value.cells, wrV]; first | done | rfl) | rfl) (by first | (simp only [List.set_cons_succ, List.set_cons_zero]; first | done | rfl) | rfl) ?_
      refine sx_assign rfl rfl ?_
      refine sx_nil (hZ _ _ ?_)
      refine awp_forget [(4, _), (5, _)] (Kn.cons rfl (Kn.cons rfl (Kn.nil))) ?_
      refine awp_ret ?_
      repeat (with_reducible (first | refine nx_then_ret ?_ | refine nx_block_ret ?_ | refine nx_scope_ret ?_))
      exact nx_ret2h [] rfl (ResOk.cell 0 rfl rfl tyA95 tyS95 rfl) rfl (HLe.sub (List.nil_sublist _)) rfl
    have h2' : ¬ t = s := by simpa using h2
    rw [if_neg h2'] at hqq
    refine awp_skip ?_
    repeat (with_reducible (first | refine nx_block_normal ?_ | refine nx_scope_normal ?_))
    with_reducible first | refine nx_normal ?_ | refine nx_normalM ?_
    refine awp_region (fun Z hZ => ?_)
    refine sx_move rfl rfl ?_
    refine sx_move rfl rfl ?_
    refine sx_move rfl rfl ?_
    refine sx_indexAddr (o + i * 1) Try.underlying94 tyS9 rfl rfl (by omega) (by simp) rfl ?_
    refine sx_loadRo 1 rfl rfl (i * 1) rfl tyA9 tyS9 (txL_at ht) rfl ?_
    first | refine sx_len Try.underlying9 rfl rfl ?_ | refine sx_lenS Try.underlying9 rfl rfl ?_
    refine sx_add rfl rfl ((at0 + t.length : Nat) : Int) (by rw [IntWalk.i64_in _ (by omega)]; omega) rfl ?_
    refine sx_assign rfl rfl ?_
    refine sx_nil (hZ _ _ ?_)
    refine nx_forget [(0, _), (1, _), (4, _), (6, _), (7, _)] (Kn.cons rfl (Kn.cons rfl (Kn.cons rfl (Kn.cons rfl (Kn.cons rfl (Kn.nil)))))) ?_
    repeat (with_reducible (first | refine nx_block_normal ?_ | refine nx_scope_normal ?_))
    with_reducible first | refine nx_normal ?_ | refine nx_normalM ?_
    refine awp_region (fun Z hZ => ?_)
    refine sx_move rfl rfl ?_
    refine sx_add rfl rfl ((i + 1 : Nat) : Int) (by rw [IntWalk.i64_in _ (by omega)]; omega) rfl ?_
    refine sx_assign rfl rfl ?_
    refine sx_nil (hZ _ _ ?_)
    refine nx_forget [(0, _), (1, _), (4, _), (6, _), (7, _)] (Kn.cons rfl (Kn.cons rfl (Kn.cons rfl (Kn.cons rfl (Kn.cons rfl (Kn.nil)))))) ?_
    have hl2 : (ts.take (i + 1)).flatten.length = at0 + t.length := by rw [hft, List.length_append, hat]
    exact nx_round (i + 1) ⟨hlt, by rw [hl2]; exact hqq⟩ (by omega) (Kn.cons rfl (Kn.cons rfl (Kn.cons rfl (Kn.cons (by rw [hl2]; rfl) (Kn.cons rfl Kn.nil))))) (HLe.refl _)
  · refine awp_exit ?_
    repeat (with_reducible (first | refine nx_then_exit ?_ | refine nx_block_other (by decide) ?_ | refine nx_scope_exit ?_))
    with_reducible refine nx_block_exit ?_
    repeat (with_reducible (first | refine nx_block_normal ?_ | refine nx_scope_normal ?_))
    with_reducible first | refine nx_normal ?_ | refine nx_normalM ?_
    have hke : i = ts.length := by simp at h1; omega
    subst hke
    rw [List.drop_length, fdQ] at hqq
    rw [← hqq]
    refine awp_seq_region (fun Z hZ => ?_)
    refine sx_build tyZ95 tyP95 rfl rfl (by first | (simp only [List.take_succ_cons, List.take_zero, List.drop_succ_cons, List.drop_zero, List.cons_append, List.nil_append, List.append_nil, List.length_cons, List.length_nil, Nat.reduceAdd, Nat.zero_add, Nat.add_zero, Value.cells, wrV, zrep_one, List.replicate_succ, List.replicate_zero, Nat.reduceMul, Nat.zero_mul]; first | done | rfl) | rfl) rfl ?_
    first | refine sx_store 0 rfl rfl rfl tyS95 (by first | (simp only [Value.cells]; first | done | rfl) | rfl) rfl rfl (by first | (simp only [List.length_cons, List.length_nil, Nat.reduceAdd, Nat.zero_add, Nat.add_zero]; first | done | rfl) | rfl) (by first | (simp only [List.take_succ_cons, List.take_zero, List.drop_succ_cons, List.drop_zero, List.cons_append, List.nil_append, List.append_nil, List.length_cons, List.length_nil, Nat.reduceAdd, Nat.zero_add, Nat.add_zero, Value.cells, wrV]; first | done | rfl) | rfl) (by first | (simp only [List.set_cons_succ, List.set_cons_zero]; first | done | rfl) | rfl) ?_ | refine sx_store 1 rfl rfl rfl tyS95 (by first | (simp only [Value.cells]; first | done | rfl) | rfl) rfl rfl (by first | (simp only [List.length_cons, List.length_nil, Nat.reduceAdd, Nat.zero_add, Nat.add_zero]; first | done | rfl) | rfl) (by first | (simp only [List.take_succ_cons, List.take_zero, List.drop_succ_cons, List.drop_zero, List.cons_append, List.nil_append, List.append_nil, List.length_cons, List.length_nil, Nat.reduceAdd, Nat.zero_add, Nat.add_zero, Value.cells, wrV]; first | done | rfl) | rfl) (by first | (simp only [List.set_cons_succ, List.set_cons_zero]; first | done | rfl) | rfl) ?_
    refine sx_assign rfl rfl ?_
    refine sx_nil (hZ _ _ ?_)
    refine awp_forget [(4, _), (5, _)] (Kn.cons rfl (Kn.cons rfl (Kn.nil))) ?_
    refine awp_ret ?_
    repeat (with_reducible (first | refine nx_then_ret ?_ | refine nx_block_ret ?_ | refine nx_scope_ret ?_))
    exact nx_ret2h [] rfl (ResOk.cell 0 rfl rfl tyA95 tyS95 rfl) rfl (HLe.sub (List.nil_sublist _)) rfl
theorem rtext_fn (A : Option Addr) (c : Nat) (ts : List Tx) (hA : SlOk A ts.length) (hts : ts.length ≤ 1000000) (hfl : ts.flatten.length ≤ 1000000000) :
    Fn Try.prog 46 [.slice A ts.length c] (roE A (txL ts)) fun v _ => v = .string (str ts.flatten) := by
  refine Fn.enter (N := 18) Try.func46 rfl (by kernel_rfl) rfl (fun w0 => ?_)

  refine awp_seq_region (fun Z hZ => ?_)
  refine sx_assign rfl rfl ?_
  refine sx_nil (hZ _ _ ?_)
  refine awp_forget [(0, _)] (Kn.cons rfl (Kn.nil)) ?_
  refine awp_seq_region (fun Z hZ => ?_)
  refine sx_assign rfl rfl ?_
  refine sx_nil (hZ _ _ ?_)
  refine awp_forget [(0, _), (3, _)] (Kn.cons rfl (Kn.cons rfl (Kn.nil))) ?_
  refine awp_seq ?_
  refine awp_seq_region (fun Z hZ => ?_)
  refine sx_assign rfl rfl ?_
  refine sx_nil (hZ _ _ ?_)
  refine awp_forget [(0, _), (3, _), (4, _)] (Kn.cons rfl (Kn.cons rfl (Kn.cons rfl (Kn.nil)))) ?_
  refine awp_block ?_
  refine awp_loop (ι := Nat) (fun i => [(0, .slice A ts.length c), (3, .string (str (ts.take i).flatten)), (4, iq (i : Nat))]) (fun _ => roE A (txL ts))
    (fun i => i ≤ ts.length) (fun i => ts.length - i) 0 (by simp) (Kn.cons rfl (Kn.cons rfl (Kn.cons rfl Kn.nil))) (HLe.refl _) ?_
  rintro i hi
  refine awp_seq ?_
  refine awp_seq_region (fun Z hZ => ?_)
  refine sx_move rfl rfl ?_
  refine sx_move rfl rfl ?_
  first | refine sx_len Try.underlying94 rfl rfl ?_ | refine sx_lenS Try.underlying94 rfl rfl ?_
  first | refine sx_lss rfl rfl rfl ?_ | refine sx_slss rfl rfl rfl ?_
  refine sx_nil (hZ _ _ ?_)
  refine awp_forget [(0, _), (3, _), (4, _), (8, _)] (Kn.cons rfl (Kn.cons rfl (Kn.cons rfl (Kn.cons rfl (Kn.nil))))) ?_
  first | refine awp_cond rfl (fun h1 => ?_) (fun h1 => ?_) | refine awp_seq (awp_cond rfl (fun h1 => ?_) (fun h1 => ?_))
  · have hlt : i < ts.length := by simpa using h1
    obtain ⟨t, ht⟩ : ∃ t, ts[i]? = some t := ⟨_, List.getElem?_eq_getElem hlt⟩
    have hft := flat_take ht
    obtain ⟨g, o, rfl⟩ := hA.some (by omega)
    refine awp_heap [.ro g o (txL ts)] (HLe.refl _) ?_
    refine awp_skip ?_
    repeat (with_reducible (first | refine nx_block_normal ?_ | refine nx_scope_normal ?_))
    with_reducible first | refine nx_normal ?_ | refine nx_normalM ?_
    refine awp_seq (awp_block ?_)

    refine awp_region (fun Z hZ => ?_)
    refine sx_move rfl rfl ?_
    refine sx_move rfl rfl ?_
    refine sx_move rfl rfl ?_
    refine sx_indexAddr (o + i * 1) Try.underlying94 tyS9 rfl rfl (by omega) (by simp) rfl ?_
    refine sx_loadRo 0 rfl rfl (i * 1) rfl tyA9 tyS9 (txL_at ht) rfl ?_
    refine sx_cat rfl rfl ((by have := flat_le ts (i + 1); rw [hft, List.length_append] at this; omega)) rfl ?_
    refine sx_assign rfl rfl ?_
    refine sx_nil (hZ _ _ ?_)
    refine nx_forget [(0, _), (3, _), (4, _)] (Kn.cons rfl (Kn.cons rfl (Kn.cons rfl (Kn.nil)))) ?_
    repeat (with_reducible (first | refine nx_block_normal ?_ | refine nx_scope_normal ?_))
    with_reducible first | refine nx_normal ?_ | refine nx_normalM ?_
    refine awp_region (fun Z hZ => ?_)
    refine sx_move rfl rfl ?_
    refine sx_add rfl rfl ((i + 1 : Nat) : Int) (by rw [IntWalk.i64_in _ (by omega)]; omega) rfl ?_
    refine sx_assign rfl rfl ?_
    refine sx_nil (hZ _ _ ?_)
    refine nx_forget [(0, _), (3, _), (4, _)] (Kn.cons rfl (Kn.cons rfl (Kn.cons rfl (Kn.nil)))) ?_
    exact nx_round (i + 1) hlt (by omega) (Kn.cons rfl (Kn.cons (by rw [hft]; rfl) (Kn.cons rfl Kn.nil))) (HLe.refl _)
  · refine awp_exit ?_
    repeat (with_reducible (first | refine nx_then_exit ?_ | refine nx_block_other (by decide) ?_ | refine nx_scope_exit ?_))
    with_reducible refine nx_block_exit ?_
    repeat (with_reducible (first | refine nx_block_normal ?_ | refine nx_scope_normal ?_))
    with_reducible first | refine nx_normal ?_ | refine nx_normalM ?_
    have hke : i = ts.length := by simp at h1; omega
    subst hke
    rw [List.take_length]
    refine awp_seq_region (fun Z hZ => ?_)
    refine sx_move rfl rfl ?_
    refine sx_assign rfl rfl ?_
    refine sx_nil (hZ _ _ ?_)
    refine awp_forget [(2, _)] (Kn.cons rfl (Kn.nil)) ?_
    refine awp_ret ?_
    repeat (with_reducible (first | refine nx_then_ret ?_ | refine nx_block_ret ?_ | refine nx_scope_ret ?_))
    exact nx_ret1 rfl rfl rfl
end Go.Proofs.Ytffahimbmpddpaa.V
