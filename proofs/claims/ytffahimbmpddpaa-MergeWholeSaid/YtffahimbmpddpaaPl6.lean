/- The walks of a pool's New, Add and Text. Conditions: the texts are not too long. -/
import Derived.Test.YtffahimbmpddpaaPl5
namespace Go.Proofs.Ytffahimbmpddpaa.V
open Go.RowKit
set_option linter.unusedVariables false
set_option linter.unusedSimpArgs false
set_option maxRecDepth 100000
theorem pnew_fn : Fn Try.prog 37 [] [] fun v H' => ∃ g, v = ptr g 0 ∧ PoolIs g [] H' := by
  refine Fn.enter (N := 3) Try.func37 rfl (by kernel_rfl) rfl (fun w0 => ?_)

  refine awp_seq_region (fun Z hZ => ?_)
  refine sx_assign rfl rfl ?_
  refine sx_nil (hZ _ _ ?_)
  refine awp_forget [] (Kn.nil) ?_
  refine awp_seq_region (fun Z hZ => ?_)
  refine sx_build tyZ115 tyP115 rfl rfl (by first | (simp only [List.take_succ_cons, List.take_zero, List.drop_succ_cons, List.drop_zero, List.cons_append, List.nil_append, List.append_nil, List.length_cons, List.length_nil, Nat.reduceAdd, Nat.zero_add, Nat.add_zero, Value.cells, wrV, zrep_one, List.replicate_succ, List.replicate_zero, Nat.reduceMul, Nat.zero_mul]; first | done | rfl) | rfl) rfl ?_
  refine sx_box rfl rfl rfl (fun g1 => ?_)
  refine sx_assign rfl rfl ?_
  refine sx_nil (hZ _ _ ?_)
  refine awp_forget [(0, _)] (Kn.cons rfl (Kn.nil)) ?_
  refine awp_ret ?_
  repeat (with_reducible (first | refine nx_then_ret ?_ | refine nx_block_ret ?_ | refine nx_scope_ret ?_))
  exact nx_ret1h _ rfl rfl (HLe.refl _) ⟨_, rfl, .inl ⟨rfl, rfl⟩⟩
/-- A pool's contents: each once, none empty. -/
structure TsOk (ts : List Tx) : Prop where
  nd : ts.Nodup
  ne : ∀ t ∈ ts, t ≠ []
/-- What a pool is, one text more. -/
def addT (ts : List Tx) (s : Tx) : List Tx := if s ∈ ts then ts else ts ++ [s]
/-- Where a text stands in a pool that it has been put into. -/
def addC (ts : List Tx) (s : Tx) : Nat × Nat := (fdQ 0 ts s).getD (ts.flatten.length, s.length)
theorem addT_ok {ts : List Tx} {s : Tx} (h : TsOk ts) (hs : s ≠ []) : TsOk (addT ts s) := by
  unfold addT
  split
  · exact h
  · rename_i hn
    exact ⟨List.nodup_append.2 ⟨h.nd, by simp, fun a ha b hb => by rw [List.mem_singleton.1 hb]; exact fun e => hn (e ▸ ha)⟩, fun t ht => (List.mem_append.1 ht).elim (h.ne t) (fun ht => List.mem_singleton.1 ht ▸ hs)⟩
theorem add_fn {gp : Nat} {ts : List Tx} {H : Heap} (h : PoolIs gp ts H) (s : Tx) (hok : TsOk ts) (hfl : ts.flatten.length + s.length ≤ 1000000000) (hts : ts.length < 2048) (hs0 : s ≠ []) (hs : s.length ≤ 65536) :
    Fn Try.prog 39 [ptr gp 0, .string (str s)] H fun v H' => (∃ b, v = .tuple #[ctV (addC ts s), .bool b, iq (0 : Nat)]) ∧ PoolIs gp (addT ts s) H' := by
  have hfd := find_is h s hok.nd hok.ne (by omega) (by omega) (by omega)
  obtain ⟨c, b, hfv, hct, hcf⟩ : ∃ c b, fdV (fdQ 0 ts s) = .tuple #[ctV c, .bool b] ∧ (b = true → fdQ 0 ts s = some c) ∧ (b = false → fdQ 0 ts s = none) := by
    cases fdQ 0 ts s with
    | none => exact ⟨_, false, rfl, fun h => (by cases h), fun _ => rfl⟩
    | some c => exact ⟨c, true, rfl, fun _ => rfl, fun h => by cases h⟩
  rw [hfv] at hfd
  have hput := put_fn h s (by omega) (by omega) hs
  obtain ⟨tv, Ap, cp, m, K, hH⟩ : ∃ tv Ap cp m K, H = .own gp 115 [tv, .slice Ap ts.length cp, .map m] :: K := by
    rcases h with ⟨rfl, rfl⟩ | ⟨gm, B, tv, pv, ⟨h1, h2, h3⟩, rfl⟩
    · exact ⟨nilS, none, 0, none, [], rfl⟩
    · obtain ⟨Ap, cp, rfl, _⟩ := h3.form
      exact ⟨tv, Ap, cp, some gm, _, rfl⟩
  have hwr := h.wrs
  have hsl : 0 < s.length := List.length_pos_iff.2 hs0
  refine Fn.enter (N := 43) Try.func39 rfl (by kernel_rfl) rfl (fun w0 => ?_)

  refine awp_seq_region (fun Z hZ => ?_)
  refine sx_alloc tyZ84 rfl (fun g1 => ?_)
  refine sx_assign rfl rfl ?_
  refine sx_assign rfl rfl ?_
  refine sx_nil (hZ _ _ ?_)
  refine awp_forget [(0, _), (1, _), (4, _)] (Kn.cons rfl (Kn.cons rfl (Kn.cons rfl (Kn.nil)))) ?_
  refine awp_seq (awp_block ?_)

  refine awp_seq_region (fun Z hZ => ?_)
  refine sx_move rfl rfl ?_
  refine sx_ptrNil Try.underlying78 rfl rfl ?_
  refine sx_assign rfl rfl ?_
  refine sx_nil (hZ _ _ ?_)
  refine awp_forget [(0, _), (1, _), (4, _), (10, _)] (Kn.cons rfl (Kn.cons rfl (Kn.cons rfl (Kn.cons rfl (Kn.nil))))) ?_
  first | refine awp_cond rfl (fun h1 => ?_) (fun h1 => ?_) | refine awp_seq (awp_cond rfl (fun h1 => ?_) (fun h1 => ?_))
  · cases h1
  refine awp_seq_region (fun Z hZ => ?_)
  refine sx_move rfl rfl ?_
  first | refine sx_eql rfl rfl rfl ?_ | refine sx_seql rfl rfl rfl ?_
  refine sx_assign rfl rfl ?_
  refine sx_nil (hZ _ _ ?_)
  refine awp_forget [(0, _), (1, _), (4, _), (14, _)] (Kn.cons rfl (Kn.cons rfl (Kn.cons rfl (Kn.cons rfl (Kn.nil))))) ?_
  first | refine awp_cond rfl (fun h2 => ?_) (fun h2 => ?_) | refine awp_seq (awp_cond rfl (fun h2 => ?_) (fun h2 => ?_))
  · exact absurd (by simpa using h2) hs0
  refine awp_seq_region (fun Z hZ => ?_)
  refine sx_move rfl rfl ?_
  first | refine sx_len Try.underlying9 rfl rfl ?_ | refine sx_lenS Try.underlying9 rfl rfl ?_
  first | refine sx_gtr rfl rfl rfl ?_ | refine sx_sgtr rfl rfl rfl ?_
  refine sx_assign rfl rfl ?_
  refine sx_nil (hZ _ _ ?_)
  refine awp_forget [(0, _), (1, _), (4, _), (18, _)] (Kn.cons rfl (Kn.cons rfl (Kn.cons rfl (Kn.cons rfl (Kn.nil))))) ?_
  first | refine awp_cond rfl (fun h3 => ?_) (fun h3 => ?_) | refine awp_seq (awp_cond rfl (fun h3 => ?_) (fun h3 => ?_))
  · simp at h3; omega
  refine awp_skip ?_
  repeat (with_reducible (first | refine nx_block_normal ?_ | refine nx_scope_normal ?_))
  with_reducible first | refine nx_normal ?_ | refine nx_normalM ?_
  refine awp_seq ?_
  refine awp_seq_region (fun Z hZ => ?_)
  refine sx_move rfl rfl ?_
  refine sx_move rfl rfl ?_
  refine sx_callO H [_] hfd rfl (HLe.swap [_] H) rfl ?_
  rintro v H' ⟨rfl, rfl⟩
  rw [hwr.filter]
  refine sx_heap _ (HLe.swap H' [_]) ?_
  refine sx_move rfl rfl ?_
  refine sx_extract rfl rfl rfl ?_
  refine sx_extract rfl rfl rfl ?_
  refine sx_alloc tyZ84 rfl (fun g2 => ?_)
  first | refine sx_store 0 rfl rfl rfl tyS84 (by first | (simp only [Value.cells]; first | done | rfl) | rfl) rfl rfl (by first | (simp only [List.length_cons, List.length_nil, Nat.reduceAdd, Nat.zero_add, Nat.add_zero]; first | done | rfl) | rfl) (by first | (simp only [List.take_succ_cons, List.take_zero, List.drop_succ_cons, List.drop_zero, List.cons_append, List.nil_append, List.append_nil, List.length_cons, List.length_nil, Nat.reduceAdd, Nat.zero_add, Nat.add_zero, Value.cells, wrV]; first | done | rfl) | rfl) (by first | (simp only [List.set_cons_succ, List.set_cons_zero]; first | done | rfl) | rfl) ?_ | refine sx_store 1 rfl rfl rfl tyS84 (by first | (simp only [Value.cells]; first | done | rfl) | rfl) rfl rfl (by first | (simp only [List.length_cons, List.length_nil, Nat.reduceAdd, Nat.zero_add, Nat.add_zero]; first | done | rfl) | rfl) (by first | (simp only [List.take_succ_cons, List.take_zero, List.drop_succ_cons, List.drop_zero, List.cons_append, List.nil_append, List.append_nil, List.length_cons, List.length_nil, Nat.reduceAdd, Nat.zero_add, Nat.add_zero, Value.cells, wrV]; first | done | rfl) | rfl) (by first | (simp only [List.set_cons_succ, List.set_cons_zero]; first | done | rfl) | rfl) ?_
  refine sx_assign rfl rfl ?_
  refine sx_nil (hZ _ _ ?_)
  refine awp_forget [(0, _), (1, _), (4, _), (7, _), (8, _)] (Kn.cons rfl (Kn.cons rfl (Kn.cons rfl (Kn.cons rfl (Kn.cons rfl (Kn.nil)))))) ?_
  refine awp_seq_region (fun Z hZ => ?_)
  refine sx_move rfl rfl ?_
  refine sx_nil (hZ _ _ ?_)
  refine awp_forget [(0, _), (1, _), (4, _), (7, _), (29, _)] (Kn.cons rfl (Kn.cons rfl (Kn.cons rfl (Kn.cons rfl (Kn.cons rfl (Kn.nil)))))) ?_
  first | refine awp_cond rfl (fun h4 => ?_) (fun h4 => ?_) | refine awp_seq (awp_cond rfl (fun h4 => ?_) (fun h4 => ?_))
  · have hq := hct (by simpa using h4)
    have hm : s ∈ ts := Classical.byContradiction fun hn => by rw [(fdQ_none ts 0 s).2 hn] at hq; cases hq
    have e1 : addT ts s = ts := by unfold addT; rw [if_pos hm]
    have e2 : addC ts s = c := by unfold addC; rw [hq]; rfl
    rw [e1, e2]

    refine awp_seq_region (fun Z hZ => ?_)
    first | refine sx_loadA 0 rfl rfl tyA84 tyS84 (by first | (simp only [List.length_cons, List.length_nil, Nat.reduceAdd, Nat.zero_add, Nat.add_zero]; first | done | rfl) | rfl) (by first | (simp only [List.take_succ_cons, List.take_zero, List.drop_succ_cons, List.drop_zero, List.cons_append, List.nil_append, List.append_nil, List.length_cons, List.length_nil, Nat.reduceAdd, Nat.zero_add, Nat.add_zero, Value.cells, wrV]; first | done | rfl) | rfl) rfl ?_ | refine sx_loadA 1 rfl rfl tyA84 tyS84 (by first | (simp only [List.length_cons, List.length_nil, Nat.reduceAdd, Nat.zero_add, Nat.add_zero]; first | done | rfl) | rfl) (by first | (simp only [List.take_succ_cons, List.take_zero, List.drop_succ_cons, List.drop_zero, List.cons_append, List.nil_append, List.append_nil, List.length_cons, List.length_nil, Nat.reduceAdd, Nat.zero_add, Nat.add_zero, Value.cells, wrV]; first | done | rfl) | rfl) rfl ?_
    first | refine sx_store 0 rfl rfl rfl tyS84 (by first | (simp only [Value.cells]; first | done | rfl) | rfl) rfl rfl (by first | (simp only [List.length_cons, List.length_nil, Nat.reduceAdd, Nat.zero_add, Nat.add_zero]; first | done | rfl) | rfl) (by first | (simp only [List.take_succ_cons, List.take_zero, List.drop_succ_cons, List.drop_zero, List.cons_append, List.nil_append, List.append_nil, List.length_cons, List.length_nil, Nat.reduceAdd, Nat.zero_add, Nat.add_zero, Value.cells, wrV]; first | done | rfl) | rfl) (by first | (simp only [List.set_cons_succ, List.set_cons_zero]; first | done | rfl) | rfl) ?_ | refine sx_store 1 rfl rfl rfl tyS84 (by first | (simp only [Value.cells]; first | done | rfl) | rfl) rfl rfl (by first | (simp only [List.length_cons, List.length_nil, Nat.reduceAdd, Nat.zero_add, Nat.add_zero]; first | done | rfl) | rfl) (by first | (simp only [List.take_succ_cons, List.take_zero, List.drop_succ_cons, List.drop_zero, List.cons_append, List.nil_append, List.append_nil, List.length_cons, List.length_nil, Nat.reduceAdd, Nat.zero_add, Nat.add_zero, Value.cells, wrV]; first | done | rfl) | rfl) (by first | (simp only [List.set_cons_succ, List.set_cons_zero]; first | done | rfl) | rfl) ?_
    refine sx_assign rfl rfl ?_
    refine sx_assign rfl rfl ?_
    refine sx_nil (hZ _ _ ?_)
    refine awp_forget [(4, _), (5, _), (6, _)] (Kn.cons rfl (Kn.cons rfl (Kn.cons rfl (Kn.nil)))) ?_
    refine awp_ret ?_
    repeat (with_reducible (first | refine nx_then_ret ?_ | refine nx_block_ret ?_ | refine nx_scope_ret ?_))
    exact nx_ret3h _ rfl (ResOk.cell 1 rfl rfl tyA84 tyS84 rfl) rfl rfl (HLe.drop 2 rfl) ⟨⟨_, rfl⟩, h⟩
  have hq := hcf (by simpa using h4)
  have hm : s ∉ ts := (fdQ_none ts 0 s).1 hq
  have e1 : addT ts s = ts ++ [s] := by unfold addT; rw [if_neg hm]
  have e2 : addC ts s = (ts.flatten.length, s.length) := by unfold addC; rw [hq]; rfl
  rw [e1, e2]
  refine awp_skip ?_
  repeat (with_reducible (first | refine nx_block_normal ?_ | refine nx_scope_normal ?_))
  with_reducible first | refine nx_normal ?_ | refine nx_normalM ?_
  subst hH

  refine awp_seq ?_
  refine awp_seq_region (fun Z hZ => ?_)
  refine sx_move rfl rfl ?_
  refine sx_nilCheck rfl rfl ?_
  refine sx_fieldAddr rfl tyF115_1 (by first | (simp only [Nat.reduceAdd, Nat.add_zero, Nat.zero_add]; first | done | rfl) | rfl) rfl ?_
  first | refine sx_load 0 rfl rfl tyA112 tyS112 rfl rfl ?_ | refine sx_load 1 rfl rfl tyA112 tyS112 rfl rfl ?_ | refine sx_load 2 rfl rfl tyA112 tyS112 rfl rfl ?_
  first | refine sx_len Try.underlying112 rfl rfl ?_ | refine sx_lenS Try.underlying112 rfl rfl ?_
  first | refine sx_geq rfl rfl rfl ?_ | refine sx_sgeq rfl rfl rfl ?_
  refine sx_nil (hZ _ _ ?_)
  refine awp_forget [(0, _), (1, _), (4, _), (36, _)] (Kn.cons rfl (Kn.cons rfl (Kn.cons rfl (Kn.cons rfl (Kn.nil))))) ?_
  first | refine awp_cond rfl (fun h5 => ?_) (fun h5 => ?_) | refine awp_seq (awp_cond rfl (fun h5 => ?_) (fun h5 => ?_))
  · simp at h5; omega
  refine awp_skip ?_
  repeat (with_reducible (first | refine nx_block_normal ?_ | refine nx_scope_normal ?_))
  with_reducible first | refine nx_normal ?_ | refine nx_normalM ?_
  refine awp_seq_region (fun Z hZ => ?_)
  refine sx_move rfl rfl ?_
  refine sx_makeFuncB (vs := [ptr gp 0]) rfl rfl ?_
  refine sx_assign rfl rfl ?_
  refine sx_nil (hZ _ _ ?_)
  refine awp_forget [(1, _), (4, _), (9, _)] (Kn.cons rfl (Kn.cons rfl (Kn.cons rfl (Kn.nil)))) ?_
  refine awp_seq_region (fun Z hZ => ?_)
  refine sx_move rfl rfl ?_
  refine sx_move rfl rfl ?_
  refine sx_callFB (bs := [ptr gp 0]) (vs := [.string (str s)]) [_, _] hput rfl rfl (HLe.swap [_, _] _) rfl ?_
  rintro v H' ⟨rfl, hP⟩
  rw [hP.wrs.filter]
  refine sx_heap _ (HLe.swap H' [_, _]) ?_
  first | refine sx_store 0 rfl rfl rfl tyS84 (by first | (simp only [Value.cells]; first | done | rfl) | rfl) rfl rfl (by first | (simp only [List.length_cons, List.length_nil, Nat.reduceAdd, Nat.zero_add, Nat.add_zero]; first | done | rfl) | rfl) (by first | (simp only [List.take_succ_cons, List.take_zero, List.drop_succ_cons, List.drop_zero, List.cons_append, List.nil_append, List.append_nil, List.length_cons, List.length_nil, Nat.reduceAdd, Nat.zero_add, Nat.add_zero, Value.cells, wrV]; first | done | rfl) | rfl) (by first | (simp only [List.set_cons_succ, List.set_cons_zero]; first | done | rfl) | rfl) ?_ | refine sx_store 1 rfl rfl rfl tyS84 (by first | (simp only [Value.cells]; first | done | rfl) | rfl) rfl rfl (by first | (simp only [List.length_cons, List.length_nil, Nat.reduceAdd, Nat.zero_add, Nat.add_zero]; first | done | rfl) | rfl) (by first | (simp only [List.take_succ_cons, List.take_zero, List.drop_succ_cons, List.drop_zero, List.cons_append, List.nil_append, List.append_nil, List.length_cons, List.length_nil, Nat.reduceAdd, Nat.zero_add, Nat.add_zero, Value.cells, wrV]; first | done | rfl) | rfl) (by first | (simp only [List.set_cons_succ, List.set_cons_zero]; first | done | rfl) | rfl) ?_ | refine sx_store 2 rfl rfl rfl tyS84 (by first | (simp only [Value.cells]; first | done | rfl) | rfl) rfl rfl (by first | (simp only [List.length_cons, List.length_nil, Nat.reduceAdd, Nat.zero_add, Nat.add_zero]; first | done | rfl) | rfl) (by first | (simp only [List.take_succ_cons, List.take_zero, List.drop_succ_cons, List.drop_zero, List.cons_append, List.nil_append, List.append_nil, List.length_cons, List.length_nil, Nat.reduceAdd, Nat.zero_add, Nat.add_zero, Value.cells, wrV]; first | done | rfl) | rfl) (by first | (simp only [List.set_cons_succ, List.set_cons_zero]; first | done | rfl) | rfl) ?_
  refine sx_assign rfl rfl ?_
  refine sx_assign rfl rfl ?_
  refine sx_nil (hZ _ _ ?_)
  refine awp_forget [(4, _), (5, _), (6, _)] (Kn.cons rfl (Kn.cons rfl (Kn.cons rfl (Kn.nil)))) ?_
  refine awp_ret ?_
  repeat (with_reducible (first | refine nx_then_ret ?_ | refine nx_block_ret ?_ | refine nx_scope_ret ?_))
  exact nx_ret3h _ rfl (ResOk.cell 1 rfl rfl tyA84 tyS84 rfl) rfl rfl (HLe.drop 2 rfl) ⟨⟨_, rfl⟩, hP⟩
theorem text_fn {gp : Nat} {ts : List Tx} {H : Heap} (h : PoolIs gp ts H) (hfl : ts.flatten.length ≤ 1000000000) :
    Fn Try.prog 40 [ptr gp 0] H fun v H' => v = .string (str ts.flatten) ∧ H' = H := by
  obtain ⟨At, ct, pv, m, K, hH, hr⟩ : ∃ At ct pv m K, H = .own gp 115 [.slice At ts.flatten.length ct, pv, .map m] :: K ∧ ∀ w0 Wr w, Sat w0 Wr H w → Rd w 1 At ts.flatten.length (bv ts.flatten) := by
    rcases h with ⟨rfl, rfl⟩ | ⟨gm, B, tv, pv, ⟨h1, h2, h3⟩, rfl⟩
    · exact ⟨none, 0, nilS, none, [], rfl, fun w0 Wr w _ => rd_nil rfl⟩
    · obtain ⟨At, ct, rfl, _⟩ := h2.form
      exact ⟨At, ct, pv, some gm, _, rfl, fun w0 Wr w hw => rd_rowE h2 (by rw [bv_length, Nat.mul_one]) (fun x hx => List.mem_cons_of_mem _ (List.mem_cons_of_mem _ (List.mem_append_left _ hx))) hw⟩
  subst hH
  refine Fn.enter (N := 11) Try.func40 rfl (by kernel_rfl) rfl (fun w0 => ?_)

  refine awp_seq_region (fun Z hZ => ?_)
  refine sx_assign rfl rfl ?_
  refine sx_nil (hZ _ _ ?_)
  refine awp_forget [(0, _)] (Kn.cons rfl (Kn.nil)) ?_
  refine awp_seq ?_
  refine awp_seq_region (fun Z hZ => ?_)
  refine sx_move rfl rfl ?_
  refine sx_ptrNil Try.underlying78 rfl rfl ?_
  refine sx_nil (hZ _ _ ?_)
  refine awp_forget [(0, _), (4, _)] (Kn.cons rfl (Kn.cons rfl (Kn.nil))) ?_
  first | refine awp_cond rfl (fun h1 => ?_) (fun h1 => ?_) | refine awp_seq (awp_cond rfl (fun h1 => ?_) (fun h1 => ?_))
  · cases h1
  refine awp_skip ?_
  repeat (with_reducible (first | refine nx_block_normal ?_ | refine nx_scope_normal ?_))
  with_reducible first | refine nx_normal ?_ | refine nx_normalM ?_
  refine awp_seq_region (fun Z hZ => ?_)
  refine sx_move rfl rfl ?_
  refine sx_nilCheck rfl rfl ?_
  refine sx_fieldAddr rfl tyF115_0 (by first | (simp only [Nat.reduceAdd, Nat.add_zero, Nat.zero_add]; first | done | rfl) | rfl) rfl ?_
  first | refine sx_load 0 rfl rfl tyA111 tyS111 rfl rfl ?_
  refine sx_strB (l := ts.flatten) Try.underlying111 Try.underlying5 Try.underlying9 rfl (fun w hw => hr _ _ w hw) rfl ?_
  refine sx_callP (clone_fn ts.flatten (by omega)) rfl rfl ?_
  refine sx_assign rfl rfl ?_
  refine sx_nil (hZ _ _ ?_)
  refine awp_forget [(2, _)] (Kn.cons rfl (Kn.nil)) ?_
  refine awp_ret ?_
  repeat (with_reducible (first | refine nx_then_ret ?_ | refine nx_block_ret ?_ | refine nx_scope_ret ?_))
  exact nx_ret1h _ rfl rfl (HLe.refl _) ⟨rfl, rfl⟩
end Go.Proofs.Ytffahimbmpddpaa.V
