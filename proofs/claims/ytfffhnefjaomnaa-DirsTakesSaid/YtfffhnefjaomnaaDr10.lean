/- The walks of dirs.Each, and of what it hands out. Conditions: the text is not too long. -/
import Derived.Test.YtfffhnefjaomnaaDr9
namespace Go.Proofs.Ytfffhnefjaomnaa
open Go.RowKit
set_option linter.unusedVariables false
set_option linter.unusedSimpArgs false
theorem each_fn (s : List UInt8) (hs : s.length ≤ 1000000) : Fn Try.prog 19 [.string (str s)] [] fun v H' => ∃ g u, RowOk u (decQ s).1.length ∧ v = .func (.func 33) #[] #[ptr g 0] ∧ H' = .own g 27 [u] :: rowE u 51 4 (ecells (decQ s).1) := by
  refine Fn.enter (N := 13) Try.func19 rfl (by kernel_rfl) rfl (fun w0 => ?_)

  refine awp_seq_region (fun Z hZ => ?_)
  refine sx_assign rfl rfl ?_
  refine sx_nil (hZ _ _ ?_)
  refine awp_forget [(0, _)] (Kn.cons rfl (Kn.nil)) ?_
  refine awp_seq_region (fun Z hZ => ?_)
  refine sx_move rfl rfl ?_
  refine sx_callO [] [] (ddecode_fn s hs) rfl (HLe.refl _) rfl ?_
  rintro v H' ⟨u, rfl, hu, rfl⟩
  rw [rowE_flt, List.append_nil]
  obtain ⟨A, cp, rfl, hA⟩ := hu.form
  refine sx_move rfl rfl ?_
  refine sx_extract rfl rfl rfl ?_
  refine sx_extract rfl rfl rfl ?_
  refine sx_extract rfl rfl rfl ?_
  refine sx_alloc tyZ27 rfl (fun g1 => ?_)
  first | refine sx_store1 0 rfl rfl rfl tyS27 rfl (by first | (simp only [List.length_cons, List.length_nil, Nat.reduceAdd, Nat.zero_add, Nat.add_zero]; first | done | rfl) | rfl) (by first | (simp only [List.set_cons_succ, List.set_cons_zero, Nat.reduceAdd, Nat.add_zero, Nat.zero_add]; first | done | rfl) | rfl) (by first | (simp only [List.set_cons_succ, List.set_cons_zero]; first | done | rfl) | rfl) ?_
  refine sx_assign rfl rfl ?_
  refine sx_assign rfl rfl ?_
  refine sx_nil (hZ _ _ ?_)
  refine awp_forget [(3, _)] (Kn.cons rfl (Kn.nil)) ?_
  refine awp_seq_region (fun Z hZ => ?_)
  refine sx_makeFunc rfl rfl ?_
  refine sx_assign rfl rfl ?_
  refine sx_nil (hZ _ _ ?_)
  refine awp_forget [(2, _)] (Kn.cons rfl (Kn.nil)) ?_
  refine awp_ret ?_
  repeat (with_reducible (first | refine nx_then_ret ?_ | refine nx_block_ret ?_ | refine nx_scope_ret ?_))
  exact nx_ret1h _ rfl rfl (HLe.refl _) ⟨g1, _, hu, rfl, rfl⟩
theorem each_it (g : Nat) (A : Option Addr) (cp : Nat) (L : List En) (T : Heap) (hA : ArgOk A L.length) (hT : 0 < L.length → T = roE A (ecells L)) (hL : L.length ≤ 100000) :
    Iter Try.prog 33 [ptr g 0] (.ro g 0 [.slice A L.length cp] :: T) ((List.range L.length).map fun i => [uq i, (atE L i).val]) := by
  intro l J Jr S hJ hS hJr hY T0 hT0
  have hlen : ((List.range L.length).map fun i => [uq i, (atE L i).val]).length = L.length := by simp
  rw [hlen]
  refine Fn.enter (N := 19) Try.func33 rfl (by kernel_rfl) rfl (fun w0 => ?_)

  refine awp_heap (.ro g 0 [.slice A L.length cp] :: (T ++ (T0 ++ Jr))) (HLe.refl _) ?_
  refine awp_seq_region (fun Z hZ => ?_)
  refine sx_loadRo 0 rfl rfl 0 rfl tyA27 tyS27 rfl rfl ?_
  first | refine sx_len Try.underlying27 rfl rfl ?_ | refine sx_lenS Try.underlying27 rfl rfl ?_
  refine sx_move rfl rfl ?_
  refine sx_nil (hZ _ _ ?_)
  refine awp_forget [(0, _), (5, _), (6, _), (7, _)] (Kn.cons rfl (Kn.cons rfl (Kn.cons rfl (Kn.cons rfl (Kn.nil))))) ?_
  refine awp_block ?_
  refine awp_loop (ι := Nat × Heap) (fun i => [(0, .func (.yield l) #[] #[]), (5, .slice A L.length cp), (6, iq (L.length : Nat)), (7, iq (i.1 : Nat))]) (fun i => T ++ (i.2 ++ Jr))
    (fun i => i.1 ≤ L.length ∧ J i.1 i.2) (fun i => L.length - i.1) (0, T0) ⟨by simp, hT0⟩ (Kn.cons rfl (Kn.cons rfl (Kn.cons rfl (Kn.cons rfl Kn.nil)))) (HLe.drop 1 rfl) ?_
  rintro ⟨i, T3⟩ ⟨hi, hT3⟩
  simp only at hi hT3

  refine awp_seq_region (fun Z hZ => ?_)
  first | refine sx_lss rfl rfl rfl ?_ | refine sx_slss rfl rfl rfl ?_
  refine sx_nil (hZ _ _ ?_)
  refine awp_forget [(0, _), (5, _), (6, _), (7, _), (8, _)] (Kn.cons rfl (Kn.cons rfl (Kn.cons rfl (Kn.cons rfl (Kn.cons rfl (Kn.nil)))))) ?_
  first | refine awp_cond rfl (fun hh => ?_) (fun hh => ?_) | refine awp_seq (awp_cond rfl (fun hh => ?_) (fun hh => ?_))
  · have hlt : i < L.length := by simpa using hh
    have hx := atE_at hlt
    obtain ⟨ga, o, rfl⟩ := hA (by omega)
    obtain rfl := hT (by omega)
    refine awp_heap (.ro ga o (ecells L) :: (T3 ++ Jr)) (HLe.refl _) ?_
    refine awp_skip ?_
    repeat (with_reducible (first | refine nx_block_normal ?_ | refine nx_scope_normal ?_))
    with_reducible first | refine nx_normal ?_ | refine nx_normalM ?_
    refine awp_seq (awp_block ?_)

    refine awp_seq_region (fun Z hZ => ?_)
    refine sx_move rfl rfl ?_
    refine sx_indexAddr (o + i * 4) Try.underlying27 tyS51 rfl rfl (by omega) (by simp) rfl ?_
    refine sx_loadRo 0 rfl rfl (i * 4) rfl tyA51 tyS51 (ecells_all hx) rfl ?_
    refine sx_alloc tyZ51 rfl (fun g1 => ?_)
    refine sx_assign rfl rfl ?_
    first | refine sx_store 0 rfl rfl rfl tyS51 (by first | (simp only [Value.cells]; first | done | rfl) | rfl) rfl rfl (by first | (simp only [List.length_cons, List.length_nil, Nat.reduceAdd, Nat.zero_add, Nat.add_zero]; first | done | rfl) | rfl) (by first | (simp only [List.take_succ_cons, List.take_zero, List.drop_succ_cons, List.drop_zero, List.cons_append, List.nil_append, List.append_nil, List.length_cons, List.length_nil, Nat.reduceAdd, Nat.zero_add, Nat.add_zero, Value.cells, wrV]; first | done | rfl) | rfl) (by first | (simp only [List.set_cons_succ, List.set_cons_zero]; first | done | rfl) | rfl) ?_ | refine sx_store 1 rfl rfl rfl tyS51 (by first | (simp only [Value.cells]; first | done | rfl) | rfl) rfl rfl (by first | (simp only [List.length_cons, List.length_nil, Nat.reduceAdd, Nat.zero_add, Nat.add_zero]; first | done | rfl) | rfl) (by first | (simp only [List.take_succ_cons, List.take_zero, List.drop_succ_cons, List.drop_zero, List.cons_append, List.nil_append, List.append_nil, List.length_cons, List.length_nil, Nat.reduceAdd, Nat.zero_add, Nat.add_zero, Value.cells, wrV]; first | done | rfl) | rfl) (by first | (simp only [List.set_cons_succ, List.set_cons_zero]; first | done | rfl) | rfl) ?_
    refine sx_nil (hZ _ _ ?_)
    refine awp_forget [(0, _), (3, _), (4, _), (5, _), (6, _), (7, _)] (Kn.cons rfl (Kn.cons rfl (Kn.cons rfl (Kn.cons rfl (Kn.cons rfl (Kn.cons rfl (Kn.nil))))))) ?_
    refine awy_seq_region (fun Z hZ => ?_)
    refine sy_x rfl ?_
    refine sx_move rfl rfl ?_
    refine sx_nil ?_
    refine sy_x rfl ?_
    refine sx_move rfl rfl ?_
    refine sx_nil ?_
    refine sy_x rfl ?_
    refine sx_conv Try.underlying3 Try.underlying48 rfl ((i : Nat) : Int) (by rw [IntWalk.u64_in _ (by omega)]) rfl ?_
    refine sx_nil ?_
    refine sy_x rfl ?_
    first | refine sx_loadA 0 rfl rfl tyA51 tyS51 (by first | (simp only [List.length_cons, List.length_nil, Nat.reduceAdd, Nat.zero_add, Nat.add_zero]; first | done | rfl) | rfl) (by first | (simp only [List.take_succ_cons, List.take_zero, List.drop_succ_cons, List.drop_zero, List.cons_append, List.nil_append, List.append_nil, List.length_cons, List.length_nil, Nat.reduceAdd, Nat.zero_add, Nat.add_zero, Value.cells, wrV]; first | done | rfl) | rfl) rfl ?_ | refine sx_loadA 1 rfl rfl tyA51 tyS51 (by first | (simp only [List.length_cons, List.length_nil, Nat.reduceAdd, Nat.zero_add, Nat.add_zero]; first | done | rfl) | rfl) (by first | (simp only [List.take_succ_cons, List.take_zero, List.drop_succ_cons, List.drop_zero, List.cons_append, List.nil_append, List.append_nil, List.length_cons, List.length_nil, Nat.reduceAdd, Nat.zero_add, Nat.add_zero, Value.cells, wrV]; first | done | rfl) | rfl) rfl ?_
    refine sx_nil ?_
    refine sy_yield [_, _] T3 Jr Jr (hY i _ T3 (by simp [hlt]) hT3) rfl rfl rfl (List.Sublist.refl _) hJr rfl ?_
    rintro v T4 ⟨b, rfl, hb1, hb2⟩
    refine sy_x rfl ?_
    refine sx_not rfl rfl ?_
    refine sx_nil ?_
    refine sy_nil (hZ _ _ ?_)
    refine awp_forget [(0, _), (5, _), (6, _), (7, _), (17, _)] (Kn.cons rfl (Kn.cons rfl (Kn.cons rfl (Kn.cons rfl (Kn.cons rfl (Kn.nil)))))) ?_
    first | refine awp_cond rfl (fun h3 => ?_) (fun h3 => ?_) | refine awp_seq (awp_cond rfl (fun h3 => ?_) (fun h3 => ?_))
    · have hb : b = false := by simpa using h3
      refine awp_ret ?_
      repeat (with_reducible (first | refine nx_then_ret ?_ | refine nx_block_ret ?_ | refine nx_scope_ret ?_))
      exact nx_ret0h T4 rfl (wrs_flt (A := [_, _]) (hS T4 (hb2 hb))) (.inr (hb2 hb))
    have hb : b = true := by simpa using h3
    have hT4 := hb1 hb
    rw [(hJ _ T4 hT4).filter]
    refine awp_skip ?_
    repeat (with_reducible (first | refine nx_block_normal ?_ | refine nx_scope_normal ?_))
    with_reducible first | refine nx_normal ?_ | refine nx_normalM ?_

    refine awp_region (fun Z hZ => ?_)
    refine sx_add rfl rfl ((i + 1 : Nat) : Int) (by rw [IntWalk.i64_in _ (by omega)]; omega) rfl ?_
    refine sx_move rfl rfl ?_
    refine sx_nil (hZ _ _ ?_)
    refine nx_forget [(0, _), (5, _), (6, _), (7, _)] (Kn.cons rfl (Kn.cons rfl (Kn.cons rfl (Kn.cons rfl (Kn.nil))))) ?_
    exact nx_round (i + 1, T4) ⟨by show i + 1 ≤ _; omega, hT4⟩ (by simp; omega) (Kn.cons rfl (Kn.cons rfl (Kn.cons rfl (Kn.cons rfl Kn.nil)))) (HLe.drop 1 rfl)
  · have hie : i = L.length := by simp at hh; omega
    subst hie
    refine awp_exit ?_
    repeat (with_reducible (first | refine nx_then_exit ?_ | refine nx_block_other (by decide) ?_ | refine nx_scope_exit ?_))
    with_reducible refine nx_block_exit ?_
    repeat (with_reducible (first | refine nx_block_normal ?_ | refine nx_scope_normal ?_))
    exact nx_end0h T3 rfl (HLe.sub ((List.sublist_append_left T3 Jr).trans (List.sublist_append_right T _))) (.inl hT3)
end Go.Proofs.Ytfffhnefjaomnaa
