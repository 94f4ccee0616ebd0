/- The walk of entry.Contents. Conditions: the lists are not too long. -/
import Derived.Test.YtffahimbmpddpaaMg14
import Derived.Test.YtffahimbmpddpaaSxO
namespace Go.Proofs.Ytffahimbmpddpaa.V
open Go.RowKit
set_option linter.unusedVariables false
set_option linter.unusedSimpArgs false
set_option maxRecDepth 100000
abbrev CtM := List ((Nat × Nat) × Nat)
def seeC (M : CtM) (k : Nat × Nat) : CtM := aput M k ((aget M k).getD 0 + 1)
def cst1 (M : CtM) (e : En) : CtM := if chkE e = 0 ∧ 0 < e.run then seeC M (e.off, e.len) else M
def cstM (L : List En) : CtM := L.foldl cst1 []
theorem cstM_snoc {L : List En} {k : Nat} {x : En} (h : L[k]? = some x) : cstM (L.take (k + 1)) = cst1 (cstM (L.take k)) x := by
  obtain ⟨hlt, rfl⟩ := List.getElem?_eq_some_iff.1 h
  unfold cstM
  rw [List.take_succ_eq_append_getElem hlt, List.foldl_append, List.foldl_cons, List.foldl_nil]
theorem cst_le : ∀ (L : List En) (i : Nat), i ≤ L.length → ∀ k, (aget (cstM (L.take i)) k).getD 0 ≤ i
  | L, 0, _, k => by simp [cstM, aget]
  | L, i + 1, h, k => by
    have hx : L[i]? = some L[i] := List.getElem?_eq_getElem (by omega)
    have ih := cst_le L i (by omega)
    rw [cstM_snoc hx]
    unfold cst1 seeC
    split
    · rw [aget_put]
      split
      · have := ih (L[i].off, L[i].len); simp only [Option.getD_some]; omega
      · have := ih k; omega
    · have := ih k; omega
abbrev seenE (gm : Nat) (M : CtM) : Ent := mapS (fun c : Nat × Nat => ctV c) (fun n : Nat => iq (n : Nat)) gm M
theorem contents_fn (A : Option Addr) (c : Nat) (L : List En) (T : Heap) (hA : ArgOk A L.length) (hT : 0 < L.length → T = roE A (ecells L)) (hL : L.length ≤ 100000) (hE : EnsOk L) :
    Fn Try.prog 20 [.slice A L.length c] T fun v _ => v = iq ((cstM L).length : Nat) := by
  refine Fn.enter (N := 33) Try.func20 rfl (by kernel_rfl) rfl (fun w0 => ?_)

  refine awp_seq_region (fun Z hZ => ?_)
  refine sx_assign rfl rfl ?_
  refine sx_nil (hZ _ _ ?_)
  refine awp_forget [(0, _)] (Kn.cons rfl (Kn.nil)) ?_
  refine awp_seq_region (fun Z hZ => ?_)
  refine sx_makeMapS rfl (fun c : Nat × Nat => ctV c) (fun n : Nat => iq (n : Nat)) (fun gm => ?_)
  refine sx_assign rfl rfl ?_
  refine sx_nil (hZ _ _ ?_)
  refine awp_forget [(0, _), (3, _)] (Kn.cons rfl (Kn.cons rfl (Kn.nil))) ?_
  refine awp_seq ?_
  refine awp_seq_region (fun Z hZ => ?_)
  refine sx_move rfl rfl ?_
  first | refine sx_len Try.underlying24 rfl rfl ?_ | refine sx_lenS Try.underlying24 rfl rfl ?_
  refine sx_move rfl rfl ?_
  refine sx_nil (hZ _ _ ?_)
  refine awp_forget [(3, _), (7, _), (8, _), (9, _)] (Kn.cons rfl (Kn.cons rfl (Kn.cons rfl (Kn.cons rfl (Kn.nil))))) ?_
  refine awp_block ?_
  refine awp_loop (ι := Nat) (fun i => [(3, .map (some gm)), (7, .slice A L.length c), (8, iq (L.length : Nat)), (9, iq (i : Nat))]) (fun i => seenE gm (cstM (L.take i)) :: T)
    (fun i => i ≤ L.length) (fun i => L.length - i) 0 (by simp) (Kn.cons rfl (Kn.cons rfl (Kn.cons rfl (Kn.cons rfl Kn.nil)))) (HLe.refl _) ?_
  rintro i hi
  refine awp_seq_region (fun Z hZ => ?_)
  first | refine sx_lss rfl rfl rfl ?_ | refine sx_slss rfl rfl rfl ?_
  refine sx_nil (hZ _ _ ?_)
  refine awp_forget [(3, _), (7, _), (8, _), (9, _), (10, _)] (Kn.cons rfl (Kn.cons rfl (Kn.cons rfl (Kn.cons rfl (Kn.cons rfl (Kn.nil)))))) ?_
  first | refine awp_cond rfl (fun h1 => ?_) (fun h1 => ?_) | refine awp_seq (awp_cond rfl (fun h1 => ?_) (fun h1 => ?_))
  · have hlt : i < L.length := by simpa using h1
    obtain ⟨x, hx⟩ : ∃ x, L[i]? = some x := ⟨_, List.getElem?_eq_getElem hlt⟩
    have hxo := hE x (List.mem_of_getElem? hx)
    have hsn := cstM_snoc hx
    have hcl := cst_le L i (by omega) (x.off, x.len)
    obtain ⟨M, hM⟩ : ∃ M, cstM (L.take i) = M := ⟨_, rfl⟩
    rw [hM] at hsn hcl ⊢
    obtain ⟨g, o, rfl⟩ := hA (by omega)
    obtain rfl := hT (by omega)
    refine awp_heap [seenE gm M, .ro g o (ecells L)] (HLe.refl _) ?_
    refine awp_skip ?_
    repeat (with_reducible (first | refine nx_block_normal ?_ | refine nx_scope_normal ?_))
    with_reducible first | refine nx_normal ?_ | refine nx_normalM ?_
    refine awp_seq (awp_block ?_)

    refine awp_seq_region (fun Z hZ => ?_)
    refine sx_indexAddr (o + i * 4) Try.underlying24 tyS63 rfl rfl (by omega) (by simp) rfl ?_
    refine sx_loadRo 1 rfl rfl (i * 4) rfl tyA63 tyS63 (ecells_all hx) rfl ?_
    refine sx_alloc tyZ63 rfl (fun g1 => ?_)
    first | refine sx_store 0 rfl rfl rfl tyS63 (by first | (simp only [Value.cells]; first | done | rfl) | rfl) rfl rfl (by first | (simp only [List.length_cons, List.length_nil, Nat.reduceAdd, Nat.zero_add, Nat.add_zero]; first | done | rfl) | rfl) (by first | (simp only [List.take_succ_cons, List.take_zero, List.drop_succ_cons, List.drop_zero, List.cons_append, List.nil_append, List.append_nil, List.length_cons, List.length_nil, Nat.reduceAdd, Nat.zero_add, Nat.add_zero, Value.cells, wrV]; first | done | rfl) | rfl) (by first | (simp only [List.set_cons_succ, List.set_cons_zero]; first | done | rfl) | rfl) ?_ | refine sx_store 1 rfl rfl rfl tyS63 (by first | (simp only [Value.cells]; first | done | rfl) | rfl) rfl rfl (by first | (simp only [List.length_cons, List.length_nil, Nat.reduceAdd, Nat.zero_add, Nat.add_zero]; first | done | rfl) | rfl) (by first | (simp only [List.take_succ_cons, List.take_zero, List.drop_succ_cons, List.drop_zero, List.cons_append, List.nil_append, List.append_nil, List.length_cons, List.length_nil, Nat.reduceAdd, Nat.zero_add, Nat.add_zero, Value.cells, wrV]; first | done | rfl) | rfl) (by first | (simp only [List.set_cons_succ, List.set_cons_zero]; first | done | rfl) | rfl) ?_ | refine sx_store 2 rfl rfl rfl tyS63 (by first | (simp only [Value.cells]; first | done | rfl) | rfl) rfl rfl (by first | (simp only [List.length_cons, List.length_nil, Nat.reduceAdd, Nat.zero_add, Nat.add_zero]; first | done | rfl) | rfl) (by first | (simp only [List.take_succ_cons, List.take_zero, List.drop_succ_cons, List.drop_zero, List.cons_append, List.nil_append, List.append_nil, List.length_cons, List.length_nil, Nat.reduceAdd, Nat.zero_add, Nat.add_zero, Value.cells, wrV]; first | done | rfl) | rfl) (by first | (simp only [List.set_cons_succ, List.set_cons_zero]; first | done | rfl) | rfl) ?_
    refine sx_nil (hZ _ _ ?_)
    refine awp_forget [(3, _), (5, _), (7, _), (8, _), (9, _)] (Kn.cons rfl (Kn.cons rfl (Kn.cons rfl (Kn.cons rfl (Kn.cons rfl (Kn.nil)))))) ?_

    refine awp_seq_meet [(3, .map (some gm)), (5, ptr g1 0), (7, .slice (some ⟨g, o, none⟩) L.length c), (8, iq (L.length : Nat)), (9, iq (i : Nat)), (19, .bool (decide (chkE x = 0 ∧ 0 < x.run)))] [.own g1 63 x.cells, seenE gm M, .ro g o (ecells L)] (fun Z hZ => ?_) ?_
    · first | refine sx_loadA 0 rfl rfl tyA63 tyS63 (by first | (simp only [List.length_cons, List.length_nil, Nat.reduceAdd, Nat.zero_add, Nat.add_zero]; first | done | rfl) | rfl) (by first | (simp only [List.take_succ_cons, List.take_zero, List.drop_succ_cons, List.drop_zero, List.cons_append, List.nil_append, List.append_nil, List.length_cons, List.length_nil, Nat.reduceAdd, Nat.zero_add, Nat.add_zero, Value.cells, wrV]; first | done | rfl) | rfl) rfl ?_ | refine sx_loadA 1 rfl rfl tyA63 tyS63 (by first | (simp only [List.length_cons, List.length_nil, Nat.reduceAdd, Nat.zero_add, Nat.add_zero]; first | done | rfl) | rfl) (by first | (simp only [List.take_succ_cons, List.take_zero, List.drop_succ_cons, List.drop_zero, List.cons_append, List.nil_append, List.append_nil, List.length_cons, List.length_nil, Nat.reduceAdd, Nat.zero_add, Nat.add_zero, Value.cells, wrV]; first | done | rfl) | rfl) rfl ?_ | refine sx_loadA 2 rfl rfl tyA63 tyS63 (by first | (simp only [List.length_cons, List.length_nil, Nat.reduceAdd, Nat.zero_add, Nat.add_zero]; first | done | rfl) | rfl) (by first | (simp only [List.take_succ_cons, List.take_zero, List.drop_succ_cons, List.drop_zero, List.cons_append, List.nil_append, List.append_nil, List.length_cons, List.length_nil, Nat.reduceAdd, Nat.zero_add, Nat.add_zero, Value.cells, wrV]; first | done | rfl) | rfl) rfl ?_
      refine sx_callP (emay_fn x hxo) rfl rfl ?_
      refine sx_move rfl rfl ?_
      refine sx_split 15 rfl (fun hb2 => ?_) (fun hb2 => ?_)
      · refine sx_on rfl rfl rfl ?_
        refine sx_fieldAddr rfl tyF63_3 (by first | (simp only [Nat.reduceAdd, Nat.add_zero, Nat.zero_add]; first | done | rfl) | rfl) rfl ?_
        refine sx_on rfl rfl rfl ?_
        first | refine sx_load 0 rfl rfl tyA61 tyS61 rfl rfl ?_ | refine sx_load 1 rfl rfl tyA61 tyS61 rfl rfl ?_ | refine sx_load 2 rfl rfl tyA61 tyS61 rfl rfl ?_
        refine sx_on rfl rfl rfl ?_
        first | refine sx_gtr rfl rfl rfl ?_ | refine sx_sgtr rfl rfl rfl ?_
        refine sx_pick rfl rfl rfl ?_
        refine sx_nil (hZ _ _ ?_ ?_)
        · exact Kn.cons rfl (Kn.cons rfl (Kn.cons rfl (Kn.cons rfl (Kn.cons rfl (Kn.cons (congrArg some (congrArg Value.bool (by first | (simp at *; done) | (simp at *; omega) | (simp at *; simp_all; done) | (simp at *; simp_all; omega)))) Kn.nil)))))
        · exact HLe.refl _
      · refine sx_off rfl rfl rfl rfl rfl ?_
        refine sx_off rfl rfl rfl rfl rfl ?_
        refine sx_off rfl rfl rfl rfl rfl ?_
        refine sx_pick rfl rfl rfl ?_
        refine sx_nil (hZ _ _ ?_ ?_)
        · exact Kn.cons rfl (Kn.cons rfl (Kn.cons rfl (Kn.cons rfl (Kn.cons rfl (Kn.cons (congrArg some (congrArg Value.bool (by first | (simp at *; done) | (simp at *; omega) | (simp at *; simp_all; done) | (simp at *; simp_all; omega)))) Kn.nil)))))
        · exact HLe.refl _
    first | refine awp_cond rfl (fun h2 => ?_) (fun h2 => ?_) | refine awp_seq (awp_cond rfl (fun h2 => ?_) (fun h2 => ?_))
    · have hc : chkE x = 0 ∧ 0 < x.run := by simpa using h2
      have h3 : cst1 M x = aput M (x.off, x.len) ((aget M (x.off, x.len)).getD 0 + 1) := by unfold cst1 seeC; rw [if_pos hc]
      have hget : ((aget M (x.off, x.len)).map fun n : Nat => iq (n : Nat)).getD (iq (0 : Nat)) = iq ((aget M (x.off, x.len)).getD 0 : Nat) := by cases aget M (x.off, x.len) <;> rfl
      rw [h3] at hsn
      obtain ⟨n, hn⟩ : ∃ n, (aget M (x.off, x.len)).getD 0 = n := ⟨_, rfl⟩
      rw [hn] at hget hcl hsn
      refine awr_region (fun _ : Unit => [(3, .map (some gm)), (7, .slice (some ⟨g, o, none⟩) L.length c), (8, iq (L.length : Nat)), (9, iq (i : Nat))]) (fun _ => [seenE gm (aput M (x.off, x.len) (n + 1)), .ro g o (ecells L)]) (fun _ => True) _ [6, 8, 10] (Tr.step (0, true) (Tr.step (1, true) (Tr.step (2, true) (Tr.step (3, true) (Tr.step (4, true) (Tr.step (5, true) (Tr.fork (Tr.step (6, false) (Tr.step (7, true) (Tr.step (8, false) (Tr.step (9, true) (Tr.step (10, false) Tr.nil))))) (Tr.step (8, false) (Tr.step (9, true) (Tr.step (6, false) (Tr.step (7, true) (Tr.step (10, false) Tr.nil)))))))))))) mixed (by kernel_rfl) (HLe.pick [0] (by simp) (by simp only [pick, List.filterMap_cons, List.filterMap_nil, List.getElem?_cons_succ, List.getElem?_cons_zero]; rfl)) ?_ ?_
      · refine tt_p rfl ?_
        refine sv_move rfl rfl ?_
        refine sv_nil ?_
        refine tt_p rfl ?_
        refine sv_fieldAddr rfl tyF63_1 (by first | (simp only [Nat.reduceAdd, Nat.add_zero, Nat.zero_add]; first | done | rfl) | rfl) rfl ?_
        refine sv_nil ?_
        refine tt_p rfl ?_
        first | refine sv_load 0 rfl rfl tyA46 tyS46 rfl rfl ?_
        refine sv_nil ?_
        refine tt_p rfl ?_
        refine sv_fieldAddr rfl tyF63_2 (by first | (simp only [Nat.reduceAdd, Nat.add_zero, Nat.zero_add]; first | done | rfl) | rfl) rfl ?_
        refine sv_nil ?_
        refine tt_p rfl ?_
        first | refine sv_load 0 rfl rfl tyA61 tyS61 rfl rfl ?_
        refine sv_nil ?_
        refine tt_p rfl ?_
        refine sv_build tyZ91 tyP91 rfl rfl (by first | (simp only [List.take_succ_cons, List.take_zero, List.drop_succ_cons, List.drop_zero, List.cons_append, List.nil_append, List.append_nil, List.length_cons, List.length_nil, Nat.reduceAdd, Nat.zero_add, Nat.add_zero, Value.cells, wrV, zrep_one, List.replicate_succ, List.replicate_zero, Nat.reduceMul, Nat.zero_mul]; first | done | rfl) | rfl) rfl ?_
        refine sv_nil ?_
        refine tt_fork ?_ ?_
        · refine tt_g rfl ?_
          first | refine sx_lookupS 1 keyC Try.underlying89 zeroI (x.off, x.len) (iq (n : Nat)) rfl rfl rfl hget rfl ?_ | refine sx_lookupR 1 keyC Try.underlying89 zeroI (x.off, x.len) (iq (n : Nat)) rfl rfl rfl hk1 (hu1.trans hget) rfl ?_
          refine sx_nil ⟨HLe.pick [0] (by simp) rfl, ?_⟩
          refine tt_p rfl ?_
          refine sv_add rfl rfl ((n + 1 : Nat) : Int) (by rw [IntWalk.i64_in _ (by omega)]; omega) rfl ?_
          refine sv_nil ?_
          refine tt_g rfl ?_
          refine sx_mapEntry 1 keyC Try.underlying89 zeroI (zv := 0) rfl (x.off, x.len) rfl rfl rfl rfl (fun M1 u1 M2 st hk1 hu1 hap => ?_)
          refine sx_nil ⟨HLe.pick [0] (by simp) rfl, ?_⟩
          refine tt_p rfl ?_
          refine sv_extract rfl rfl rfl ?_
          refine sv_nil ?_
          refine tt_g rfl ?_
          refine sx_entryStore (v := n + 1) 1 rfl rfl rfl rfl rfl ?_
          refine sx_nil ⟨HLe.pick [0] (by simp) rfl, ?_⟩
          refine tt_nil ?_
          rw [hap]
          exact ⟨(), trivial, Kn.cons rfl (Kn.cons rfl (Kn.cons rfl (Kn.cons rfl Kn.nil))), HLe.drop 1 rfl⟩
        · refine tt_g rfl ?_
          refine sx_mapEntry 1 keyC Try.underlying89 zeroI (zv := 0) rfl (x.off, x.len) rfl rfl rfl rfl (fun M1 u1 M2 st hk1 hu1 hap => ?_)
          refine sx_nil ⟨HLe.pick [0] (by simp) rfl, ?_⟩
          refine tt_p rfl ?_
          refine sv_extract rfl rfl rfl ?_
          refine sv_nil ?_
          refine tt_g rfl ?_
          first | refine sx_lookupS 1 keyC Try.underlying89 zeroI (x.off, x.len) (iq (n : Nat)) rfl rfl rfl hget rfl ?_ | refine sx_lookupR 1 keyC Try.underlying89 zeroI (x.off, x.len) (iq (n : Nat)) rfl rfl rfl hk1 (hu1.trans hget) rfl ?_
          refine sx_nil ⟨HLe.pick [0] (by simp) rfl, ?_⟩
          refine tt_p rfl ?_
          refine sv_add rfl rfl ((n + 1 : Nat) : Int) (by rw [IntWalk.i64_in _ (by omega)]; omega) rfl ?_
          refine sv_nil ?_
          refine tt_g rfl ?_
          refine sx_entryStore (v := n + 1) 1 rfl rfl rfl rfl rfl ?_
          refine sx_nil ⟨HLe.pick [0] (by simp) rfl, ?_⟩
          refine tt_nil ?_
          rw [hap]
          exact ⟨(), trivial, Kn.cons rfl (Kn.cons rfl (Kn.cons rfl (Kn.cons rfl Kn.nil))), HLe.drop 1 rfl⟩
      rintro ⟨⟩ -
      repeat (with_reducible (first | refine nx_block_normal ?_ | refine nx_scope_normal ?_))
      with_reducible first | refine nx_normal ?_ | refine nx_normalM ?_
      refine awp_region (fun Z hZ => ?_)
      refine sx_add rfl rfl ((i + 1 : Nat) : Int) (by rw [IntWalk.i64_in _ (by omega)]; omega) rfl ?_
      refine sx_move rfl rfl ?_
      refine sx_nil (hZ _ _ ?_)
      refine nx_forget [(3, _), (7, _), (8, _), (9, _)] (Kn.cons rfl (Kn.cons rfl (Kn.cons rfl (Kn.cons rfl (Kn.nil))))) ?_
      exact nx_round (i + 1) hlt (by omega) (Kn.cons rfl (Kn.cons rfl (Kn.cons rfl (Kn.cons rfl Kn.nil)))) (by rw [hsn]; exact HLe.refl _)
    · have hc : ¬ (chkE x = 0 ∧ 0 < x.run) := by simpa using h2
      have h3 : cst1 M x = M := by unfold cst1; rw [if_neg hc]
      rw [h3] at hsn
      refine awp_skip ?_
      repeat (with_reducible (first | refine nx_block_normal ?_ | refine nx_scope_normal ?_))
      with_reducible first | refine nx_normal ?_ | refine nx_normalM ?_
      refine awp_region (fun Z hZ => ?_)
      refine sx_add rfl rfl ((i + 1 : Nat) : Int) (by rw [IntWalk.i64_in _ (by omega)]; omega) rfl ?_
      refine sx_move rfl rfl ?_
      refine sx_nil (hZ _ _ ?_)
      refine nx_forget [(3, _), (7, _), (8, _), (9, _)] (Kn.cons rfl (Kn.cons rfl (Kn.cons rfl (Kn.cons rfl (Kn.nil))))) ?_
      exact nx_round (i + 1) hlt (by omega) (Kn.cons rfl (Kn.cons rfl (Kn.cons rfl (Kn.cons rfl Kn.nil)))) (by rw [hsn]; exact HLe.drop 1 rfl)
  · refine awp_exit ?_
    repeat (with_reducible (first | refine nx_then_exit ?_ | refine nx_block_other (by decide) ?_ | refine nx_scope_exit ?_))
    with_reducible refine nx_block_exit ?_
    repeat (with_reducible (first | refine nx_block_normal ?_ | refine nx_scope_normal ?_))
    with_reducible first | refine nx_normal ?_ | refine nx_normalM ?_
    have hke : i = L.length := by simp at h1; omega
    subst hke
    rw [List.take_length]

    refine awp_seq_region (fun Z hZ => ?_)
    refine sx_move rfl rfl ?_
    refine sx_lenS2 0 Try.underlying89 rfl rfl rfl ?_
    refine sx_assign rfl rfl ?_
    refine sx_nil (hZ _ _ ?_)
    refine awp_forget [(2, _)] (Kn.cons rfl (Kn.nil)) ?_
    refine awp_ret ?_
    repeat (with_reducible (first | refine nx_then_ret ?_ | refine nx_block_ret ?_ | refine nx_scope_ret ?_))
    exact nx_ret1 rfl rfl rfl
end Go.Proofs.Ytffahimbmpddpaa.V
