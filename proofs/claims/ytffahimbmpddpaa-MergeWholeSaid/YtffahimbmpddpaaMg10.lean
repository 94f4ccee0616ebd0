/- The walks of the document's Add and Rows. Conditions: the chart is one. -/
import Derived.Test.YtffahimbmpddpaaMg9
namespace Go.Proofs.Ytffahimbmpddpaa.V
open Go.RowKit
set_option linter.unusedVariables false
set_option linter.unusedSimpArgs false
set_option maxRecDepth 100000
theorem radd_fn (A : Option Addr) (c : Nat) (ts : List Tx) (s : Tx) (hA : SlOk A ts.length) (hok : TsOk ts) (hfl : ts.flatten.length + s.length ≤ 1000000000) (hts : ts.length < 2048) (hs0 : s ≠ []) (hs : s.length ≤ 65536) :
    Fn Try.prog 45 [.slice A ts.length c, .string (str s)] (roE A (txL ts)) fun v H' => ∃ u b, v = .tuple #[u, ctV (addC ts s), .bool b, iq (0 : Nat)] ∧
      ((u = .slice A ts.length c ∧ s ∈ ts ∧ H' = []) ∨ (s ∉ ts ∧ RowOk u (ts.length + 1) ∧ H' = rowE u 9 1 (txL (ts ++ [s])))) := by
  have hfd := rfind_fn A c ts s hA (by omega) (by omega) (by omega)
  have htx := rtext_fn A c ts hA (by omega) (by omega)
  obtain ⟨cc, b, hfv, hct, hcf⟩ : ∃ c b, fdV (fdQ 0 ts s) = .tuple #[ctV c, .bool b] ∧ (b = true → fdQ 0 ts s = some c) ∧ (b = false → fdQ 0 ts s = none) := by
    cases fdQ 0 ts s with
    | none => exact ⟨_, false, rfl, fun h => (by cases h), fun _ => rfl⟩
    | some c => exact ⟨c, true, rfl, fun _ => rfl, fun h => (by cases h)⟩
  rw [hfv] at hfd
  have hsl : 0 < s.length := List.length_pos_iff.2 hs0
  refine Fn.enter (N := 50) Try.func45 rfl (by kernel_rfl) rfl (fun w0 => ?_)

  refine awp_seq_region (fun Z hZ => ?_)
  refine sx_assign rfl rfl ?_
  refine sx_alloc tyZ95 rfl (fun g1 => ?_)
  refine sx_assign rfl rfl ?_
  refine sx_assign rfl rfl ?_
  refine sx_nil (hZ _ _ ?_)
  refine awp_forget [(0, _), (1, _), (5, _)] (Kn.cons rfl (Kn.cons rfl (Kn.cons rfl (Kn.nil)))) ?_

  refine awp_seq ?_
  refine awp_seq_region (fun Z hZ => ?_)
  refine sx_move rfl rfl ?_
  refine sx_lenS Try.underlying9 rfl rfl ?_
  refine sx_eql rfl rfl rfl ?_
  refine sx_nil (hZ _ _ ?_)
  refine awp_forget [(0, _), (1, _), (5, _), (13, _)] (Kn.cons rfl (Kn.cons rfl (Kn.cons rfl (Kn.cons rfl (Kn.nil))))) ?_
  refine awp_cond rfl (fun h2 => ?_) (fun h2 => ?_)
  · simp at h2; exact absurd h2 hs0
  refine awp_skip ?_
  with_reducible refine nx_normal ?_
  refine awp_seq ?_
  refine awp_seq_region (fun Z hZ => ?_)
  refine sx_move rfl rfl ?_
  refine sx_lenS Try.underlying9 rfl rfl ?_
  refine sx_gtr rfl rfl rfl ?_
  refine sx_nil (hZ _ _ ?_)
  refine awp_forget [(0, _), (1, _), (5, _), (18, _)] (Kn.cons rfl (Kn.cons rfl (Kn.cons rfl (Kn.cons rfl (Kn.nil))))) ?_
  refine awp_cond rfl (fun h3 => ?_) (fun h3 => ?_)
  · simp at h3; omega
  refine awp_skip ?_
  with_reducible refine nx_normal ?_
  refine awp_seq_region (fun Z hZ => ?_)
  refine sx_move rfl rfl ?_
  refine sx_move rfl rfl ?_
  refine sx_callPT (roE A (txL ts)) hfd rfl (List.sublist_cons_self _ _) (Ro.roE _ _) rfl ?_
  refine sx_move rfl rfl ?_
  refine sx_extract rfl rfl rfl ?_
  refine sx_extract rfl rfl rfl ?_
  refine sx_alloc tyZ95 rfl (fun g2 => ?_)
  refine sx_store 0 rfl rfl rfl tyS95 (by first | (simp only [Value.cells]; first | done | rfl) | rfl) rfl rfl (by first | (simp only [List.length_cons, List.length_nil, Nat.reduceAdd, Nat.zero_add, Nat.add_zero]; first | done | rfl) | rfl) (by first | (simp only [List.take_succ_cons, List.take_zero, List.drop_succ_cons, List.drop_zero, List.cons_append, List.nil_append, List.append_nil, List.length_cons, List.length_nil, Nat.reduceAdd, Nat.zero_add, Nat.add_zero, Value.cells, wrV]; first | done | rfl) | rfl) (by first | (simp only [List.set_cons_succ, List.set_cons_zero]; first | done | rfl) | rfl) ?_
  refine sx_assign rfl rfl ?_
  refine sx_nil (hZ _ _ ?_)
  refine awp_forget [(0, _), (1, _), (5, _), (8, _), (9, _)] (Kn.cons rfl (Kn.cons rfl (Kn.cons rfl (Kn.cons rfl (Kn.cons rfl (Kn.nil)))))) ?_

  refine awp_seq ?_
  refine awp_seq_region (fun Z hZ => ?_)
  refine sx_move rfl rfl ?_
  refine sx_nil (hZ _ _ ?_)
  refine awp_forget [(0, _), (1, _), (5, _), (8, _), (27, _)] (Kn.cons rfl (Kn.cons rfl (Kn.cons rfl (Kn.cons rfl (Kn.cons rfl (Kn.nil)))))) ?_
  refine awp_cond rfl (fun h4 => ?_) (fun h4 => ?_)
  · have hq := hct (by simpa using h4)
    have hm : s ∈ ts := Classical.byContradiction fun hn => by rw [(fdQ_none ts 0 s).2 hn] at hq; cases hq
    have e2 : addC ts s = cc := by unfold addC; rw [hq]; rfl
    rw [e2]
    refine awd_seq_region [0, 1, 2, 3, 4, 5] mixed (by kernel_rfl) rfl (fun Z hZ => ?_)
    refine sx_move rfl rfl ?_
    refine sx_loadA 0 rfl rfl tyA95 tyS95 (by first | (simp only [List.length_cons, List.length_nil, Nat.reduceAdd, Nat.zero_add, Nat.add_zero]; first | done | rfl) | rfl) (by first | (simp only [List.take_succ_cons, List.take_zero, List.drop_succ_cons, List.drop_zero, List.cons_append, List.nil_append, List.append_nil, List.length_cons, List.length_nil, Nat.reduceAdd, Nat.zero_add, Nat.add_zero, Value.cells, wrV]; first | done | rfl) | rfl) rfl ?_
    refine sx_assign rfl rfl ?_
    refine sx_store 1 rfl rfl rfl tyS95 (by first | (simp only [Value.cells]; first | done | rfl) | rfl) rfl rfl (by first | (simp only [List.length_cons, List.length_nil, Nat.reduceAdd, Nat.zero_add, Nat.add_zero]; first | done | rfl) | rfl) (by first | (simp only [List.take_succ_cons, List.take_zero, List.drop_succ_cons, List.drop_zero, List.cons_append, List.nil_append, List.append_nil, List.length_cons, List.length_nil, Nat.reduceAdd, Nat.zero_add, Nat.add_zero, Value.cells, wrV]; first | done | rfl) | rfl) (by first | (simp only [List.set_cons_succ, List.set_cons_zero]; first | done | rfl) | rfl) ?_
    refine sx_assign rfl rfl ?_
    refine sx_assign rfl rfl ?_
    refine sx_nil (hZ _ _ ?_)
    refine awp_forget [(4, _), (5, _), (6, _), (7, _)] (Kn.cons rfl (Kn.cons rfl (Kn.cons rfl (Kn.cons rfl (Kn.nil))))) ?_
    refine awp_ret ?_
    repeat (with_reducible refine nx_then_ret ?_)
    exact nx_ret4h [] rfl rfl (ResOk.cell 1 rfl rfl tyA95 tyS95 rfl) rfl rfl (HLe.sub (List.nil_sublist _)) ⟨_, _, rfl, .inl ⟨rfl, hm, rfl⟩⟩
  have hq := hcf (by simpa using h4)
  have hm : s ∉ ts := (fdQ_none ts 0 s).1 hq
  have e2 : addC ts s = (ts.flatten.length, s.length) := by unfold addC; rw [hq]; rfl
  rw [e2]
  refine awp_skip ?_
  with_reducible refine nx_normal ?_
  refine awp_seq ?_
  refine awp_seq_region (fun Z hZ => ?_)
  refine sx_move rfl rfl ?_
  refine sx_len Try.underlying94 rfl rfl ?_
  refine sx_geq rfl rfl rfl ?_
  refine sx_nil (hZ _ _ ?_)
  refine awp_forget [(0, _), (1, _), (5, _), (32, _)] (Kn.cons rfl (Kn.cons rfl (Kn.cons rfl (Kn.cons rfl (Kn.nil))))) ?_
  refine awp_cond rfl (fun h5 => ?_) (fun h5 => ?_)
  · simp at h5; omega
  refine awp_skip ?_
  with_reducible refine nx_normal ?_
  refine awp_seq_region (fun Z hZ => ?_)
  refine sx_assign rfl rfl ?_
  refine sx_nil (hZ _ _ ?_)
  refine awp_forget [(0, _), (1, _), (5, _), (10, _)] (Kn.cons rfl (Kn.cons rfl (Kn.cons rfl (Kn.cons rfl (Kn.nil))))) ?_
  refine awp_seq_region (fun Z hZ => ?_)
  refine sx_move rfl rfl ?_
  refine sx_move rfl rfl ?_
  refine sx_appendE (xs := []) (n := 0) (_ :: _ :: roE A (txL ts)) elemTx rfl RowOk.nil rfl rfl (fun w hw => rd_roE hA (fun x hx => List.mem_cons_of_mem _ (List.mem_cons_of_mem _ hx)) (by simp) hw) (txL_one ts) (by show _ ≤ 9223372036854775807; omega) (by omega) (by show HLe ((_ :: _ :: roE A (txL ts)) ++ []) _; rw [List.append_nil]; exact HLe.refl _) rfl (fun v1 hv1 => ?_)
  rw [Nat.zero_add, List.nil_append] at *
  obtain ⟨A1, c1, rfl, hA1⟩ := hv1.form
  refine sx_assign rfl rfl ?_
  refine sx_nil (hZ _ _ ?_)
  refine awp_forget [(0, _), (1, _), (5, _), (10, _)] (Kn.cons rfl (Kn.cons rfl (Kn.cons rfl (Kn.cons rfl (Kn.nil))))) ?_
  refine awp_seq_region (fun Z hZ => ?_)
  refine sx_move rfl rfl ?_
  refine sx_move rfl rfl ?_
  refine sx_buildSlice Try.underlying94 tyS9 tyZ9 rfl rfl rfl rfl (by first | (simp only [List.take_succ_cons, List.take_zero, List.drop_succ_cons, List.drop_zero, List.cons_append, List.nil_append, List.append_nil, List.length_cons, List.length_nil, Nat.reduceAdd, Nat.zero_add, Nat.add_zero, Value.cells, wrV, zrep_one, List.replicate_succ, List.replicate_zero, Nat.reduceMul, Nat.zero_mul]; first | done | rfl) | rfl) rfl (fun g3 => ?_)
  refine sx_appendE (xs := txL ts) (_ :: _ :: _ :: roE A (txL ts)) elemTx rfl hv1 (by simp) rfl (fun w hw => rd_own (i := 0) (xs := [.string (str s)]) rfl rfl hw) rfl (by show _ ≤ 9223372036854775807; omega) (by omega) (HLe.refl _) rfl (fun v2 hv2 => ?_)
  obtain ⟨g2, c2, rfl⟩ := hv2.some (by omega)
  refine sx_move rfl rfl ?_
  refine sx_callPT (roE A (txL ts)) htx rfl ?_ (Ro.roE _ _) rfl ?_
  exact (List.sublist_append_left (roE A (txL ts)) _).trans (List.Sublist.cons _ (List.Sublist.cons _ (List.Sublist.cons _ (List.Sublist.refl _))))
  refine sx_lenS Try.underlying9 rfl rfl ?_
  refine sx_conv Try.underlying3 Try.underlying46 rfl ((ts.flatten.length : Nat) : Int) (by rw [IntWalk.u64_in _ (by omega)]) rfl ?_
  refine sx_move rfl rfl ?_
  refine sx_lenS Try.underlying9 rfl rfl ?_
  refine sx_conv Try.underlying3 Try.underlying61 rfl ((s.length : Nat) : Int) (by rw [IntWalk.u32_in _ (by omega)]) rfl ?_
  refine sx_build tyZ95 tyP95 rfl rfl (by first | (simp only [List.take_succ_cons, List.take_zero, List.drop_succ_cons, List.drop_zero, List.cons_append, List.nil_append, List.append_nil, List.length_cons, List.length_nil, Nat.reduceAdd, Nat.zero_add, Nat.add_zero, Value.cells, wrV, zrep_one, List.replicate_succ, List.replicate_zero, Nat.reduceMul, Nat.zero_mul]; first | done | rfl) | rfl) rfl ?_
  refine sx_assign rfl rfl ?_
  refine sx_store 2 rfl rfl rfl tyS95 (by first | (simp only [Value.cells]; first | done | rfl) | rfl) rfl rfl (by first | (simp only [List.length_cons, List.length_nil, Nat.reduceAdd, Nat.zero_add, Nat.add_zero]; first | done | rfl) | rfl) (by first | (simp only [List.take_succ_cons, List.take_zero, List.drop_succ_cons, List.drop_zero, List.cons_append, List.nil_append, List.append_nil, List.length_cons, List.length_nil, Nat.reduceAdd, Nat.zero_add, Nat.add_zero, Value.cells, wrV]; first | done | rfl) | rfl) (by first | (simp only [List.set_cons_succ, List.set_cons_zero]; first | done | rfl) | rfl) ?_
  refine sx_assign rfl rfl ?_
  refine sx_assign rfl rfl ?_
  refine sx_nil (hZ _ _ ?_)
  refine awp_forget [(4, _), (5, _), (6, _), (7, _)] (Kn.cons rfl (Kn.cons rfl (Kn.cons rfl (Kn.cons rfl (Kn.nil))))) ?_
  refine awp_ret ?_
  refine nx_ret4h (rowE (.slice (some ⟨g2, 0, none⟩) (ts.length + 1) c2) 9 1 (txL ts ++ [.string (str s)])) rfl rfl (ResOk.cell 2 rfl rfl tyA95 tyS95 rfl) rfl rfl ?_ ⟨_, _, rfl, .inr ⟨hm, hv2, by simp [txL]⟩⟩
  exact HLe.sub ((List.sublist_append_right (roE A (txL ts)) _).trans (List.Sublist.cons _ (List.Sublist.cons _ (List.Sublist.cons _ (List.Sublist.refl _)))))
theorem radd_case {A : Option Addr} {c : Nat} {ts : List Tx} {s : Tx} {u : Value} {H' : Heap} (hA : SlOk A ts.length)
    (h : (u = .slice A ts.length c ∧ s ∈ ts ∧ H' = []) ∨ (s ∉ ts ∧ RowOk u (ts.length + 1) ∧ H' = rowE u 9 1 (txL (ts ++ [s])))) :
    ∃ A' c', u = .slice A' (addT ts s).length c' ∧ SlOk A' (addT ts s).length ∧ ∀ X K : Heap, HLe (X ++ (roE A' (txL (addT ts s)) ++ K)) (H'.filter Ent.wr ++ (X ++ (roE A (txL ts) ++ K))) := by
  rcases h with ⟨rfl, hm, rfl⟩ | ⟨hm, hu, rfl⟩
  · rw [show addT ts s = ts by unfold addT; rw [if_pos hm]]
    exact ⟨A, c, rfl, hA, fun X K => HLe.refl _⟩
  · rw [show addT ts s = ts ++ [s] by unfold addT; rw [if_neg hm], List.length_append, List.length_singleton]
    obtain ⟨A', c', rfl, hA', hle⟩ := hu.ro
    refine ⟨A', c', rfl, hA', fun X K => ?_⟩
    rw [rowE_flt]
    exact (hle X K _ _ _).trans ((HLe.sub (List.Sublist.append_left (List.Sublist.append_left (List.sublist_append_right _ K) _) X)).trans (HLe.comm3 _ X _))
theorem le_r9 (a b c e : Ent) (R : Heap) : HLe (a :: e :: c :: R) (a :: b :: c :: (R ++ [e])) :=
  (HLe.perm (A := a :: e :: c :: R) (B := a :: c :: (R ++ [e])) (List.Perm.cons a (List.perm_append_singleton e (c :: R)))).trans (HLe.sub (List.Sublist.cons_cons a (List.Sublist.cons b (List.Sublist.refl _))))
theorem le_r9b (a c e : Ent) (R : Heap) : HLe (c :: (R ++ [e])) (a :: e :: c :: R) :=
  (HLe.perm (A := c :: (R ++ [e])) (B := e :: c :: R) (List.perm_append_singleton e (c :: R)).symm).trans (HLe.sub (List.sublist_cons_self _ _))
theorem rrows_fn (A : Option Addr) (c : Nat) (L : List It) (T : Heap) (hA : ArgOk A L.length) (hT : 0 < L.length → T = roE A (icells L)) (hro : Ro T) (hok : ChOk L) :
    Fn Try.prog 24 [.slice A L.length c] T fun v H' => ∃ u, v = .tuple #[u, .string (str (rowsS L).2.flatten)] ∧ RowOk u (rowsS L).1.length ∧ H' = rowE u 68 4 (ecells (rowsS L).1) := by
  have hlen := hok.len
  refine Fn.enter (N := 71) Try.func24 rfl (by kernel_rfl) rfl (fun w0 => ?_)

  refine awp_seq_region (fun Z hZ => ?_)
  refine sx_assign rfl rfl ?_
  refine sx_assign rfl rfl ?_
  refine sx_nil (hZ _ _ ?_)
  refine awp_forget [(0, _)] (Kn.cons rfl (Kn.nil)) ?_
  refine awp_seq_region (fun Z hZ => ?_)
  refine sx_assign rfl rfl ?_
  refine sx_nil (hZ _ _ ?_)
  refine awp_forget [(0, _), (4, _)] (Kn.cons rfl (Kn.cons rfl (Kn.nil))) ?_
  refine awp_seq_region (fun Z hZ => ?_)
  refine sx_assign rfl rfl ?_
  refine sx_nil (hZ _ _ ?_)
  refine awp_forget [(0, _), (4, _), (5, _)] (Kn.cons rfl (Kn.cons rfl (Kn.cons rfl (Kn.nil)))) ?_
  refine awp_seq ?_
  refine awp_seq_region (fun Z hZ => ?_)
  refine sx_assign rfl rfl ?_
  refine sx_nil (hZ _ _ ?_)
  refine awp_forget [(0, _), (4, _), (5, _), (6, _)] (Kn.cons rfl (Kn.cons rfl (Kn.cons rfl (Kn.cons rfl (Kn.nil))))) ?_
  refine awp_block ?_
  refine awp_loop (ι := Nat × (Option Addr × Nat) × Value) (fun z => [(0, .slice A L.length c), (4, .slice z.2.1.1 (rowsS (L.take z.1)).2.length z.2.1.2), (5, z.2.2), (6, iq (z.1 : Nat))]) (fun z => (T ++ roE z.2.1.1 (txL (rowsS (L.take z.1)).2)) ++ rowE z.2.2 68 4 (ecells (rowsS (L.take z.1)).1))
    (fun z => z.1 ≤ L.length ∧ SlOk z.2.1.1 (rowsS (L.take z.1)).2.length ∧ RowOk z.2.2 (rowsS (L.take z.1)).1.length) (fun z => L.length - z.1) (0, (none, 0), .slice none 0 0) ⟨by simp, .inl ⟨rfl, by simp [rowsS]⟩, by simpa [rowsS] using RowOk.nil⟩ (Kn.cons rfl (Kn.cons (by simp [rowsS]; rfl) (Kn.cons rfl (Kn.cons rfl Kn.nil)))) (by simp [rowsS, rowE, roE]; exact HLe.refl _) ?_
  rintro ⟨k, ⟨Aa, ca⟩, v⟩ ⟨hi, hAa, hv⟩
  simp only at hi hAa hv
  refine awp_seq ?_
  refine awp_seq_region (fun Z hZ => ?_)
  refine sx_move rfl rfl ?_
  refine sx_move rfl rfl ?_
  refine sx_len Try.underlying32 rfl rfl ?_
  refine sx_lss rfl rfl rfl ?_
  refine sx_nil (hZ _ _ ?_)
  refine awp_forget [(0, _), (4, _), (5, _), (6, _), (15, _)] (Kn.cons rfl (Kn.cons rfl (Kn.cons rfl (Kn.cons rfl (Kn.cons rfl (Kn.nil)))))) ?_
  refine awp_cond rfl (fun h1 => ?_) (fun h1 => ?_)
  · have hkl : k < L.length := by simpa using h1
    obtain ⟨x, hkx⟩ : ∃ x, L[k]? = some x := ⟨_, List.getElem?_eq_getElem hkl⟩
    have hxm := List.mem_of_getElem? hkx
    have hrs := rows_ok hok k (by omega)
    have hsn := rows_snoc hkx
    obtain ⟨s, hs⟩ : ∃ s, rowsS (L.take k) = s := ⟨_, rfl⟩
    rw [hs] at hv hAa hrs hsn ⊢
    obtain ⟨out, ts⟩ := s
    simp only [rwS] at hv hAa hsn
    obtain ⟨t1, t2⟩ := hok.tx x hxm
    have hxl := hok.lt x hxm
    obtain ⟨r1, r2, r3, r4, r5⟩ := hrs
    simp only at r1 r2 r3 r4 r5
    have hadd := radd_fn Aa ca ts x.tx hAa r1 (by omega) (by omega) t1 t2
    obtain ⟨c1, c2⟩ := addC_le ts x.tx
    obtain ⟨cc, hcc⟩ : ∃ cc, addC ts x.tx = cc := ⟨_, rfl⟩
    have hen : enOf ts x = ⟨x.id, cc.1, cc.2, 1⟩ := by unfold enOf; rw [hcc]
    rw [hcc] at hadd c1 c2
    rw [hen] at hsn
    obtain ⟨g, o, rfl⟩ := hA (by omega)
    obtain rfl := hT (by omega)
    obtain ⟨Av, cv, rfl, hAv⟩ := hv.form
    refine awp_heap (.ro g o (icells L) :: (roE Aa (txL ts) ++ rowE (.slice Av out.length cv) 68 4 (ecells out))) (HLe.refl _) ?_
    refine awp_forget [(0, .slice (some ⟨g, o, none⟩) L.length c), (4, .slice Aa ts.length ca), (5, .slice Av out.length cv), (6, iq (k : Nat))] (Kn.cons rfl (Kn.cons rfl (Kn.cons rfl (Kn.cons rfl Kn.nil)))) ?_
    refine awp_skip ?_
    with_reducible refine nx_normal ?_
    refine awp_seq (awp_block ?_)

    refine awp_seq_region (fun Z hZ => ?_)
    refine sx_move rfl rfl ?_
    refine sx_move rfl rfl ?_
    refine sx_move rfl rfl ?_
    refine sx_indexAddr (o + k * 2) Try.underlying32 tyS71 rfl rfl (by omega) (by simp) rfl ?_
    refine sx_fieldAddr rfl tyF71_1 (by first | (simp only [Nat.reduceAdd, Nat.add_zero, Nat.zero_add]; first | done | rfl) | rfl) rfl ?_
    refine sx_loadRo 0 rfl rfl (k * 2 + 1) (by omega) tyA9 tyS9 (icells_tx hkx) rfl ?_
    refine sx_callVU (roE Aa (txL ts)) hadd rfl (HLe.sub ((List.sublist_append_left _ _).trans (List.sublist_cons_self _ _))) (Ro.roE _ _) rfl ?_
    rintro v' H' ⟨u, b, rfl, hcase⟩
    obtain ⟨A2, c2, rfl, hA2, hle⟩ := radd_case hAa hcase
    refine sx_heap _ (hle [_] _) ?_
    refine sx_move rfl rfl ?_
    refine sx_extract rfl rfl rfl ?_
    refine sx_extract rfl rfl rfl ?_
    refine sx_extract rfl rfl rfl ?_
    refine sx_extract rfl rfl rfl ?_
    refine sx_alloc tyZ95 rfl (fun g1 => ?_)
    refine sx_assign rfl rfl ?_
    refine sx_store 0 rfl rfl rfl tyS95 (by first | (simp only [Value.cells]; first | done | rfl) | rfl) rfl rfl (by first | (simp only [List.length_cons, List.length_nil, Nat.reduceAdd, Nat.zero_add, Nat.add_zero]; first | done | rfl) | rfl) (by first | (simp only [List.take_succ_cons, List.take_zero, List.drop_succ_cons, List.drop_zero, List.cons_append, List.nil_append, List.append_nil, List.length_cons, List.length_nil, Nat.reduceAdd, Nat.zero_add, Nat.add_zero, Value.cells, wrV]; first | done | rfl) | rfl) (by first | (simp only [List.set_cons_succ, List.set_cons_zero]; first | done | rfl) | rfl) ?_
    refine sx_assign rfl rfl ?_
    refine sx_assign rfl rfl ?_
    refine sx_nil (hZ _ _ ?_)
    refine awp_forget [(0, _), (5, _), (6, _), (7, _), (8, _)] (Kn.cons rfl (Kn.cons rfl (Kn.cons rfl (Kn.cons rfl (Kn.cons rfl (Kn.nil)))))) ?_

    refine awp_seq_region (fun Z hZ => ?_)
    refine sx_move rfl rfl ?_
    refine sx_assign rfl rfl ?_
    refine sx_nil (hZ _ _ ?_)
    refine awp_forget [(0, _), (4, _), (5, _), (6, _), (8, _)] (Kn.cons rfl (Kn.cons rfl (Kn.cons rfl (Kn.cons rfl (Kn.cons rfl (Kn.nil)))))) ?_
    refine aww_seq_region _ [(0, true), (1, true), (2, true), (3, true), (4, true), (5, true), (6, true), (7, true), (8, true), (9, true), (10, false), (11, false)] mixed (by kernel_rfl) (HLe.pick [0, 1] (by simp) (by simp only [pick, List.filterMap_cons, List.filterMap_nil, List.getElem?_cons_succ, List.getElem?_cons_zero]; rfl)) (fun Z hZ => ?_)
    refine tw_p rfl ?_
    refine sv_move rfl rfl ?_
    refine sv_nil ?_
    refine tw_p rfl ?_
    refine sv_move rfl rfl ?_
    refine sv_nil ?_
    refine tw_p rfl ?_
    refine sv_indexAddr (o + k * 2) Try.underlying32 tyS71 rfl rfl (by omega) (by simp) rfl ?_
    refine sv_nil ?_
    refine tw_p rfl ?_
    refine sv_fieldAddr rfl tyF71_0 (by first | (simp only [Nat.reduceAdd, Nat.add_zero, Nat.zero_add]; first | done | rfl) | rfl) rfl ?_
    refine sv_nil ?_
    refine tw_p rfl ?_
    refine sv_loadRo 1 rfl rfl (k * 2) (by omega) tyA46 tyS46 (icells_id hkx) rfl ?_
    refine sv_nil ?_
    refine tw_p rfl ?_
    refine sv_fieldAddr rfl tyF95_0 (by first | (simp only [Nat.reduceAdd, Nat.add_zero, Nat.zero_add]; first | done | rfl) | rfl) rfl ?_
    refine sv_nil ?_
    refine tw_p rfl ?_
    refine sv_load 0 rfl rfl tyA46 tyS46 rfl rfl ?_
    refine sv_nil ?_
    refine tw_p rfl ?_
    refine sv_fieldAddr rfl tyF95_1 (by first | (simp only [Nat.reduceAdd, Nat.add_zero, Nat.zero_add]; first | done | rfl) | rfl) rfl ?_
    refine sv_nil ?_
    refine tw_p rfl ?_
    refine sv_load 0 rfl rfl tyA61 tyS61 rfl rfl ?_
    refine sv_nil ?_
    refine tw_p rfl ?_
    refine sv_build tyZ68 tyP68 rfl rfl (by first | (simp only [List.take_succ_cons, List.take_zero, List.drop_succ_cons, List.drop_zero, List.cons_append, List.nil_append, List.append_nil, List.length_cons, List.length_nil, Nat.reduceAdd, Nat.zero_add, Nat.add_zero, Value.cells, wrV, zrep_one, List.replicate_succ, List.replicate_zero, Nat.reduceMul, Nat.zero_mul]; first | done | rfl) | rfl) rfl ?_
    refine sv_nil ?_
    refine tw_g rfl ?_
    refine sx_alloc tyZ68 rfl (fun g2 => ?_)
    refine sx_nil ⟨HLe.pick [1, 2] (by simp) rfl, ?_⟩
    refine tw_g rfl ?_
    refine sx_store 0 rfl rfl rfl tyS68 (by first | (simp only [Value.cells]; first | done | rfl) | rfl) rfl rfl (by first | (simp only [List.length_cons, List.length_nil, Nat.reduceAdd, Nat.zero_add, Nat.add_zero]; first | done | rfl) | rfl) (by first | (simp only [List.take_succ_cons, List.take_zero, List.drop_succ_cons, List.drop_zero, List.cons_append, List.nil_append, List.append_nil, List.length_cons, List.length_nil, Nat.reduceAdd, Nat.zero_add, Nat.add_zero, Value.cells, wrV]; first | done | rfl) | rfl) (by first | (simp only [List.set_cons_succ, List.set_cons_zero]; first | done | rfl) | rfl) ?_
    refine sx_nil ⟨HLe.pick [1, 2] (by simp) rfl, ?_⟩
    refine tw_nil (hZ _ _ ?_)
    refine awp_forget [(0, _), (4, _), (5, _), (6, _), (11, _)] (Kn.cons rfl (Kn.cons rfl (Kn.cons rfl (Kn.cons rfl (Kn.cons rfl (Kn.nil)))))) ?_
    rcases Nat.eq_zero_or_pos out.length with h0 | h0
    · obtain rfl := List.eq_nil_of_length_eq_zero h0
      rw [put1_nil] at hsn

      refine awq_seq_meet [(0, .slice (some ⟨g, o, none⟩) L.length c), (4, .slice A2 (addT ts x.tx).length c2), (5, .slice Av ([] : List En).length cv), (6, iq (k : Nat)), (11, ptr g2 0), (53, .bool false)] (.own g2 68 (⟨x.id, cc.1, cc.2, 1⟩ : En).cells :: .ro g o (icells L) :: (roE A2 (txL (addT ts x.tx)) ++ rowE (.slice Av ([] : List En).length cv) 68 4 (ecells []))) mixed (by kernel_rfl) (fun Z hZ => ?_) ?_
      · refine sq_move rfl rfl ?_
        refine sq_len Try.underlying22 rfl rfl ?_
        refine sq_gtr rfl rfl rfl ?_
        refine sq_move rfl rfl ?_
        refine sq_force 44 rfl false (by rfl) ?_
        refine sq_off rfl rfl rfl rfl rfl ?_
        refine sq_off rfl rfl rfl rfl rfl ?_
        refine sq_off rfl rfl rfl rfl rfl ?_
        refine sq_off rfl rfl rfl rfl rfl ?_
        refine sq_off rfl rfl rfl rfl rfl ?_
        refine sq_off rfl rfl rfl rfl rfl ?_
        refine sq_off rfl rfl rfl rfl rfl ?_
        refine sq_off rfl rfl rfl rfl rfl ?_
        refine sq_pick rfl rfl rfl ?_
        refine sq_nil (hZ _ _ ?_ ?_)
        · exact Kn.cons rfl (Kn.cons rfl (Kn.cons rfl (Kn.cons rfl (Kn.cons rfl (Kn.cons rfl Kn.nil)))))
        · exact HLe.sub (List.Sublist.cons_cons _ (List.Sublist.cons _ (List.Sublist.refl _)))
      refine awp_cond rfl (fun h9 => ?_) (fun h9 => ?_)
      · cases h9

      refine awp_region (fun Z hZ => ?_)
      refine sx_move rfl rfl ?_
      refine sx_loadA 0 rfl rfl tyA68 tyS68 (by first | (simp only [List.length_cons, List.length_nil, Nat.reduceAdd, Nat.zero_add, Nat.add_zero]; first | done | rfl) | rfl) (by first | (simp only [List.take_succ_cons, List.take_zero, List.drop_succ_cons, List.drop_zero, List.cons_append, List.nil_append, List.append_nil, List.length_cons, List.length_nil, Nat.reduceAdd, Nat.zero_add, Nat.add_zero, Value.cells, wrV]; first | done | rfl) | rfl) rfl ?_
      refine sx_buildSlice Try.underlying22 tyS68 tyZ68 rfl rfl rfl rfl (by first | (simp only [List.take_succ_cons, List.take_zero, List.drop_succ_cons, List.drop_zero, List.cons_append, List.nil_append, List.append_nil, List.length_cons, List.length_nil, Nat.reduceAdd, Nat.zero_add, Nat.add_zero, Value.cells, wrV, zrep_one, List.replicate_succ, List.replicate_zero, Nat.reduceMul, Nat.zero_mul]; first | done | rfl) | rfl) rfl (fun g3 => ?_)
      refine sx_appendE (xs := ecells []) (_ :: _ :: _ :: roE A2 (txL (addT ts x.tx))) elemEnR rfl hv rfl rfl (fun w hw => rd_own (i := 0) (xs := (⟨x.id, cc.1, cc.2, 1⟩ : En).cells) rfl rfl hw) rfl (by decide) (by decide) (HLe.refl _) rfl (fun v2 hv2 => ?_)
      obtain ⟨gv2, cv2, rfl⟩ := hv2.some (by omega)
      refine sx_assign rfl rfl ?_
      refine sx_nil (hZ _ _ ?_)
      refine nx_forget [(0, _), (4, _), (5, _), (6, _)] (Kn.cons rfl (Kn.cons rfl (Kn.cons rfl (Kn.cons rfl (Kn.nil))))) ?_
      repeat (with_reducible refine nx_block_normal ?_)
      with_reducible refine nx_normal ?_
      refine awp_region (fun Z hZ => ?_)
      refine sx_move rfl rfl ?_
      refine sx_add rfl rfl ((k + 1 : Nat) : Int) (by rw [IntWalk.i64_in _ (by omega)]; omega) rfl ?_
      refine sx_assign rfl rfl ?_
      refine sx_nil (hZ _ _ ?_)
      refine nx_forget [(0, _), (4, _), (5, _), (6, _)] (Kn.cons rfl (Kn.cons rfl (Kn.cons rfl (Kn.cons rfl (Kn.nil))))) ?_
      refine nx_round (k + 1, (A2, c2), Value.slice (some ⟨gv2, 0, none⟩) (0 + 1) cv2) ⟨hkl, by rw [hsn]; exact hA2, by rw [hsn]; exact hv2⟩ (by simp; omega) (Kn.cons rfl (Kn.cons (by rw [hsn]; rfl) (Kn.cons rfl (Kn.cons rfl Kn.nil)))) ?_
      rw [hsn]
      exact HLe.drop 2 rfl
    · obtain ⟨m, hm⟩ : ∃ m, out.length = m + 1 := ⟨out.length - 1, by omega⟩
      have hml : m < out.length := by omega
      obtain ⟨a, ha⟩ : ∃ a, out[m]? = some a := ⟨_, List.getElem?_eq_getElem hml⟩
      obtain ⟨hao, har⟩ := r5 a (List.mem_of_getElem? ha)
      have hp1 : put1 out ⟨x.id, cc.1, cc.2, 1⟩ = if oneQ a ⟨x.id, cc.1, cc.2, 1⟩ then out.set m { a with run := a.run + 1 } else out ++ [⟨x.id, cc.1, cc.2, 1⟩] := by rw [put1_some (a := a) (by rw [hm, Nat.add_sub_cancel]; exact ha), hm, Nat.add_sub_cancel]
      rw [hp1] at hsn
      obtain ⟨gv, cv', hev⟩ := hv.some (by omega)
      injection hev with he1 _ he2
      subst he1; subst he2
      have hgo := one_fn a ⟨x.id, cc.1, cc.2, 1⟩ hao
      obtain ⟨q, hq⟩ : ∃ q, oneQ a ⟨x.id, cc.1, cc.2, 1⟩ = q := ⟨_, rfl⟩
      rw [hq] at hgo hsn
      refine awp_heap (.own g2 68 (⟨x.id, cc.1, cc.2, 1⟩ : En).cells :: .ob gv (RowP 68 4 out.length cv (ecells out)) :: .ro g o (icells L) :: roE A2 (txL (addT ts x.tx))) (le_r9 _ _ _ _ _) ?_

      refine awq_seq_meet [(0, .slice (some ⟨g, o, none⟩) L.length c), (4, .slice A2 (addT ts x.tx).length c2), (5, .slice (some ⟨gv, 0, none⟩) out.length cv), (6, iq (k : Nat)), (11, ptr g2 0), (53, .bool q)] (.own g2 68 (⟨x.id, cc.1, cc.2, 1⟩ : En).cells :: .ob gv (RowP 68 4 out.length cv (ecells out)) :: .ro g o (icells L) :: roE A2 (txL (addT ts x.tx))) mixed (by kernel_rfl) (fun Z hZ => ?_) ?_
      · refine sq_move rfl rfl ?_
        refine sq_len Try.underlying22 rfl rfl ?_
        refine sq_gtr rfl rfl rfl ?_
        refine sq_move rfl rfl ?_
        refine sq_force 44 rfl true (by simp; omega) ?_
        refine sq_on rfl rfl rfl ?_
        refine sq_move rfl rfl ?_
        refine sq_on rfl rfl rfl ?_
        refine sq_move rfl rfl ?_
        refine sq_on rfl rfl rfl ?_
        refine sq_len Try.underlying22 rfl rfl ?_
        refine sq_on rfl rfl rfl ?_
        refine sq_sub rfl rfl ((m : Nat) : Int) (by rw [IntWalk.i64_in _ (by omega)]; omega) rfl ?_
        refine sq_on rfl rfl rfl ?_
        refine sq_indexAddr (0 + m * 4) Try.underlying22 tyS68 rfl rfl (by omega) (by simp) rfl ?_
        refine sq_on rfl rfl rfl ?_
        refine sq_loadRd (m * 4) rfl rfl (fun w hw => rd_row (i := 1) rfl hw) (by omega) tyA68 tyS68 (ecells_all ha) rfl ?_
        refine sq_on rfl rfl rfl ?_
        refine sq_loadA 0 rfl rfl tyA68 tyS68 (by first | (simp only [List.length_cons, List.length_nil, Nat.reduceAdd, Nat.zero_add, Nat.add_zero]; first | done | rfl) | rfl) (by first | (simp only [List.take_succ_cons, List.take_zero, List.drop_succ_cons, List.drop_zero, List.cons_append, List.nil_append, List.append_nil, List.length_cons, List.length_nil, Nat.reduceAdd, Nat.zero_add, Nat.add_zero, Value.cells, wrV]; first | done | rfl) | rfl) rfl ?_
        refine sq_on rfl rfl rfl ?_
        refine sq_callP hgo rfl rfl ?_
        refine sq_pick rfl rfl rfl ?_
        refine sq_nil (hZ _ _ ?_ ?_)
        · exact Kn.cons rfl (Kn.cons rfl (Kn.cons rfl (Kn.cons rfl (Kn.cons rfl (Kn.cons rfl Kn.nil)))))
        · exact HLe.refl _
      refine awp_cond rfl (fun h9 => ?_) (fun h9 => ?_)
      · rw [if_pos h9] at hsn
        refine awp_region (fun Z hZ => ?_)
        refine sx_move rfl rfl ?_
        refine sx_move rfl rfl ?_
        refine sx_len Try.underlying22 rfl rfl ?_
        refine sx_sub rfl rfl ((m : Nat) : Int) (by rw [IntWalk.i64_in _ (by omega)]; omega) rfl ?_
        refine sx_indexAddr (0 + m * 4) Try.underlying22 tyS68 rfl rfl (by omega) (by simp) rfl ?_
        refine sx_fieldAddr rfl tyF68_3 (by first | (simp only [Nat.reduceAdd, Nat.add_zero, Nat.zero_add]; first | done | rfl) | rfl) rfl ?_
        refine sx_loadRd (m * 4 + 3) rfl (by omega) (fun w hw => rd_row (i := 1) rfl hw) (by omega) tyA61 tyS61 (ecells_run ha) rfl ?_
        refine sx_add rfl rfl ((a.run + 1 : Nat) : Int) (by rw [IntWalk.u32_in _ (by omega)]; omega) rfl ?_
        refine sx_indexAddr (0 + m * 4) Try.underlying22 tyS68 rfl rfl (by omega) (by simp) rfl ?_
        refine sx_fieldAddr rfl tyF68_3 (by first | (simp only [Nat.reduceAdd, Nat.add_zero, Nat.zero_add]; first | done | rfl) | rfl) rfl ?_
        refine sx_storeRw (o := m * 4 + 3) 1 rfl rfl rfl tyS61 rfl (by omega) (mset_run ha (a.run + 1)) rfl ?_
        refine sx_nil (hZ _ _ ?_)
        refine nx_forget [(0, _), (4, _), (5, _), (6, _)] (Kn.cons rfl (Kn.cons rfl (Kn.cons rfl (Kn.cons rfl (Kn.nil))))) ?_
        repeat (with_reducible refine nx_block_normal ?_)
        with_reducible refine nx_normal ?_
        refine awp_region (fun Z hZ => ?_)
        refine sx_move rfl rfl ?_
        refine sx_add rfl rfl ((k + 1 : Nat) : Int) (by rw [IntWalk.i64_in _ (by omega)]; omega) rfl ?_
        refine sx_assign rfl rfl ?_
        refine sx_nil (hZ _ _ ?_)
        refine nx_forget [(0, _), (4, _), (5, _), (6, _)] (Kn.cons rfl (Kn.cons rfl (Kn.cons rfl (Kn.cons rfl (Kn.nil))))) ?_
        refine nx_round (k + 1, (A2, c2), Value.slice (some ⟨gv, 0, none⟩) out.length cv) ⟨hkl, by rw [hsn]; exact hA2, by rw [hsn, List.length_set]; exact hv⟩ (by simp; omega) (Kn.cons rfl (Kn.cons (by rw [hsn]; rfl) (Kn.cons rfl (Kn.cons rfl Kn.nil)))) ?_
        rw [hsn]
        exact le_r9b _ _ _ _
      rw [if_neg (by rw [h9]; simp)] at hsn

      refine awp_region (fun Z hZ => ?_)
      refine sx_move rfl rfl ?_
      refine sx_loadA 0 rfl rfl tyA68 tyS68 (by first | (simp only [List.length_cons, List.length_nil, Nat.reduceAdd, Nat.zero_add, Nat.add_zero]; first | done | rfl) | rfl) (by first | (simp only [List.take_succ_cons, List.take_zero, List.drop_succ_cons, List.drop_zero, List.cons_append, List.nil_append, List.append_nil, List.length_cons, List.length_nil, Nat.reduceAdd, Nat.zero_add, Nat.add_zero, Value.cells, wrV]; first | done | rfl) | rfl) rfl ?_
      refine sx_buildSlice Try.underlying22 tyS68 tyZ68 rfl rfl rfl rfl (by first | (simp only [List.take_succ_cons, List.take_zero, List.drop_succ_cons, List.drop_zero, List.cons_append, List.nil_append, List.append_nil, List.length_cons, List.length_nil, Nat.reduceAdd, Nat.zero_add, Nat.add_zero, Value.cells, wrV, zrep_one, List.replicate_succ, List.replicate_zero, Nat.reduceMul, Nat.zero_mul]; first | done | rfl) | rfl) rfl (fun g4 => ?_)
      refine sx_appendE (xs := ecells out) (_ :: _ :: _ :: roE A2 (txL (addT ts x.tx))) elemEnR rfl hv (by rw [ecells_len]) rfl (fun w hw => rd_own (i := 0) (xs := (⟨x.id, cc.1, cc.2, 1⟩ : En).cells) rfl rfl hw) rfl (by show _ ≤ 9223372036854775807; omega) (by omega) (le_fst (X := [_, _]) (T := rowE (.slice (some ⟨gv, 0, none⟩) out.length cv) 68 4 (ecells out)) (B := _ :: roE A2 (txL (addT ts x.tx)))) rfl (fun v2 hv2 => ?_)
      obtain ⟨gv2, cv2, rfl⟩ := hv2.some (by omega)
      refine sx_assign rfl rfl ?_
      refine sx_nil (hZ _ _ ?_)
      refine nx_forget [(0, _), (4, _), (5, _), (6, _)] (Kn.cons rfl (Kn.cons rfl (Kn.cons rfl (Kn.cons rfl (Kn.nil))))) ?_
      repeat (with_reducible refine nx_block_normal ?_)
      with_reducible refine nx_normal ?_
      refine awp_region (fun Z hZ => ?_)
      refine sx_move rfl rfl ?_
      refine sx_add rfl rfl ((k + 1 : Nat) : Int) (by rw [IntWalk.i64_in _ (by omega)]; omega) rfl ?_
      refine sx_assign rfl rfl ?_
      refine sx_nil (hZ _ _ ?_)
      refine nx_forget [(0, _), (4, _), (5, _), (6, _)] (Kn.cons rfl (Kn.cons rfl (Kn.cons rfl (Kn.cons rfl (Kn.nil))))) ?_
      refine nx_round (k + 1, (A2, c2), Value.slice (some ⟨gv2, 0, none⟩) (out.length + 1) cv2) ⟨hkl, by rw [hsn]; exact hA2, by rw [hsn, List.length_append]; exact hv2⟩ (by simp; omega) (Kn.cons rfl (Kn.cons (by rw [hsn]; rfl) (Kn.cons rfl (Kn.cons rfl Kn.nil)))) ?_
      rw [hsn, show ecells (out ++ [⟨x.id, cc.1, cc.2, 1⟩]) = ecells out ++ (⟨x.id, cc.1, cc.2, 1⟩ : En).cells by simp [ecells]]
      exact HLe.drop 2 rfl
  · refine awp_exit ?_
    repeat (with_reducible refine nx_then_exit ?_)
    with_reducible refine nx_block_exit ?_
    with_reducible refine nx_normal ?_
    have hke : k = L.length := by simp at h1; omega
    subst hke
    rw [List.take_length] at hAa hv ⊢
    have hrs := rows_ok hok L.length (Nat.le_refl _)
    rw [List.take_length] at hrs
    have htx := rtext_fn Aa ca (rowsS L).2 hAa (by have := hrs.nt; omega) (by have := hrs.fl; omega)
    refine awp_seq_region (fun Z hZ => ?_)
    refine sx_move rfl rfl ?_
    refine sx_move rfl rfl ?_
    refine sx_callPT (roE Aa (txL (rowsS L).2)) htx rfl ((List.sublist_append_right T _).trans (List.sublist_append_left _ _)) (Ro.roE _ _) rfl ?_
    refine sx_assign rfl rfl ?_
    refine sx_assign rfl rfl ?_
    refine sx_nil (hZ _ _ ?_)
    refine awp_forget [(2, _), (3, _)] (Kn.cons rfl (Kn.cons rfl (Kn.nil))) ?_
    refine awp_ret ?_
    exact nx_ret2h (rowE v 68 4 (ecells (rowsS L).1)) rfl rfl rfl (HLe.sub (List.sublist_append_right _ _)) ⟨_, rfl, hv, rfl⟩
end Go.Proofs.Ytffahimbmpddpaa.V
