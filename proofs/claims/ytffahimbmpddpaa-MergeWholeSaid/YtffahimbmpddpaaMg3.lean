/- The walk of the document's Back for entries. Conditions: the texts are not too long. -/
import Derived.Test.YtffahimbmpddpaaMg2
namespace Go.Proofs.Ytffahimbmpddpaa.V
open Go.RowKit
set_option linter.unusedVariables false
set_option linter.unusedSimpArgs false
set_option maxRecDepth 100000
theorem rmback_fn (A : Option Addr) (c : Nat) (L : List En) (T : Heap) (hA : ArgOk A L.length) (hT : 0 < L.length → T = roE A (ecells L)) (hro : Ro T) (hL : L.length ≤ maxLen) (hE : EnsOk L) (data : List UInt8) (hd : data.length ≤ 1000000) :
    Fn Try.prog 10 [.slice A L.length c, .string (str data)] T fun v H' => ∃ u, v = .tuple #[u, iq (mbQ L data).1] ∧ RowOk u (mbQ L data).2.length ∧ H' = rowE u 71 2 (icells (mbQ L data).2) := by
  refine Fn.enter (N := 101) Try.func10 rfl (by kernel_rfl) rfl (fun w0 => ?_)

  refine awp_seq_region (fun Z hZ => ?_)
  refine sx_assign rfl rfl ?_
  refine sx_assign rfl rfl ?_
  refine sx_nil (hZ _ _ ?_)
  refine awp_forget [(0, _), (1, _)] (Kn.cons rfl (Kn.cons rfl (Kn.nil))) ?_
  refine awp_seq ?_
  refine awp_seq_region (fun Z hZ => ?_)
  refine sx_move rfl rfl ?_
  refine sx_callPT T (rrow_fn A c L T hA hT hro hL hE) rfl (List.Sublist.refl _) hro rfl ?_
  refine sx_assign rfl rfl ?_
  refine sx_nil (hZ _ _ ?_)
  refine awp_forget [(0, _), (1, _), (6, _)] (Kn.cons rfl (Kn.cons rfl (Kn.cons rfl (Kn.nil)))) ?_
  refine awp_seq_region (fun Z hZ => ?_)
  refine sx_move rfl rfl ?_
  first | refine sx_neq rfl rfl rfl ?_ | refine sx_sneq rfl rfl rfl ?_
  refine sx_nil (hZ _ _ ?_)
  refine awp_forget [(0, _), (1, _), (6, _), (14, _)] (Kn.cons rfl (Kn.cons rfl (Kn.cons rfl (Kn.cons rfl (Kn.nil))))) ?_
  first | refine awp_cond rfl (fun h => ?_) (fun h => ?_) | refine awp_seq (awp_cond rfl (fun h => ?_) (fun h => ?_))
  · have h' : ¬ rowC L = 0 := by simp at h; omega
    rw [show mbQ L data = (rowC L, []) by unfold mbQ; rw [if_neg h']]
    refine awp_seq_region (fun Z hZ => ?_)
    refine sx_move rfl rfl ?_
    refine sx_assign rfl rfl ?_
    refine sx_assign rfl rfl ?_
    refine sx_nil (hZ _ _ ?_)
    refine awp_forget [(4, _), (5, _)] (Kn.cons rfl (Kn.cons rfl (Kn.nil))) ?_
    refine awp_ret ?_
    repeat (with_reducible (first | refine nx_then_ret ?_ | refine nx_block_ret ?_ | refine nx_scope_ret ?_))
    exact nx_ret2h [] rfl rfl rfl (HLe.sub (List.nil_sublist _)) ⟨_, rfl, RowOk.nil, rfl⟩
  have h' : rowC L = 0 := by simp at h; omega
  have hq : rowQ 0 L = 0 ∧ L.length ≤ 4096 := by
    unfold rowC at h'
    split at h'
    · cases h'
    · exact ⟨h', by omega⟩
  have hat := mrowQ_at L 0 hq.1
  have hmb : mbQ L data = mbR data 0 [] L := by unfold mbQ; rw [if_pos h']
  rw [hmb]
  refine awp_skip ?_
  repeat (with_reducible (first | refine nx_block_normal ?_ | refine nx_scope_normal ?_))
  with_reducible first | refine nx_normal ?_ | refine nx_normalM ?_
  refine awp_seq_region (fun Z hZ => ?_)
  refine sx_assign rfl rfl ?_
  refine sx_nil (hZ _ _ ?_)
  refine awp_forget [(0, _), (1, _), (7, _)] (Kn.cons rfl (Kn.cons rfl (Kn.cons rfl (Kn.nil)))) ?_
  refine awp_seq_region (fun Z hZ => ?_)
  refine sx_assign rfl rfl ?_
  refine sx_nil (hZ _ _ ?_)
  refine awp_forget [(0, _), (1, _), (7, _), (8, _)] (Kn.cons rfl (Kn.cons rfl (Kn.cons rfl (Kn.cons rfl (Kn.nil))))) ?_
  refine awp_seq ?_
  refine awp_seq_region (fun Z hZ => ?_)
  refine sx_assign rfl rfl ?_
  refine sx_nil (hZ _ _ ?_)
  refine awp_forget [(0, _), (1, _), (7, _), (8, _), (9, _)] (Kn.cons rfl (Kn.cons rfl (Kn.cons rfl (Kn.cons rfl (Kn.cons rfl (Kn.nil)))))) ?_
  refine awp_block ?_
  refine awp_loop (ι := Nat × Nat × Value × List It) (fun s => [(0, .slice A L.length c), (1, .string (str data)), (7, s.2.2.1), (8, uq s.2.1), (9, iq (s.1 : Nat))]) (fun s => T ++ rowE s.2.2.1 71 2 (icells s.2.2.2))
    (fun s => s.1 ≤ L.length ∧ RowOk s.2.2.1 s.2.2.2.length ∧ s.2.2.2.length = s.2.1 ∧ s.2.1 ≤ 2048 ∧ mbR data s.2.1 s.2.2.2 (L.drop s.1) = mbR data 0 [] L) (fun s => L.length - s.1) (0, 0, .slice none 0 0, []) ⟨by simp, RowOk.nil, rfl, Nat.zero_le _, rfl⟩ (Kn.cons rfl (Kn.cons rfl (Kn.cons rfl (Kn.cons rfl (Kn.cons rfl Kn.nil))))) (by simp [rowE]; exact HLe.refl _) ?_
  rintro ⟨i, many, v, X⟩ ⟨hi, hv, hXl, hmn, hqq⟩
  simp only at hi hv hXl hmn hqq
  refine awp_seq ?_
  refine awp_seq_region (fun Z hZ => ?_)
  refine sx_move rfl rfl ?_
  refine sx_move rfl rfl ?_
  first | refine sx_len Try.underlying22 rfl rfl ?_ | refine sx_lenS Try.underlying22 rfl rfl ?_
  first | refine sx_lss rfl rfl rfl ?_ | refine sx_slss rfl rfl rfl ?_
  refine sx_nil (hZ _ _ ?_)
  refine awp_forget [(0, _), (1, _), (7, _), (8, _), (9, _), (19, _)] (Kn.cons rfl (Kn.cons rfl (Kn.cons rfl (Kn.cons rfl (Kn.cons rfl (Kn.cons rfl (Kn.nil))))))) ?_
  first | refine awp_cond rfl (fun h2 => ?_) (fun h2 => ?_) | refine awp_seq (awp_cond rfl (fun h2 => ?_) (fun h2 => ?_))
  · have hlt : i < L.length := by simpa using h2
    obtain ⟨x, hx⟩ : ∃ x, L[i]? = some x := ⟨_, List.getElem?_eq_getElem hlt⟩
    have hxm := List.mem_of_getElem? hx
    have hxo := hE x hxm
    obtain ⟨c1, c2, c3, c4⟩ := chk_ok hxo (hat x hxm)
    obtain ⟨k1, k2, k3, k4⟩ := hxo
    have hxid : rdV false 1 (ecells L) (i * 4) = some (uq x.id) := by have := fm_rd1 (j := 0) en_len hx rfl; simpa using this
    have hxoff : rdV false 1 (ecells L) (i * 4 + 1) = some (uq x.off) := fm_rd1 (j := 1) en_len hx rfl
    have hxlen : rdV false 1 (ecells L) (i * 4 + 2) = some (wq4 x.len) := fm_rd1 (j := 2) en_len hx rfl
    have hxrun : rdV false 1 (ecells L) (i * 4 + 3) = some (wq4 x.run) := fm_rd1 (j := 3) en_len hx rfl
    have hdr : L.drop i = x :: L.drop (i + 1) := by rw [List.drop_eq_getElem_cons hlt]; congr 1; exact (List.getElem?_eq_some_iff.1 hx).2
    rw [hdr, mbR] at hqq
    obtain ⟨g, o, rfl⟩ := hA (by omega)
    obtain rfl := hT (by omega)
    refine awp_heap (.ro g o (ecells L) :: rowE v 71 2 (icells X)) (HLe.refl _) ?_
    refine awp_skip ?_
    repeat (with_reducible (first | refine nx_block_normal ?_ | refine nx_scope_normal ?_))
    with_reducible first | refine nx_normal ?_ | refine nx_normalM ?_
    refine awp_seq (awp_block ?_)

    refine awp_seq_region (fun Z hZ => ?_)
    refine sx_move rfl rfl ?_
    refine sx_move rfl rfl ?_
    refine sx_move rfl rfl ?_
    refine sx_indexAddr (o + i * 4) Try.underlying22 tyS68 rfl rfl (by first | omega | (simp; omega)) (by simp) rfl ?_
    refine sx_fieldAddr rfl tyF68_3 (by first | (simp only [Nat.reduceAdd, Nat.add_zero, Nat.zero_add]; first | done | rfl) | rfl) rfl ?_
    refine sx_loadRo 0 rfl rfl (i * 4 + 3) rfl tyA61 tyS61 hxrun rfl ?_
    refine sx_conv Try.underlying61 Try.underlying46 rfl ((x.run : Nat) : Int) (by rw [IntWalk.u64_in _ (by omega)]) rfl ?_
    refine sx_add rfl rfl ((many + x.run : Nat) : Int) (by show IntKind.u64.wrap (((many : Nat) : Int) + ((x.run : Nat) : Int)) = _; rw [IntWalk.u64_in _ (by omega)]; omega) rfl ?_
    refine sx_assign rfl rfl ?_
    refine sx_nil (hZ _ _ ?_)
    refine awp_forget [(0, _), (1, _), (7, _), (8, _), (9, _)] (Kn.cons rfl (Kn.cons rfl (Kn.cons rfl (Kn.cons rfl (Kn.cons rfl (Kn.nil)))))) ?_
    refine awp_seq ?_
    refine awp_seq_region (fun Z hZ => ?_)
    refine sx_move rfl rfl ?_
    refine sx_move rfl rfl ?_
    refine sx_indexAddr (o + i * 4) Try.underlying22 tyS68 rfl rfl (by first | omega | (simp; omega)) (by simp) rfl ?_
    refine sx_fieldAddr rfl tyF68_3 (by first | (simp only [Nat.reduceAdd, Nat.add_zero, Nat.zero_add]; first | done | rfl) | rfl) rfl ?_
    refine sx_loadRo 0 rfl rfl (i * 4 + 3) rfl tyA61 tyS61 hxrun rfl ?_
    first | refine sx_eql rfl rfl rfl ?_ | refine sx_seql rfl rfl rfl ?_
    refine sx_nil (hZ _ _ ?_)
    refine awp_forget [(0, _), (1, _), (7, _), (8, _), (9, _), (35, _)] (Kn.cons rfl (Kn.cons rfl (Kn.cons rfl (Kn.cons rfl (Kn.cons rfl (Kn.cons rfl (Kn.nil))))))) ?_
    first | refine awp_cond rfl (fun h3 => ?_) (fun h3 => ?_) | refine awp_seq (awp_cond rfl (fun h3 => ?_) (fun h3 => ?_))
    · have h3' : x.run = 0 := by simp at h3; omega
      have hw : mwrQ x (many + x.run) data = 14 := by unfold mwrQ; rw [if_pos h3']
      rw [hw, if_neg (by decide)] at hqq
      rw [← hqq]
      refine awp_seq_region (fun Z hZ => ?_)
      refine sx_assign rfl rfl ?_
      refine sx_assign rfl rfl ?_
      refine sx_nil (hZ _ _ ?_)
      refine awp_forget [(4, _), (5, _)] (Kn.cons rfl (Kn.cons rfl (Kn.nil))) ?_
      refine awp_ret ?_
      repeat (with_reducible (first | refine nx_then_ret ?_ | refine nx_block_ret ?_ | refine nx_scope_ret ?_))
      exact nx_ret2h [] rfl rfl rfl (HLe.sub (List.nil_sublist _)) ⟨_, rfl, RowOk.nil, rfl⟩
    have h3' : ¬ x.run = 0 := by simp at h3; omega
    refine awp_skip ?_
    repeat (with_reducible (first | refine nx_block_normal ?_ | refine nx_scope_normal ?_))
    with_reducible first | refine nx_normal ?_ | refine nx_normalM ?_
    refine awp_seq ?_
    refine awq_seq_region mixed (by kernel_rfl) (fun Z hZ => ?_)
    refine sq_move rfl rfl ?_
    refine sq_move rfl rfl ?_
    refine sq_indexAddr (o + i * 4) Try.underlying22 tyS68 rfl rfl (by first | omega | (simp; omega)) (by simp) rfl ?_
    refine sq_fieldAddr rfl tyF68_1 (by first | (simp only [Nat.reduceAdd, Nat.add_zero, Nat.zero_add]; first | done | rfl) | rfl) rfl ?_
    refine sq_loadRo 0 rfl rfl (i * 4 + 1) rfl tyA46 tyS46 hxoff rfl ?_
    refine sq_move rfl rfl ?_
    refine sq_move rfl rfl ?_
    refine sq_indexAddr (o + i * 4) Try.underlying22 tyS68 rfl rfl (by first | omega | (simp; omega)) (by simp) rfl ?_
    refine sq_fieldAddr rfl tyF68_2 (by first | (simp only [Nat.reduceAdd, Nat.add_zero, Nat.zero_add]; first | done | rfl) | rfl) rfl ?_
    refine sq_loadRo 0 rfl rfl (i * 4 + 2) rfl tyA61 tyS61 hxlen rfl ?_
    refine sq_conv Try.underlying61 Try.underlying46 rfl ((x.len : Nat) : Int) (by rw [IntWalk.u64_in _ (by omega)]) rfl ?_
    refine sq_add rfl rfl ((x.off + x.len : Nat) : Int) (by rw [IntWalk.u64_in _ (by omega)]; omega) rfl ?_
    refine sq_move rfl rfl ?_
    first | refine sq_len Try.underlying9 rfl rfl ?_ | refine sq_lenS Try.underlying9 rfl rfl ?_
    refine sq_conv Try.underlying3 Try.underlying46 rfl ((data.length : Nat) : Int) (by rw [IntWalk.u64_in _ (by omega)]) rfl ?_
    first | refine sq_gtr rfl rfl rfl ?_ | refine sq_sgtr rfl rfl rfl ?_
    refine sq_nil (hZ _ _ ?_)
    refine awp_forget [(0, _), (1, _), (7, _), (8, _), (9, _), (51, _)] (Kn.cons rfl (Kn.cons rfl (Kn.cons rfl (Kn.cons rfl (Kn.cons rfl (Kn.cons rfl (Kn.nil))))))) ?_
    first | refine awp_cond rfl (fun h4 => ?_) (fun h4 => ?_) | refine awp_seq (awp_cond rfl (fun h4 => ?_) (fun h4 => ?_))
    · have h4' : data.length < x.off + x.len := by simp at h4; omega
      have hw : mwrQ x (many + x.run) data = 8 := by unfold mwrQ; rw [if_neg h3', if_pos h4']
      rw [hw, if_neg (by decide)] at hqq
      rw [← hqq]
      refine awp_seq_region (fun Z hZ => ?_)
      refine sx_assign rfl rfl ?_
      refine sx_assign rfl rfl ?_
      refine sx_nil (hZ _ _ ?_)
      refine awp_forget [(4, _), (5, _)] (Kn.cons rfl (Kn.cons rfl (Kn.nil))) ?_
      refine awp_ret ?_
      repeat (with_reducible (first | refine nx_then_ret ?_ | refine nx_block_ret ?_ | refine nx_scope_ret ?_))
      exact nx_ret2h [] rfl rfl rfl (HLe.sub (List.nil_sublist _)) ⟨_, rfl, RowOk.nil, rfl⟩
    have h4' : ¬ data.length < x.off + x.len := by simp at h4; omega
    refine awp_skip ?_
    repeat (with_reducible (first | refine nx_block_normal ?_ | refine nx_scope_normal ?_))
    with_reducible first | refine nx_normal ?_ | refine nx_normalM ?_
    refine awp_seq ?_
    refine awp_seq_region (fun Z hZ => ?_)
    refine sx_move rfl rfl ?_
    first | refine sx_gtr rfl rfl rfl ?_ | refine sx_sgtr rfl rfl rfl ?_
    refine sx_nil (hZ _ _ ?_)
    refine awp_forget [(0, _), (1, _), (7, _), (8, _), (9, _), (53, _)] (Kn.cons rfl (Kn.cons rfl (Kn.cons rfl (Kn.cons rfl (Kn.cons rfl (Kn.cons rfl (Kn.nil))))))) ?_
    first | refine awp_cond rfl (fun h5 => ?_) (fun h5 => ?_) | refine awp_seq (awp_cond rfl (fun h5 => ?_) (fun h5 => ?_))
    · have h5' : 2048 < many + x.run := by simp at h5; omega
      have hw : mwrQ x (many + x.run) data = 21 := by unfold mwrQ; rw [if_neg h3', if_neg h4', if_pos h5']
      rw [hw, if_neg (by decide)] at hqq
      rw [← hqq]
      refine awp_seq_region (fun Z hZ => ?_)
      refine sx_assign rfl rfl ?_
      refine sx_assign rfl rfl ?_
      refine sx_nil (hZ _ _ ?_)
      refine awp_forget [(4, _), (5, _)] (Kn.cons rfl (Kn.cons rfl (Kn.nil))) ?_
      refine awp_ret ?_
      repeat (with_reducible (first | refine nx_then_ret ?_ | refine nx_block_ret ?_ | refine nx_scope_ret ?_))
      exact nx_ret2h [] rfl rfl rfl (HLe.sub (List.nil_sublist _)) ⟨_, rfl, RowOk.nil, rfl⟩
    have h5' : ¬ 2048 < many + x.run := by simp at h5; omega
    refine awp_skip ?_
    repeat (with_reducible (first | refine nx_block_normal ?_ | refine nx_scope_normal ?_))
    with_reducible first | refine nx_normal ?_ | refine nx_normalM ?_
    refine awp_seq ?_
    refine awp_seq_region (fun Z hZ => ?_)
    refine sx_move rfl rfl ?_
    refine sx_move rfl rfl ?_
    refine sx_indexAddr (o + i * 4) Try.underlying22 tyS68 rfl rfl (by first | omega | (simp; omega)) (by simp) rfl ?_
    refine sx_fieldAddr rfl tyF68_2 (by first | (simp only [Nat.reduceAdd, Nat.add_zero, Nat.zero_add]; first | done | rfl) | rfl) rfl ?_
    refine sx_loadRo 0 rfl rfl (i * 4 + 2) rfl tyA61 tyS61 hxlen rfl ?_
    first | refine sx_gtr rfl rfl rfl ?_ | refine sx_sgtr rfl rfl rfl ?_
    refine sx_nil (hZ _ _ ?_)
    refine awp_forget [(0, _), (1, _), (7, _), (8, _), (9, _), (59, _)] (Kn.cons rfl (Kn.cons rfl (Kn.cons rfl (Kn.cons rfl (Kn.cons rfl (Kn.cons rfl (Kn.nil))))))) ?_
    first | refine awp_cond rfl (fun h6 => ?_) (fun h6 => ?_) | refine awp_seq (awp_cond rfl (fun h6 => ?_) (fun h6 => ?_))
    · have h6' : 65536 < x.len := by simp at h6; omega
      have hw : mwrQ x (many + x.run) data = 5 := by unfold mwrQ; rw [if_neg h3', if_neg h4', if_neg h5', if_pos h6']
      rw [hw, if_neg (by decide)] at hqq
      rw [← hqq]
      refine awp_seq_region (fun Z hZ => ?_)
      refine sx_assign rfl rfl ?_
      refine sx_assign rfl rfl ?_
      refine sx_nil (hZ _ _ ?_)
      refine awp_forget [(4, _), (5, _)] (Kn.cons rfl (Kn.cons rfl (Kn.nil))) ?_
      refine awp_ret ?_
      repeat (with_reducible (first | refine nx_then_ret ?_ | refine nx_block_ret ?_ | refine nx_scope_ret ?_))
      exact nx_ret2h [] rfl rfl rfl (HLe.sub (List.nil_sublist _)) ⟨_, rfl, RowOk.nil, rfl⟩
    have h6' : ¬ 65536 < x.len := by simp at h6; omega
    have hw : mwrQ x (many + x.run) data = 0 := by unfold mwrQ; rw [if_neg h3', if_neg h4', if_neg h5', if_neg h6']
    rw [hw, if_pos rfl] at hqq
    obtain ⟨tx, htx⟩ : ∃ tx, txOf x data = tx := ⟨_, rfl⟩
    have hil := its_len x data
    have hitk : ∀ k, k < x.run → icells (X ++ (itsOf x data).take (k + 1)) = icells (X ++ (itsOf x data).take k) ++ (⟨x.id + k, tx⟩ : It).cells := fun k hk => by
      rw [its_take hk, htx, ← List.append_assoc, micells_app (X ++ (itsOf x data).take k)]
      simp [icells]
    refine awp_skip ?_
    repeat (with_reducible (first | refine nx_block_normal ?_ | refine nx_scope_normal ?_))
    with_reducible first | refine nx_normal ?_ | refine nx_normalM ?_
    refine awp_seq_region (fun Z hZ => ?_)
    refine sx_assign rfl rfl ?_
    refine sx_nil (hZ _ _ ?_)
    refine awp_forget [(0, _), (1, _), (7, _), (8, _), (9, _), (10, _)] (Kn.cons rfl (Kn.cons rfl (Kn.cons rfl (Kn.cons rfl (Kn.cons rfl (Kn.cons rfl (Kn.nil))))))) ?_
    refine awp_lastcut (ι := Value) (fun u => [(0, .slice (some ⟨g, o, none⟩) L.length c), (1, .string (str data)), (7, u), (8, uq (many + x.run)), (9, iq (i : Nat))]) (fun u => .ro g o (ecells L) :: rowE u 71 2 (icells (X ++ itsOf x data))) (fun u => RowOk u (X ++ itsOf x data).length) ?_ ?_
    · refine awp_block ?_
      refine awp_loop (ι := Nat × Value) (fun s => [(0, .slice (some ⟨g, o, none⟩) L.length c), (1, .string (str data)), (7, s.2), (8, uq (many + x.run)), (9, iq (i : Nat)), (10, uq s.1)]) (fun s => .ro g o (ecells L) :: rowE s.2 71 2 (icells (X ++ (itsOf x data).take s.1)))
        (fun s => s.1 ≤ x.run ∧ RowOk s.2 (X.length + s.1)) (fun s => x.run - s.1) (0, v) ⟨by simp, hv⟩ (Kn.cons rfl (Kn.cons rfl (Kn.cons rfl (Kn.cons rfl (Kn.cons rfl (Kn.cons rfl Kn.nil)))))) (by simp; exact HLe.refl _) ?_
      rintro ⟨k, u⟩ ⟨hk, hu⟩
      simp only at hk hu

      refine awp_seq ?_
      refine awp_seq_region (fun Z hZ => ?_)
      refine sx_move rfl rfl ?_
      refine sx_move rfl rfl ?_
      refine sx_move rfl rfl ?_
      refine sx_indexAddr (o + i * 4) Try.underlying22 tyS68 rfl rfl (by first | omega | (simp; omega)) (by simp) rfl ?_
      refine sx_fieldAddr rfl tyF68_3 (by first | (simp only [Nat.reduceAdd, Nat.add_zero, Nat.zero_add]; first | done | rfl) | rfl) rfl ?_
      refine sx_loadRo 0 rfl rfl (i * 4 + 3) rfl tyA61 tyS61 hxrun rfl ?_
      refine sx_conv Try.underlying61 Try.underlying46 rfl ((x.run : Nat) : Int) (by rw [IntWalk.u64_in _ (by omega)]) rfl ?_
      first | refine sx_lss rfl rfl rfl ?_ | refine sx_slss rfl rfl rfl ?_
      refine sx_nil (hZ _ _ ?_)
      refine awp_forget [(0, _), (1, _), (7, _), (8, _), (9, _), (10, _), (67, _)] (Kn.cons rfl (Kn.cons rfl (Kn.cons rfl (Kn.cons rfl (Kn.cons rfl (Kn.cons rfl (Kn.cons rfl (Kn.nil)))))))) ?_
      first | refine awp_cond rfl (fun h7 => ?_) (fun h7 => ?_) | refine awp_seq (awp_cond rfl (fun h7 => ?_) (fun h7 => ?_))
      · have hkl : k < x.run := by simp at h7; omega
        have hlenk : (X ++ (itsOf x data).take k).length = X.length + k := by rw [List.length_append, List.length_take, hil]; omega
        refine awp_skip ?_
        repeat (with_reducible (first | refine nx_block_normal ?_ | refine nx_scope_normal ?_))
        with_reducible first | refine nx_normal ?_ | refine nx_normalM ?_
        refine awp_seq (awp_block ?_)
        refine aww_region _ [(0, true), (1, true), (2, true), (3, true), (4, true), (5, true), (6, true), (7, true), (8, true), (9, true), (10, true), (11, true), (12, true), (13, true), (14, true), (15, true), (16, true), (17, true), (18, true), (19, true), (20, true), (21, true), (22, true), (23, true), (24, true), (25, true), (26, true), (27, true), (28, false), (29, false), (30, true)] mixed (by kernel_rfl) (HLe.pick [0] (by simp) (by simp only [pick, List.filterMap_cons, List.filterMap_nil, List.getElem?_cons_succ, List.getElem?_cons_zero]; rfl)) (fun Z hZ => ?_)
        refine tw_p rfl ?_
        refine sv_move rfl rfl ?_
        refine sv_nil ?_
        refine tw_p rfl ?_
        refine sv_move rfl rfl ?_
        refine sv_nil ?_
        refine tw_p rfl ?_
        refine sv_move rfl rfl ?_
        refine sv_nil ?_
        refine tw_p rfl ?_
        refine sv_indexAddr (o + i * 4) Try.underlying22 tyS68 rfl rfl (by first | omega | (simp; omega)) (by simp) rfl ?_
        refine sv_nil ?_
        refine tw_p rfl ?_
        refine sv_fieldAddr rfl tyF68_0 (by first | (simp only [Nat.reduceAdd, Nat.add_zero, Nat.zero_add]; first | done | rfl) | rfl) rfl ?_
        refine sv_nil ?_
        refine tw_p rfl ?_
        refine sv_loadRo 0 rfl rfl (i * 4) rfl tyA46 tyS46 hxid rfl ?_
        refine sv_nil ?_
        refine tw_p rfl ?_
        refine sv_move rfl rfl ?_
        refine sv_nil ?_
        refine tw_p rfl ?_
        refine sv_add rfl rfl ((x.id + k : Nat) : Int) (by show IntKind.u64.wrap (((x.id : Nat) : Int) + ((k : Nat) : Int)) = _; rw [IntWalk.u64_in _ (by unfold En.wide at c2; omega)]; omega) rfl ?_
        refine sv_nil ?_
        refine tw_p rfl ?_
        refine sv_move rfl rfl ?_
        refine sv_nil ?_
        refine tw_p rfl ?_
        refine sv_move rfl rfl ?_
        refine sv_nil ?_
        refine tw_p rfl ?_
        refine sv_move rfl rfl ?_
        refine sv_nil ?_
        refine tw_p rfl ?_
        refine sv_indexAddr (o + i * 4) Try.underlying22 tyS68 rfl rfl (by first | omega | (simp; omega)) (by simp) rfl ?_
        refine sv_nil ?_
        refine tw_p rfl ?_
        refine sv_fieldAddr rfl tyF68_1 (by first | (simp only [Nat.reduceAdd, Nat.add_zero, Nat.zero_add]; first | done | rfl) | rfl) rfl ?_
        refine sv_nil ?_
        refine tw_p rfl ?_
        refine sv_loadRo 0 rfl rfl (i * 4 + 1) rfl tyA46 tyS46 hxoff rfl ?_
        refine sv_nil ?_
        refine tw_p rfl ?_
        refine sv_move rfl rfl ?_
        refine sv_nil ?_
        refine tw_p rfl ?_
        refine sv_move rfl rfl ?_
        refine sv_nil ?_
        refine tw_p rfl ?_
        refine sv_indexAddr (o + i * 4) Try.underlying22 tyS68 rfl rfl (by first | omega | (simp; omega)) (by simp) rfl ?_
        refine sv_nil ?_
        refine tw_p rfl ?_
        refine sv_fieldAddr rfl tyF68_1 (by first | (simp only [Nat.reduceAdd, Nat.add_zero, Nat.zero_add]; first | done | rfl) | rfl) rfl ?_
        refine sv_nil ?_
        refine tw_p rfl ?_
        refine sv_loadRo 0 rfl rfl (i * 4 + 1) rfl tyA46 tyS46 hxoff rfl ?_
        refine sv_nil ?_
        refine tw_p rfl ?_
        refine sv_move rfl rfl ?_
        refine sv_nil ?_
        refine tw_p rfl ?_
        refine sv_move rfl rfl ?_
        refine sv_nil ?_
        refine tw_p rfl ?_
        refine sv_indexAddr (o + i * 4) Try.underlying22 tyS68 rfl rfl (by first | omega | (simp; omega)) (by simp) rfl ?_
        refine sv_nil ?_
        refine tw_p rfl ?_
        refine sv_fieldAddr rfl tyF68_2 (by first | (simp only [Nat.reduceAdd, Nat.add_zero, Nat.zero_add]; first | done | rfl) | rfl) rfl ?_
        refine sv_nil ?_
        refine tw_p rfl ?_
        refine sv_loadRo 0 rfl rfl (i * 4 + 2) rfl tyA61 tyS61 hxlen rfl ?_
        refine sv_nil ?_
        refine tw_p rfl ?_
        refine sv_conv Try.underlying61 Try.underlying46 rfl ((x.len : Nat) : Int) (by rw [IntWalk.u64_in _ (by omega)]) rfl ?_
        refine sv_nil ?_
        refine tw_p rfl ?_
        refine sv_add rfl rfl ((x.off + x.len : Nat) : Int) (by rw [IntWalk.u64_in _ (by omega)]; omega) rfl ?_
        refine sv_nil ?_
        refine tw_p rfl ?_
        refine sv_sliceS tx Try.underlying9 rfl rfl rfl (by omega) (by omega) (by omega) (by rw [← htx]; unfold txOf; simp only [Int.toNat_natCast]; rw [Nat.add_sub_cancel_left]) rfl ?_
        refine sv_nil ?_
        refine tw_p rfl ?_
        refine sv_build tyZ71 tyP71 rfl rfl (by first | (simp only [List.take_succ_cons, List.take_zero, List.drop_succ_cons, List.drop_zero, List.cons_append, List.nil_append, List.append_nil, List.length_cons, List.length_nil, Nat.reduceAdd, Nat.zero_add, Nat.add_zero, Value.cells, wrV, zrep_one, List.replicate_succ, List.replicate_zero, Nat.reduceMul, Nat.zero_mul]; first | done | rfl) | rfl) rfl ?_
        refine sv_nil ?_
        refine tw_g rfl ?_
        refine sx_buildSlice Try.underlying32 tyS71 tyZ71 rfl rfl rfl rfl (by first | (simp only [List.take_succ_cons, List.take_zero, List.drop_succ_cons, List.drop_zero, List.cons_append, List.nil_append, List.append_nil, List.length_cons, List.length_nil, Nat.reduceAdd, Nat.zero_add, Nat.add_zero, Value.cells, wrV, zrep_one, List.replicate_succ, List.replicate_zero, Nat.reduceMul, Nat.zero_mul]; first | done | rfl) | rfl) rfl (fun g1 => ?_)
        refine sx_nil ⟨HLe.pick [1] (by simp) rfl, ?_⟩
        refine tw_g rfl ?_
        refine sx_appendE [_, _] elemItR rfl hu (by rw [icells_len, hlenk]) rfl (fun w hw => rd_own (i := 0) (xs := (⟨x.id + k, tx⟩ : It).cells) rfl rfl hw) rfl (by show _ ≤ 9223372036854775807; omega) (by omega) (HLe.refl _) rfl (fun v2 hv2 => ?_)
        refine sx_nil ⟨HLe.pick [1] (by simp) rfl, ?_⟩
        refine tw_p rfl ?_
        refine sv_assign rfl rfl ?_
        refine sv_nil ?_
        refine tw_nil (hZ _ _ ?_)
        refine nx_forget [(0, _), (1, _), (7, _), (8, _), (9, _), (10, _)] (Kn.cons rfl (Kn.cons rfl (Kn.cons rfl (Kn.cons rfl (Kn.cons rfl (Kn.cons rfl (Kn.nil))))))) ?_
        repeat (with_reducible (first | refine nx_block_normal ?_ | refine nx_scope_normal ?_))
        with_reducible first | refine nx_normal ?_ | refine nx_normalM ?_
        refine awp_region (fun Z hZ => ?_)
        refine sx_move rfl rfl ?_
        refine sx_add rfl rfl ((k + 1 : Nat) : Int) (by show IntKind.u64.wrap (((k : Nat) : Int) + 1) = _; rw [IntWalk.u64_in _ (by omega)]; omega) rfl ?_
        refine sx_assign rfl rfl ?_
        refine sx_nil (hZ _ _ ?_)
        refine nx_forget [(0, _), (1, _), (7, _), (8, _), (9, _), (10, _)] (Kn.cons rfl (Kn.cons rfl (Kn.cons rfl (Kn.cons rfl (Kn.cons rfl (Kn.cons rfl (Kn.nil))))))) ?_
        refine nx_round (k + 1, v2) ⟨hkl, hv2⟩ (by simp; omega) (Kn.cons rfl (Kn.cons rfl (Kn.cons rfl (Kn.cons rfl (Kn.cons rfl (Kn.cons rfl Kn.nil)))))) ?_
        simp only
        rw [hitk k hkl]
        exact HLe.drop 1 rfl
      · have hke : k = x.run := by simp at h7; omega
        subst hke
        refine awp_exit ?_
        repeat (with_reducible (first | refine nx_then_exit ?_ | refine nx_block_other (by decide) ?_ | refine nx_scope_exit ?_))
        with_reducible refine nx_block_exit ?_
        repeat (with_reducible (first | refine nx_block_normal ?_ | refine nx_scope_normal ?_))
        refine nx_cut u (by rw [List.length_append, hil]; exact hu) (Kn.cons rfl (Kn.cons rfl (Kn.cons rfl (Kn.cons rfl (Kn.cons rfl Kn.nil))))) ?_
        simp only
        rw [List.take_of_length_le (Nat.le_of_eq hil)]
        exact HLe.refl _
    intro u hu
    repeat (with_reducible (first | refine nx_block_normal ?_ | refine nx_scope_normal ?_))
    with_reducible first | refine nx_normal ?_ | refine nx_normalM ?_

    refine awp_region (fun Z hZ => ?_)
    refine sx_move rfl rfl ?_
    refine sx_add rfl rfl ((i + 1 : Nat) : Int) (by rw [IntWalk.i64_in _ (by omega)]; omega) rfl ?_
    refine sx_assign rfl rfl ?_
    refine sx_nil (hZ _ _ ?_)
    refine nx_forget [(0, _), (1, _), (7, _), (8, _), (9, _)] (Kn.cons rfl (Kn.cons rfl (Kn.cons rfl (Kn.cons rfl (Kn.cons rfl (Kn.nil)))))) ?_
    obtain ⟨_, _, w3, _⟩ := mwr_zero hw
    exact nx_round (i + 1, many + x.run, u, X ++ itsOf x data) ⟨hlt, hu, by rw [List.length_append, hil, hXl], w3, hqq⟩ (by simp; omega) (Kn.cons rfl (Kn.cons rfl (Kn.cons rfl (Kn.cons rfl (Kn.cons rfl Kn.nil))))) (HLe.refl _)
  · refine awp_exit ?_
    repeat (with_reducible (first | refine nx_then_exit ?_ | refine nx_block_other (by decide) ?_ | refine nx_scope_exit ?_))
    with_reducible refine nx_block_exit ?_
    repeat (with_reducible (first | refine nx_block_normal ?_ | refine nx_scope_normal ?_))
    with_reducible first | refine nx_normal ?_ | refine nx_normalM ?_
    have hke : i = L.length := by simp at h2; omega
    subst hke
    rw [List.drop_length, mbR] at hqq
    rw [← hqq]
    refine awp_seq_region (fun Z hZ => ?_)
    refine sx_move rfl rfl ?_
    refine sx_assign rfl rfl ?_
    refine sx_assign rfl rfl ?_
    refine sx_nil (hZ _ _ ?_)
    refine awp_forget [(4, _), (5, _)] (Kn.cons rfl (Kn.cons rfl (Kn.nil))) ?_
    refine awp_ret ?_
    repeat (with_reducible (first | refine nx_then_ret ?_ | refine nx_block_ret ?_ | refine nx_scope_ret ?_))
    exact nx_ret2h _ rfl rfl rfl (HLe.sub (List.sublist_append_right _ _)) ⟨_, rfl, hv, rfl⟩
end Go.Proofs.Ytffahimbmpddpaa.V
