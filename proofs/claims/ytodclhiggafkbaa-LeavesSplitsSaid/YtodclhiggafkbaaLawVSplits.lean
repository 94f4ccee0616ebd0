/- LeavesSplits. No conditions. -/
import Derived.Test.YtodclhiggafkbaaLf13
namespace Go.Proofs.Ytodclhiggafkbaa
open Go.RowKit
set_option linter.unusedVariables false
set_option linter.unusedSimpArgs false
set_option maxRecDepth 100000
theorem split_u {A : Option Addr} {c : Nat} {L M : List En} {T H' K : Heap} {u : Value} (hor : (RowOk u M.length ∧ H' = rowE u 58 4 (ecells M)) ∨ (u = .slice A L.length c ∧ M = L ∧ H' = [])) (hA : ArgOk A L.length) (hT : 0 < L.length → T = roE A (ecells L)) (hK : T.Sublist K) :
    ∃ A3 c3 T3, u = .slice A3 M.length c3 ∧ ArgOk A3 M.length ∧ (0 < M.length → T3 = roE A3 (ecells M)) ∧ Ro T3 ∧ HLe (T3 ++ K) (H'.filter Ent.wr ++ K) := by
  rcases hor with ⟨hu, rfl⟩ | ⟨rfl, rfl, rfl⟩
  · obtain ⟨A3, c3, rfl, hA3, hle3⟩ := hu.ro
    rw [rowE_flt]
    exact ⟨A3, c3, _, rfl, hA3.arg, fun _ => rfl, Ro.roE _ _, hle3 [] _ _ _ _⟩
  · rcases Nat.eq_zero_or_pos M.length with h0 | h0
    · exact ⟨A, c, [], rfl, hA, fun h => by omega, Ro.nil, HLe.refl _⟩
    · have := hT h0
      subst this
      exact ⟨A, c, _, rfl, hA, fun _ => rfl, Ro.roE _ _, (HLe.swap _ _).trans (HLe.dup hK (Ro.roE _ _))⟩
theorem view_two {A : Option Addr} {n c g o k size : Nat} {t : TypeId} {xs ys zs : List Value} {X : Heap} (hm : Ent.ro g o zs ∈ X) (hs : ∀ j u, ys[j]? = some u → zs[k + j]? = some u)
    (hle : ∀ (X Y : Heap) (t : TypeId) (size : Nat) (xs : List Value), HLe (X ++ (roE A xs ++ Y)) (X ++ (rowE (.slice A n c) t size xs ++ Y))) : HLe (roE A xs ++ [.ro g (o + k) ys]) (X ++ rowE (.slice A n c) t size xs) := by
  have h1 := HLe.view (k := k) (H := X ++ rowE (.slice A n c) t size xs) (xs := zs) (ys := ys) (List.mem_append_left _ hm) hs
  have h2 := hle (.ro g (o + k) ys :: X) [] t size xs
  simp only [List.append_nil] at h2
  exact ((HLe.swap [.ro g (o + k) ys] (roE A xs)).trans (HLe.sub (List.Sublist.cons_cons _ (List.sublist_append_right X _)))).trans (h2.trans h1)
theorem splits_fn (A : Option Addr) (c : Nat) (L : List En) (T : Heap) (hA : ArgOk A L.length) (hT : 0 < L.length → T = roE A (ecells L)) (hro : Ro T) (hL : L.length ≤ maxLen) (hE : EnsOk L) (hc : L.length ≤ c) (hcm : c ≤ maxLen) (b z : Int) (hz : z ≤ 9223372036854775807) :
    Fn Try.prog 3 [.slice A L.length c, iq b, iq z] T fun v _ => v = .bool true := by
  have hL' : L.length ≤ 9223372036854775807 := hL
  refine Fn.enter (N := 90) Try.func3 rfl (by kernel_rfl) rfl (fun w0 => ?_)

  refine awp_seq_region (fun Z hZ => ?_)
  refine sx_assign rfl rfl ?_
  refine sx_nil (hZ _ _ ?_)
  refine awp_forget [(0, _), (1, _), (2, _)] (Kn.cons rfl (Kn.cons rfl (Kn.cons rfl (Kn.nil)))) ?_
  refine awp_seq ?_
  refine awp_seq_region (fun Z hZ => ?_)
  refine sx_move rfl rfl ?_
  first | refine sx_len Try.underlying22 rfl rfl ?_ | refine sx_lenS Try.underlying22 rfl rfl ?_
  first | refine sx_gtr rfl rfl rfl ?_ | refine sx_sgtr rfl rfl rfl ?_
  refine sx_nil (hZ _ _ ?_)
  refine awp_forget [(0, _), (1, _), (2, _), (21, _)] (Kn.cons rfl (Kn.cons rfl (Kn.cons rfl (Kn.cons rfl (Kn.nil))))) ?_
  first | refine awp_cond rfl (fun h => ?_) (fun h => ?_) | refine awp_seq (awp_cond rfl (fun h => ?_) (fun h => ?_))
  · refine awp_seq_region (fun Z hZ => ?_)
    refine sx_callP lawake_fn rfl rfl ?_
    refine sx_assign rfl rfl ?_
    refine sx_nil (hZ _ _ ?_)
    refine awp_forget [(6, _)] (Kn.cons rfl (Kn.nil)) ?_
    refine awp_ret ?_
    repeat (with_reducible (first | refine nx_then_ret ?_ | refine nx_block_ret ?_ | refine nx_scope_ret ?_))
    exact nx_ret1 rfl rfl rfl
  have h3 : L.length ≤ 150 := by simp at h; omega
  refine awp_skip ?_
  repeat (with_reducible (first | refine nx_block_normal ?_ | refine nx_scope_normal ?_))
  with_reducible first | refine nx_normal ?_ | refine nx_normalM ?_
  have hdl := splitQ_len L b
  have hR := rsplit_fn A c L T b hA hT hro (by omega) hE hc hcm
  have hS := fun A1 c1 hA1 hnil hc1 => split_fn A1 c1 L (roE A1 (ecells L)) b hA1 (fun _ => rfl) (Ro.roE _ _) (by omega) hE hnil hc1
  obtain ⟨M, hM⟩ : ∃ M, (splitQ L b).1 = M := ⟨_, rfl⟩
  obtain ⟨s, hs⟩ : ∃ s, (splitQ L b).2.1 = s := ⟨_, rfl⟩
  obtain ⟨m, hm⟩ : ∃ m, (splitQ L b).2.2.1 = m := ⟨_, rfl⟩
  obtain ⟨e, he⟩ : ∃ e, (splitQ L b).2.2.2 = e := ⟨_, rfl⟩
  rw [hM] at hdl
  rw [hM, hs, hm, he] at hS hR
  have hmm : M.length ≤ maxLen := by show _ ≤ 9223372036854775807; omega
  refine awp_seq_region (fun Z hZ => ?_)
  refine sx_move rfl rfl ?_
  refine sx_callRT T (eown_fn A c L T hA hT hro (by omega)) rfl (List.Sublist.refl _) hro rfl (fun v hv => ?_)
  obtain ⟨A1, c1, rfl, hA1, hle⟩ := hv.ro
  refine sx_pure (fun w hw => row_cap hv (fun x hx => List.mem_append_left _ hx) hw) (fun hcap => ?_)
  refine sx_heap (roE A1 (ecells L) ++ T) (hle [] T _ _ _) ?_
  refine sx_assign rfl rfl ?_
  refine sx_nil (hZ _ _ ?_)
  refine awp_forget [(0, _), (1, _), (2, _), (7, _)] (Kn.cons rfl (Kn.cons rfl (Kn.cons rfl (Kn.cons rfl (Kn.nil))))) ?_
  have hnil1 : A1 = none → L.length = 0 := fun h => by
    rcases hA1 with ⟨_, h0⟩ | ⟨g, o, h0⟩
    · exact h0
    · rw [h] at h0; cases h0
  refine awp_seq_region (fun Z hZ => ?_)
  refine sx_move rfl rfl ?_
  refine sx_move rfl rfl ?_
  refine sx_callU (roE A1 (ecells L)) (hS A1 c1 hA1.arg hnil1 hcap.1) rfl (List.sublist_append_left _ _) (Ro.roE _ _) rfl ?_
  rintro v H' ⟨u, rfl, hu, rfl⟩
  rw [rowE_flt]
  obtain ⟨A2, c2, rfl, hA2, hle2⟩ := hu.ro
  refine sx_heap (roE A2 (ecells M) ++ (roE A1 (ecells L) ++ T)) (hle2 [] _ _ _ _) ?_
  refine sx_move rfl rfl ?_
  refine sx_extract rfl rfl rfl ?_
  refine sx_extract rfl rfl rfl ?_
  refine sx_extract rfl rfl rfl ?_
  refine sx_extract rfl rfl rfl ?_
  refine sx_assign rfl rfl ?_
  refine sx_assign rfl rfl ?_
  refine sx_assign rfl rfl ?_
  refine sx_assign rfl rfl ?_
  refine sx_nil (hZ _ _ ?_)
  refine awp_forget [(0, _), (1, _), (2, _), (7, _), (8, _), (9, _), (10, _), (11, _)] (Kn.cons rfl (Kn.cons rfl (Kn.cons rfl (Kn.cons rfl (Kn.cons rfl (Kn.cons rfl (Kn.cons rfl (Kn.cons rfl (Kn.nil))))))))) ?_
  refine awp_seq_region (fun Z hZ => ?_)
  refine sx_move rfl rfl ?_
  refine sx_move rfl rfl ?_
  refine sx_callU T hR rfl ((List.sublist_append_right _ _).trans (List.sublist_append_right _ _)) hro rfl ?_
  rintro v H' ⟨u, rfl, hor⟩
  obtain ⟨A3, c3, T3, rfl, hA3, hT3, hro3, hle3⟩ := split_u (K := roE A2 (ecells M) ++ (roE A1 (ecells L) ++ T)) hor hA hT ((List.sublist_append_right _ _).trans (List.sublist_append_right _ _))
  refine sx_heap (T3 ++ (roE A2 (ecells M) ++ (roE A1 (ecells L) ++ T))) hle3 ?_
  refine sx_move rfl rfl ?_
  refine sx_extract rfl rfl rfl ?_
  refine sx_extract rfl rfl rfl ?_
  refine sx_extract rfl rfl rfl ?_
  refine sx_extract rfl rfl rfl ?_
  refine sx_assign rfl rfl ?_
  refine sx_assign rfl rfl ?_
  refine sx_assign rfl rfl ?_
  refine sx_assign rfl rfl ?_
  refine sx_nil (hZ _ _ ?_)
  refine awp_forget [(0, _), (2, _), (7, _), (8, _), (9, _), (10, _), (11, _), (12, _), (13, _), (14, _), (15, _)] (Kn.cons rfl (Kn.cons rfl (Kn.cons rfl (Kn.cons rfl (Kn.cons rfl (Kn.cons rfl (Kn.cons rfl (Kn.cons rfl (Kn.cons rfl (Kn.cons rfl (Kn.cons rfl (Kn.nil)))))))))))) ?_
  refine awp_seq ?_
  refine awp_seq_meet [(0, .slice A L.length c), (2, iq z), (7, .slice A1 L.length c1), (60, .bool false)] (roE A1 (ecells L) ++ T) (fun Z hZ => ?_) ?_
  · refine sx_move rfl rfl ?_
    refine sx_callRT (roE A2 (ecells M)) (eback_fn A2 c2 M _ hA2.arg (fun _ => rfl) (Ro.roE _ _) (by omega)) rfl ((List.sublist_append_left _ _).trans (List.sublist_append_right _ _)) (Ro.roE _ _) rfl (fun v hv => ?_)
    obtain ⟨A4, c4, rfl, hA4, hle4⟩ := hv.ro
    refine sx_heap (roE A4 (ecells M) ++ (T3 ++ (roE A2 (ecells M) ++ (roE A1 (ecells L) ++ T)))) (hle4 [] _ _ _ _) ?_
    refine sx_move rfl rfl ?_
    refine sx_callPT (roE A4 (ecells M) ++ T3) (rsame_fn A4 c4 M _ hA4.arg (fun _ => rfl) hmm A3 c3 M T3 hA3 hT3 hmm) rfl (List.Sublist.append_left (List.sublist_append_left _ _) _) ((Ro.roE _ _).append hro3) rfl ?_
    rw [show sameL M M = true from sameL_iff.2 rfl]
    refine sx_not rfl rfl ?_
    refine sx_move rfl rfl ?_
    refine sx_force 46 rfl false (by first | rfl | (simp; done)) ?_
    refine sx_on rfl rfl rfl ?_
    refine sx_move rfl rfl ?_
    refine sx_on rfl rfl rfl ?_
    refine sx_move rfl rfl ?_
    refine sx_on rfl rfl rfl ?_
    first | refine sx_neq rfl rfl rfl ?_ | refine sx_sneq rfl rfl rfl ?_
    refine sx_pick rfl rfl rfl ?_
    refine sx_move rfl rfl ?_
    refine sx_force 51 rfl false (by first | rfl | (simp; done)) ?_
    refine sx_on rfl rfl rfl ?_
    refine sx_move rfl rfl ?_
    refine sx_on rfl rfl rfl ?_
    refine sx_move rfl rfl ?_
    refine sx_on rfl rfl rfl ?_
    first | refine sx_neq rfl rfl rfl ?_ | refine sx_sneq rfl rfl rfl ?_
    refine sx_pick rfl rfl rfl ?_
    refine sx_move rfl rfl ?_
    refine sx_force 56 rfl false (by first | rfl | (simp; done)) ?_
    refine sx_on rfl rfl rfl ?_
    refine sx_move rfl rfl ?_
    refine sx_on rfl rfl rfl ?_
    refine sx_move rfl rfl ?_
    refine sx_on rfl rfl rfl ?_
    first | refine sx_neq rfl rfl rfl ?_ | refine sx_sneq rfl rfl rfl ?_
    refine sx_pick rfl rfl rfl ?_
    refine sx_nil (hZ _ _ ?_ ?_)
    · exact Kn.cons rfl (Kn.cons rfl (Kn.cons rfl (Kn.cons (congrArg some (congrArg Value.bool (by simp))) Kn.nil)))
    · exact HLe.sub (((List.sublist_append_right _ _).trans (List.sublist_append_right _ _)).trans (List.sublist_append_right _ _))
  first | refine awp_cond rfl (fun h4 => ?_) (fun h4 => ?_) | refine awp_seq (awp_cond rfl (fun h4 => ?_) (fun h4 => ?_))
  · cases h4
  refine awp_skip ?_
  repeat (with_reducible (first | refine nx_block_normal ?_ | refine nx_scope_normal ?_))
  with_reducible first | refine nx_normal ?_ | refine nx_normalM ?_
  by_cases hz1 : z < 1
  · refine awp_seq_region (fun Z hZ => ?_)
    refine sx_move rfl rfl ?_
    refine sx_move rfl rfl ?_
    refine sx_callPT [] (cut0_fn A1 L.length c1 z hz1) rfl (List.nil_sublist _) Ro.nil rfl ?_
    refine sx_move rfl rfl ?_
    refine sx_move rfl rfl ?_
    refine sx_callPT [] (rcut0_fn A L.length c z hz1) rfl (List.nil_sublist _) Ro.nil rfl ?_
    refine sx_assign rfl rfl ?_
    refine sx_assign rfl rfl ?_
    refine sx_nil (hZ _ _ ?_)
    refine awp_forget [(16, _), (17, _)] (Kn.cons rfl (Kn.cons rfl (Kn.nil))) ?_
    refine awp_seq ?_
    refine awp_seq_region (fun Z hZ => ?_)
    refine sx_move rfl rfl ?_
    first | refine sx_len Try.underlying33 rfl rfl ?_ | refine sx_lenS Try.underlying33 rfl rfl ?_
    refine sx_move rfl rfl ?_
    first | refine sx_len Try.underlying35 rfl rfl ?_ | refine sx_lenS Try.underlying35 rfl rfl ?_
    first | refine sx_neq rfl rfl rfl ?_ | refine sx_sneq rfl rfl rfl ?_
    refine sx_nil (hZ _ _ ?_)
    refine awp_forget [(16, _), (17, _), (71, _)] (Kn.cons rfl (Kn.cons rfl (Kn.cons rfl (Kn.nil)))) ?_
    first | refine awp_cond rfl (fun h5 => ?_) (fun h5 => ?_) | refine awp_seq (awp_cond rfl (fun h5 => ?_) (fun h5 => ?_))
    · cases h5
    refine awp_skip ?_
    repeat (with_reducible (first | refine nx_block_normal ?_ | refine nx_scope_normal ?_))
    with_reducible first | refine nx_normal ?_ | refine nx_normalM ?_
    refine awp_seq ?_
    refine awp_seq_region (fun Z hZ => ?_)
    refine sx_assign rfl rfl ?_
    refine sx_nil (hZ _ _ ?_)
    refine awp_forget [(16, _), (17, _), (18, _)] (Kn.cons rfl (Kn.cons rfl (Kn.cons rfl (Kn.nil)))) ?_
    refine awp_block ?_
    refine awp_loop (ι := Unit) (fun _ => [(16, .slice none 0 0), (17, .slice none 0 0), (18, iq (0 : Nat))]) (fun _ => []) (fun _ => True) (fun _ => 0) () trivial (Kn.cons rfl (Kn.cons rfl (Kn.cons rfl Kn.nil))) (HLe.sub (List.nil_sublist _)) ?_
    rintro ⟨⟩ -
    refine awp_seq ?_
    refine awp_seq_region (fun Z hZ => ?_)
    refine sx_move rfl rfl ?_
    refine sx_move rfl rfl ?_
    first | refine sx_len Try.underlying33 rfl rfl ?_ | refine sx_lenS Try.underlying33 rfl rfl ?_
    first | refine sx_lss rfl rfl rfl ?_ | refine sx_slss rfl rfl rfl ?_
    refine sx_nil (hZ _ _ ?_)
    refine awp_forget [(16, _), (17, _), (18, _), (75, _)] (Kn.cons rfl (Kn.cons rfl (Kn.cons rfl (Kn.cons rfl (Kn.nil))))) ?_
    first | refine awp_cond rfl (fun h6 => ?_) (fun h6 => ?_) | refine awp_seq (awp_cond rfl (fun h6 => ?_) (fun h6 => ?_))
    · cases h6
    · refine awp_exit ?_
      repeat (with_reducible (first | refine nx_then_exit ?_ | refine nx_block_other (by decide) ?_ | refine nx_scope_exit ?_))
      with_reducible refine nx_block_exit ?_
      repeat (with_reducible (first | refine nx_block_normal ?_ | refine nx_scope_normal ?_))
      with_reducible first | refine nx_normal ?_ | refine nx_normalM ?_
      refine awp_seq_region (fun Z hZ => ?_)
      refine sx_callP lawake_fn rfl rfl ?_
      refine sx_assign rfl rfl ?_
      refine sx_nil (hZ _ _ ?_)
      refine awp_forget [(6, _)] (Kn.cons rfl (Kn.nil)) ?_
      refine awp_ret ?_
      repeat (with_reducible (first | refine nx_then_ret ?_ | refine nx_block_ret ?_ | refine nx_scope_ret ?_))
      exact nx_ret1 rfl rfl rfl
  obtain ⟨k, rfl⟩ : ∃ k : Nat, z = k := ⟨z.toNat, by omega⟩
  have hk0 : 0 < k := by omega
  have hkm : k ≤ maxLen := by show _ ≤ 9223372036854775807; omega
  have hcl := cntP_le (n := L.length) hk0
  refine awp_seq_region (fun Z hZ => ?_)
  refine sx_move rfl rfl ?_
  refine sx_move rfl rfl ?_
  refine sx_callU (roE A1 (ecells L)) (cut_fn A1 c1 L _ k hA1.arg (fun _ => rfl) (Ro.roE _ _) (by omega) hcap.1 hk0 hkm) rfl (List.sublist_append_left _ _) (Ro.roE _ _) rfl ?_
  rintro v H' ⟨us, hv, husl, hus, hsnd, rfl⟩
  rw [((rowE_wrs _ _ _ _).append (pcH_wrs us)).filter]
  rw [husl] at hv
  obtain ⟨A5, c5, rfl, hA5, hle5⟩ := hv.ro
  refine sx_heap (roE A5 (us.map Prod.fst) ++ (pcR us ++ (roE A1 (ecells L) ++ T))) (HLe.trans (pcH_ro us (roE A5 (us.map Prod.fst)) _ hus) (by rw [List.append_assoc]; exact hle5 [] _ _ _ _)) ?_
  refine sx_move rfl rfl ?_
  refine sx_move rfl rfl ?_
  refine sx_callU [] (rcut_fn A L.length c k hA (by omega) hc hcm hk0 hkm) rfl (List.nil_sublist _) Ro.nil rfl ?_
  rintro v H' ⟨hv6, rfl⟩
  rw [rowE_flt]
  obtain ⟨A6, c6, rfl, hA6, hle6⟩ := hv6.ro
  refine sx_heap (roE A6 (rcVs A L.length c k (cntP L.length k)) ++ (roE A5 (us.map Prod.fst) ++ (pcR us ++ (roE A1 (ecells L) ++ T)))) (hle6 [] _ _ _ _) ?_
  refine sx_assign rfl rfl ?_
  refine sx_assign rfl rfl ?_
  refine sx_nil (hZ _ _ ?_)
  refine awp_forget [(16, _), (17, _)] (Kn.cons rfl (Kn.cons rfl (Kn.nil))) ?_
  refine awp_seq ?_
  refine awp_seq_region (fun Z hZ => ?_)
  refine sx_move rfl rfl ?_
  first | refine sx_len Try.underlying33 rfl rfl ?_ | refine sx_lenS Try.underlying33 rfl rfl ?_
  refine sx_move rfl rfl ?_
  first | refine sx_len Try.underlying35 rfl rfl ?_ | refine sx_lenS Try.underlying35 rfl rfl ?_
  first | refine sx_neq rfl rfl rfl ?_ | refine sx_sneq rfl rfl rfl ?_
  refine sx_nil (hZ _ _ ?_)
  refine awp_forget [(16, _), (17, _), (71, _)] (Kn.cons rfl (Kn.cons rfl (Kn.cons rfl (Kn.nil)))) ?_
  first | refine awp_cond rfl (fun h5 => ?_) (fun h5 => ?_) | refine awp_seq (awp_cond rfl (fun h5 => ?_) (fun h5 => ?_))
  · simp at h5
  refine awp_skip ?_
  repeat (with_reducible (first | refine nx_block_normal ?_ | refine nx_scope_normal ?_))
  with_reducible first | refine nx_normal ?_ | refine nx_normalM ?_
  refine awp_heap (roE A6 (rcVs A L.length c k (cntP L.length k)) ++ (roE A5 (us.map Prod.fst) ++ (pcR us ++ T))) (HLe.sub (List.Sublist.append_left (List.Sublist.append_left (List.Sublist.append_left (List.sublist_append_right _ _) _) _) _)) ?_
  refine awp_seq ?_
  refine awp_seq_region (fun Z hZ => ?_)
  refine sx_assign rfl rfl ?_
  refine sx_nil (hZ _ _ ?_)
  refine awp_forget [(16, _), (17, _), (18, _)] (Kn.cons rfl (Kn.cons rfl (Kn.cons rfl (Kn.nil)))) ?_
  refine awp_block ?_
  refine awp_loop (ι := Nat) (fun i => [(16, .slice A5 (cntP L.length k) c5), (17, .slice A6 (cntP L.length k) c6), (18, iq (i : Nat))]) (fun _ => roE A6 (rcVs A L.length c k (cntP L.length k)) ++ (roE A5 (us.map Prod.fst) ++ (pcR us ++ T))) (fun i => i ≤ cntP L.length k) (fun i => cntP L.length k - i) 0 (Nat.zero_le _) (Kn.cons rfl (Kn.cons rfl (Kn.cons rfl Kn.nil))) (HLe.refl _) ?_
  intro j hj
  refine awp_seq ?_
  refine awp_seq_region (fun Z hZ => ?_)
  refine sx_move rfl rfl ?_
  refine sx_move rfl rfl ?_
  first | refine sx_len Try.underlying33 rfl rfl ?_ | refine sx_lenS Try.underlying33 rfl rfl ?_
  first | refine sx_lss rfl rfl rfl ?_ | refine sx_slss rfl rfl rfl ?_
  refine sx_nil (hZ _ _ ?_)
  refine awp_forget [(16, _), (17, _), (18, _), (75, _)] (Kn.cons rfl (Kn.cons rfl (Kn.cons rfl (Kn.cons rfl (Kn.nil))))) ?_
  first | refine awp_cond rfl (fun h6 => ?_) (fun h6 => ?_) | refine awp_seq (awp_cond rfl (fun h6 => ?_) (fun h6 => ?_))
  · have hlt : j < cntP L.length k := by simpa using h6
    have hjz := (cntP_iff hk0).1 hlt
    obtain ⟨x, hx⟩ : ∃ x, us[j]? = some x := ⟨_, List.getElem?_eq_getElem (by omega)⟩
    have hxm := List.mem_of_getElem? hx
    have hP : x.2 = pcL L k j := by
      have h1 : (us.map Prod.snd)[j]? = some x.2 := by rw [List.getElem?_map, hx]; rfl
      rw [hsnd, List.getElem?_map, List.getElem?_range hlt] at h1
      exact (Option.some.inj h1).symm
    have hPl : x.2.length = min k (L.length - j * k) := by rw [hP, pcL_len]
    have hsubP : ∀ j' u, (ecells x.2)[j']? = some u → (ecells L)[j * k * 4 + j']? = some u := fun j' u hu => by rw [hP] at hu; exact ecells_pc hu
    have hP0 : 0 < x.2.length := by omega
    obtain ⟨gp, cp, hxv⟩ := (hus x hxm).some hP0
    obtain ⟨u, P⟩ := x
    simp only at hxv hP hP0 hPl hxm hsubP
    subst hxv
    obtain ⟨ga, o, rfl⟩ := hA (by omega)
    obtain rfl := hT (by omega)
    obtain ⟨g5, o5, rfl⟩ := hA5.some (by omega)
    obtain ⟨g6, o6, rfl⟩ := hA6.some (by omega)
    have hrd5 : rdV false 1 (us.map Prod.fst) j = some (.slice (some ⟨gp, 0, none⟩) P.length cp) := by show (us.map Prod.fst)[j]? = _; rw [List.getElem?_map, hx]; rfl
    have hrv : rcV (some ⟨ga, o, none⟩) L.length c k j = .slice (some ⟨ga, o + j * k * 4, none⟩) P.length (c - j * k) := by rw [hPl]; rfl
    have hrd6 : rdV false 1 (rcVs (some ⟨ga, o, none⟩) L.length c k (cntP L.length k)) j = some (.slice (some ⟨ga, o + j * k * 4, none⟩) P.length (c - j * k)) := by
      show (rcVs (some ⟨ga, o, none⟩) L.length c k (cntP L.length k))[j]? = _
      rw [rcVs, List.getElem?_map, List.getElem?_range hlt, ← hrv]
      rfl
    have hPm : P.length ≤ maxLen := by show _ ≤ 9223372036854775807; omega
    have hback := eback_fn (some ⟨gp, 0, none⟩) cp P _ (fun _ => ⟨_, _, rfl⟩) (fun _ => rfl) (Ro.roE _ _) (by omega)
    refine awp_heap (.ro g6 o6 (rcVs (some ⟨ga, o, none⟩) L.length c k (cntP L.length k)) :: .ro g5 o5 (us.map Prod.fst) :: (pcR us ++ [.ro ga o (ecells L)])) (HLe.refl _) ?_
    refine awp_skip ?_
    repeat (with_reducible (first | refine nx_block_normal ?_ | refine nx_scope_normal ?_))
    with_reducible first | refine nx_normal ?_ | refine nx_normalM ?_
    refine awp_seq (awp_block ?_)
    refine aww_seq_region _ [(0, true), (1, true), (2, true), (3, true), (4, false), (5, true), (6, true), (7, true), (8, true), (9, false), (10, true)] mixed (by kernel_rfl) (HLe.pick [0, 1] (by simp) (by simp only [pick, List.filterMap_cons, List.filterMap_nil, List.getElem?_cons_succ, List.getElem?_cons_zero]; rfl)) (fun Z hZ => ?_)
    refine tw_p rfl ?_
    refine sv_move rfl rfl ?_
    refine sv_nil ?_
    refine tw_p rfl ?_
    refine sv_move rfl rfl ?_
    refine sv_nil ?_
    refine tw_p rfl ?_
    refine sv_indexAddr (o5 + j * 1) Try.underlying33 tyS24 rfl rfl (by omega) (by simp) rfl ?_
    refine sv_nil ?_
    refine tw_p rfl ?_
    refine sv_loadRo 1 rfl rfl j (by omega) tyA24 tyS24 hrd5 rfl ?_
    refine sv_nil ?_
    refine tw_g rfl ?_
    refine sx_callRE (roE (some ⟨gp, 0, none⟩) (ecells P)) hback rfl (((pcR_sub hxm).trans (List.sublist_append_left _ _)).trans ((List.sublist_cons_self _ _).trans (List.sublist_cons_self _ _))) (Ro.roE _ _) rfl (fun v7 hv7 => ?_)
    obtain ⟨A7, c7, rfl, hA7, hle7⟩ := hv7.ro
    refine sx_nil ⟨HLe.pick [0, 1] (by simp) rfl, ?_⟩
    refine tw_p rfl ?_
    refine sv_move rfl rfl ?_
    refine sv_nil ?_
    refine tw_p rfl ?_
    refine sv_move rfl rfl ?_
    refine sv_nil ?_
    refine tw_p rfl ?_
    refine sv_indexAddr (o6 + j * 1) Try.underlying35 tyS22 rfl rfl (by omega) (by simp) rfl ?_
    refine sv_nil ?_
    refine tw_p rfl ?_
    refine sv_loadRo 0 rfl rfl j (by omega) tyA22 tyS22 hrd6 rfl ?_
    refine sv_nil ?_
    refine tw_g rfl ?_
    refine sx_callV (roE A7 (ecells P) ++ [.ro ga (o + j * k * 4) (ecells P)]) (rsame_fn A7 c7 P _ hA7.arg (fun _ => rfl) hPm (some ⟨ga, o + j * k * 4, none⟩) (c - j * k) P _ (fun _ => ⟨_, _, rfl⟩) (fun _ => rfl) hPm) rfl (view_two (X := .ro g6 o6 (rcVs (some ⟨ga, o, none⟩) L.length c k (cntP L.length k)) :: .ro g5 o5 (us.map Prod.fst) :: (pcR us ++ [.ro ga o (ecells L)])) (by simp) hsubP hle7) ((Ro.roE _ _).append (Ro.roE (some ⟨ga, o + j * k * 4, none⟩) (ecells P))) rfl ?_
    rw [show sameL P P = true from sameL_iff.2 rfl]
    refine sx_nil ⟨HLe.pick [0, 1] (by simp) rfl, ?_⟩
    refine tw_p rfl ?_
    refine sv_not rfl rfl ?_
    refine sv_nil ?_
    refine tw_nil (hZ _ _ ?_)
    refine awp_forget [(16, _), (17, _), (18, _), (88, _)] (Kn.cons rfl (Kn.cons rfl (Kn.cons rfl (Kn.cons rfl (Kn.nil))))) ?_
    first | refine awp_cond rfl (fun h7 => ?_) (fun h7 => ?_) | refine awp_seq (awp_cond rfl (fun h7 => ?_) (fun h7 => ?_))
    · cases h7
    refine awp_skip ?_
    repeat (with_reducible (first | refine nx_block_normal ?_ | refine nx_scope_normal ?_))
    with_reducible first | refine nx_normal ?_ | refine nx_normalM ?_
    refine awp_region (fun Z hZ => ?_)
    refine sx_move rfl rfl ?_
    refine sx_add rfl rfl ((j + 1 : Nat) : Int) (by rw [IntWalk.i64_in _ (by omega)]; omega) rfl ?_
    refine sx_assign rfl rfl ?_
    refine sx_nil (hZ _ _ ?_)
    refine nx_forget [(16, _), (17, _), (18, _)] (Kn.cons rfl (Kn.cons rfl (Kn.cons rfl (Kn.nil)))) ?_
    exact nx_round (j + 1) (by omega) (by omega) (Kn.cons rfl (Kn.cons rfl (Kn.cons rfl Kn.nil))) (HLe.sub (List.sublist_append_left _ _))
  · refine awp_exit ?_
    repeat (with_reducible (first | refine nx_then_exit ?_ | refine nx_block_other (by decide) ?_ | refine nx_scope_exit ?_))
    with_reducible refine nx_block_exit ?_
    repeat (with_reducible (first | refine nx_block_normal ?_ | refine nx_scope_normal ?_))
    with_reducible first | refine nx_normal ?_ | refine nx_normalM ?_
    refine awp_seq_region (fun Z hZ => ?_)
    refine sx_callP lawake_fn rfl rfl ?_
    refine sx_assign rfl rfl ?_
    refine sx_nil (hZ _ _ ?_)
    refine awp_forget [(6, _)] (Kn.cons rfl (Kn.nil)) ?_
    refine awp_ret ?_
    repeat (with_reducible (first | refine nx_then_ret ?_ | refine nx_block_ret ?_ | refine nx_scope_ret ?_))
    exact nx_ret1 rfl rfl rfl
theorem LeavesSplits_read {H : Type} {enc : TypeId × Value → H} (w : World) {base : Nat} {v0 v1 v2 : Value} {d0 d1 d2 : DataW H} {p0 p1 p2 : List MemPlace}
    (k0 : Value.okWide Try.prog w .any base 22 v0) (h0 : DataW.Trod enc Try.prog w 0 (fun _ => true) true 22 v0 d0 p0)
    (k1 : Value.okWide Try.prog w .any base 3 v1) (h1 : DataW.Trod enc Try.prog w 0 (fun _ => true) true 3 v1 d1 p1)
    (k2 : Value.okWide Try.prog w .any base 3 v2) (h2 : DataW.Trod enc Try.prog w 0 (fun _ => true) true 3 v2 d2 p2) :
    Calls Try.prog 3 #[v0, v1, v2] w fun e w' => e = .returned (.bool true) ∧ Bel w w' := by
  obtain ⟨A', n', c', hv, hcap, hcm⟩ := open_cap k0 h0
  obtain ⟨A, c, L, T, rfl, hA, hL, hE, hT, hro, hS⟩ := open_ens k0 h0
  injection hv with e1 e2 e3
  subst e1 e2 e3
  obtain ⟨b, rfl, _, _, hb⟩ := ChangeShapes.open_int Try.underlying3 k1 h1
  obtain ⟨z, rfl, _, _, hz⟩ := ChangeShapes.open_int Try.underlying3 k2 h2
  have hz := (wf_i64 hz).2
  exact tail_bel hro hS (splits_fn A c L T hA hT hro hL hE hcap hcm b z (by omega))
namespace leavesSplits
open Go.ChangeShapes Go.WideShapes Go.ChangeAt Go.RowKit
theorem own : ownKnob Try.prog.godebug = none := by kernel_rfl
theorem laidOut : laidOutB Try.prog = true := by kernel_rfl
set_option maxRecDepth 100000 in
theorem lifted (os : Os) (started : os.Started) (H : Type) (enc : TypeId × Value → H) :
    ReturnsInHanded {} Try.checked os 3 .any (Rows.leavesSplitsSpec.pre6 enc Try.prog Try.f3 Rows.leavesSplitsRow.domain false) (Rows.leavesSplitsSpec.post enc Try.prog Try.f3 false true false false) := by
  refine returnsInHanded_of_change (C := Try.checked) own started (by kernel_rfl) Try.func3
    (ChangeSpec.witness6 (enc := enc) (C := Try.checked) false ⟨#[], #[.slice none 0 0, .int .i64 0, .int .i64 0], []⟩ 8 (by kernel_rfl) (by kernel_rfl) (by kernel_rfl) (by kernel_rfl)) ?_
  intro W base args ds gs before hval0 hW hcnd _
  have hval : ∀ (j : Nat) t v, Try.f3.params[j]? = some t → args[j]? = some v → Value.okWide Try.prog W .any base t v := hval0
  have hW' := hW
  obtain ⟨p, q, hA0, hV, rfl, hfz, hnd⟩ := hW
  have hA : DataW.TrodAll enc Try.prog W 0 (fun _ => true) true Try.f3.params.toList args.toList ds p := hA0
  rw [Try.params3] at hA hval
  obtain ⟨v0, vs0, d0, ds0, p0, q0, hargs, rfl, rfl, h0, r0⟩ := trodAll_cons hA
  obtain ⟨v1, vs1, d1, ds1, p1, q1, rfl, rfl, rfl, h1, r1⟩ := trodAll_cons r0
  obtain ⟨v2, vs2, d2, ds2, p2, q2, rfl, rfl, rfl, h2, r2⟩ := trodAll_cons r1
  obtain ⟨rfl, rfl, rfl⟩ := trodAll_nil r2
  obtain rfl : args = #[v0, v1, v2] := by cases args; simp_all
  obtain ⟨rfl, rfl⟩ := trodVars_none hV
  have lt0 : ∀ x ∈ p0, x.block < W.heap.size := by obtain ⟨m, hm⟩ := h0; exact DataW.trod_lt m _ _ _ hm
  have lt1 : ∀ x ∈ p1, x.block < W.heap.size := by obtain ⟨m, hm⟩ := h1; exact DataW.trod_lt m _ _ _ hm
  have lt2 : ∀ x ∈ p2, x.block < W.heap.size := by obtain ⟨m, hm⟩ := h2; exact DataW.trod_lt m _ _ _ hm
  refine (LeavesSplits_read W (hval 0 22 v0 rfl rfl) h0 (hval 1 3 v1 rfl rfl) h1 (hval 2 3 v2 rfl rfl) h2).mono fun e W' ⟨he, bel0⟩ => ?_
  have bel : Below W.heap.size W W' := bel0
  subst he
  exact ⟨_, rfl, _, _, _, [], _, [], hW', trodAll_mk1 (shut_bool Try.underlying4 _), (trodAll_cons_mk (Below.trod laidOut (by kernel_rfl) (of_decide_eq_true (by kernel_rfl)) h0 bel lt0) (trodAll_cons_mk (Below.trod laidOut (by kernel_rfl) (of_decide_eq_true (by kernel_rfl)) h1 bel lt1) (trodAll_cons_mk (Below.trod laidOut (by kernel_rfl) (of_decide_eq_true (by kernel_rfl)) h2 bel lt2) trodAll_mk0))), rfl, bel.frame _, fun h => by cases h⟩
theorem over : Rows.leavesSplitsRow.holds Try.pinned (OpenSpec.ofChange Rows.leavesSplitsSpec) :=
  OpenClaim.holds_of_wide 3 Try.f3 rfl rfl rfl rfl rfl rfl rfl ⟨rfl, rfl, rfl, rfl, rfl⟩ rfl rfl rfl rfl rfl (by kernel_rfl) Try.func3 (by kernel_rfl)
    (of_decide_eq_true (by kernel_rfl)) (by unfold Func.isWrapper; first | (rw [if_pos (by decide +kernel)]; kernel_rfl) | (rw [if_neg (by decide +kernel)]; exact ⟨rfl, rfl⟩))
    (fun os started H enc _ => lifted os started H enc)
theorem proved : Rows.LeavesSplitsSaid := over
#print axioms proved
end leavesSplits
end Go.Proofs.Ytodclhiggafkbaa
