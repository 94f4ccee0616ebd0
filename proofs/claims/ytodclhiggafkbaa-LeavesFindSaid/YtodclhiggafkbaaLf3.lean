/- The walk of leaves.Cut. Conditions: the lists are not too long. -/
import Derived.Test.YtodclhiggafkbaaLf2
import Derived.Test.YtodclhiggafkbaaSxX
namespace Go.Proofs.Ytodclhiggafkbaa
open Go.RowKit
set_option linter.unusedVariables false
set_option linter.unusedSimpArgs false
theorem elemSl : ElemOk Try.prog 33 24 1 24 := ElemOk.mk_ (z := .slice none 0 0) Try.underlying33 (by kernel_rfl) rfl (by omega)
/-- Pieces that are rows of one's own. -/
def pcH (us : List (Value × List En)) : Heap := us.flatMap fun x => rowE x.1 52 4 (ecells x.2)
theorem pcH_wrs (us : List (Value × List En)) : Wrs (pcH us) := fun e he => by
  obtain ⟨x, _, hx⟩ := List.mem_flatMap.1 he
  exact rowE_wrs _ _ _ _ e hx
theorem pcH_snoc (us : List (Value × List En)) (x : Value × List En) : pcH (us ++ [x]) = pcH us ++ rowE x.1 52 4 (ecells x.2) := by simp [pcH]
theorem ecells_pc {L : List En} {i z j : Nat} {u : Value} (h : (ecells ((L.drop i).take z))[j]? = some u) : (ecells L)[i * 4 + j]? = some u := by
  have h1 : (ecells L).drop (i * 4) = ecells (L.drop i) := fm_drop en_len L i
  have h2 : ecells (L.drop i) = ecells ((L.drop i).take z) ++ ecells ((L.drop i).drop z) := by rw [← List.flatMap_append, List.take_append_drop]
  rw [← List.getElem?_drop, h1, h2, List.getElem?_append_left (List.getElem?_eq_some_iff.1 h).1]
  exact h
theorem toEnd2 (X R Y U : Heap) : HLe ((X ++ (Y ++ U)) ++ R) (X ++ ((R ++ Y) ++ U)) := fun _ _ _ hw => hw.perm (by
  rw [List.append_assoc, List.append_assoc]
  exact List.Perm.append_left X (List.perm_append_comm (l₁ := R) (l₂ := Y ++ U)))
theorem fin_le (b v a r : Ent) (C U R : Heap) : HLe (a :: (R ++ (C ++ U))) ((b :: v :: a :: ((C ++ [r]) ++ U)) ++ R) := fun _ _ _ hw =>
  (hw.sub (show List.Sublist (a :: ((C ++ U) ++ R)) _ from List.Sublist.cons b (List.Sublist.cons v (List.Sublist.cons_cons a (List.Sublist.append_right (List.Sublist.append_right (List.sublist_append_left C [r]) U) R))))).perm
    (List.Perm.cons a List.perm_append_comm)
theorem rev3 (a b c : Ent) (T : Heap) : HLe (c :: b :: a :: T) (a :: b :: c :: T) := fun _ _ _ hw => hw.perm (List.Perm.append_right T (List.reverse_perm [c, b, a]))
theorem cut0_fn (A : Option Addr) (n c : Nat) (z : Int) (hz : z < 1) : Fn Try.prog 13 [.slice A n c, iq z] [] fun v _ => v = .slice none 0 0 := by
  refine Fn.enterM (n := 19) Try.func13 rfl (by kernel_rfl) rfl (fun w0 => ?_)

  refine awp_seq_region (fun Z hZ => ?_)
  refine sx_assign rfl rfl ?_
  refine sx_nil (hZ _ _ ?_)
  refine awp_forget [(0, _), (1, _)] (Kn.cons rfl (Kn.cons rfl (Kn.nil))) ?_
  refine awp_seq ?_
  refine awp_seq_region (fun Z hZ => ?_)
  refine sx_move rfl rfl ?_
  first | refine sx_lss rfl rfl rfl ?_ | refine sx_slss rfl rfl rfl ?_
  refine sx_nil (hZ _ _ ?_)
  refine awp_forget [(0, _), (1, _), (8, _)] (Kn.cons rfl (Kn.cons rfl (Kn.cons rfl (Kn.nil)))) ?_
  first | refine awp_cond rfl (fun h => ?_) (fun h => ?_) | refine awp_seq (awp_cond rfl (fun h => ?_) (fun h => ?_))
  · refine awp_seq_region (fun Z hZ => ?_)
    refine sx_assign rfl rfl ?_
    refine sx_nil (hZ _ _ ?_)
    refine awp_forget [(4, _)] (Kn.cons rfl (Kn.nil)) ?_
    refine awp_ret ?_
    repeat (with_reducible (first | refine nx_then_ret ?_ | refine nx_block_ret ?_ | refine nx_scope_ret ?_))
    exact nx_unmark [] trivial (nx_ret1 rfl rfl rfl)
  · simp at h
    omega
theorem cut_fn (A : Option Addr) (c : Nat) (L : List En) (T : Heap) (z : Nat) (hA : ArgOk A L.length) (hT : 0 < L.length → T = roE A (ecells L)) (hro : Ro T) (hL : L.length ≤ 10000) (hc : L.length ≤ c) (hz : 0 < z) (hzm : z ≤ maxLen) :
    Fn Try.prog 13 [.slice A L.length c, iq z] T fun v H' => ∃ us : List (Value × List En), RowOk v us.length ∧ us.length = cntP L.length z ∧ (∀ x ∈ us, RowOk x.1 x.2.length) ∧ us.map Prod.snd = (List.range (cntP L.length z)).map (pcL L z) ∧ H' = rowE v 24 1 (us.map Prod.fst) ++ pcH us := by
  have hcn : cntP L.length z ≤ L.length := by
    rcases Nat.lt_or_ge L.length (cntP L.length z) with h | h
    · have h1 := (cntP_iff hz).1 h
      have := Nat.le_mul_of_pos_right L.length hz
      omega
    · exact h
  refine Fn.enterM (n := 19) Try.func13 rfl (by kernel_rfl) rfl (fun w0 => ?_)

  refine awp_seq_region (fun Z hZ => ?_)
  refine sx_assign rfl rfl ?_
  refine sx_nil (hZ _ _ ?_)
  refine awp_forget [(0, _), (1, _)] (Kn.cons rfl (Kn.cons rfl (Kn.nil))) ?_
  refine awp_seq ?_
  refine awp_seq_region (fun Z hZ => ?_)
  refine sx_move rfl rfl ?_
  first | refine sx_lss rfl rfl rfl ?_ | refine sx_slss rfl rfl rfl ?_
  refine sx_nil (hZ _ _ ?_)
  refine awp_forget [(0, _), (1, _), (8, _)] (Kn.cons rfl (Kn.cons rfl (Kn.cons rfl (Kn.nil)))) ?_
  first | refine awp_cond rfl (fun h => ?_) (fun h => ?_) | refine awp_seq (awp_cond rfl (fun h => ?_) (fun h => ?_))
  · simp at h
    omega
  refine awp_skip ?_
  repeat (with_reducible (first | refine nx_block_normal ?_ | refine nx_scope_normal ?_))
  with_reducible first | refine nx_normal ?_ | refine nx_normalM ?_
  refine awp_seq_region (fun Z hZ => ?_)
  refine sx_alloc tyZ33 rfl (fun g1 => ?_)
  refine sx_nil (hZ _ _ ?_)
  refine awp_forget [(0, _), (1, _), (5, _)] (Kn.cons rfl (Kn.cons rfl (Kn.cons rfl (Kn.nil)))) ?_
  refine awp_seq ?_
  refine awp_seq_region (fun Z hZ => ?_)
  refine sx_move rfl rfl ?_
  refine sx_move rfl rfl ?_
  refine sx_callO [] (.own g1 33 [.slice none 0 0] :: T) (chunk_fn A L.length c z hz) rfl (HLe.refl _) rfl ?_
  rintro v H' ⟨gs, gn, rfl, rfl⟩
  refine sx_heap (.own g1 33 [.slice none 0 0] :: .own gs 24 [.slice A L.length c] :: .own gn 3 [iq z] :: T) (rev3 _ _ _ T) ?_
  refine sx_heap (.own g1 33 [.slice none 0 0] :: .ro gs 0 [.slice A L.length c] :: .own gn 3 [iq z] :: T) (HLe.toRo [.own g1 33 [.slice none 0 0]] (.own gn 3 [iq z] :: T)) ?_
  refine sx_heap (.own g1 33 [.slice none 0 0] :: .ro gs 0 [.slice A L.length c] :: .ro gn 0 [iq z] :: T) (HLe.toRo [.own g1 33 [.slice none 0 0], .ro gs 0 [.slice A L.length c]] T) ?_
  refine sx_nil (hZ _ _ ?_)
  refine awp_forget [(5, _), (11, _)] (Kn.cons rfl (Kn.cons rfl (Kn.nil))) ?_
  refine awp_block ?_
  refine awp_range (fun k H => ∃ (v : Value) (us : List (Value × List En)), us.length = k ∧ RowOk v k ∧ (∀ x ∈ us, RowOk x.1 x.2.length) ∧ us.map Prod.snd = (List.range k).map (pcL L z) ∧ H = .own g1 33 [v] :: (rowE v 24 1 (us.map Prod.fst) ++ pcH us)) T (fun _ _ => False) [.own g1 33 [.slice none 0 0]] (chunk_it gs gn A L.length c z hz hzm hA hc (by omega)) rfl (fun k H h => by obtain ⟨v, us, _, _, _, _, rfl⟩ := h; exact .cons rfl ((rowE_wrs _ _ _ _).append (pcH_wrs us))) (fun _ _ h => h.elim) hro (fun x hx => by simp only [List.mem_cons, List.not_mem_nil, or_false] at hx; rcases hx with rfl | rfl <;> rfl) (fun k vs h => by rw [List.getElem?_map] at h; cases hk : (List.range (cntP L.length z))[k]? with | none => rw [hk] at h; cases h | some x => rw [hk] at h; obtain rfl := Option.some.inj h; rfl) rfl ⟨.slice none 0 0, [], rfl, RowOk.nil, (fun x hx => absurd hx List.not_mem_nil), rfl, rfl⟩ (HLe.refl _) rfl ?_ ?_ (fun _ _ _ h => h.elim)
  · rintro q vs H hk ⟨v, us, husl, hv, hus, hsnd, rfl⟩ l w1
    rw [List.getElem?_map] at hk
    cases hkx : (List.range (cntP L.length z))[q]? with
    | none => rw [hkx] at hk; cases hk
    | some x =>
      rw [hkx] at hk
      have hvs : [pcV A L.length z x] = vs := Option.some.inj hk
      obtain ⟨hkl, hxe⟩ := List.getElem?_eq_some_iff.1 hkx
      rw [List.getElem_range] at hxe
      subst hxe
      have hq : q < cntP L.length z := by simpa using hkl
      have hqz := (cntP_iff hz).1 hq
      obtain ⟨ga, o, rfl⟩ := hA (by omega)
      obtain rfl := hT (by omega)
      obtain ⟨P, hP⟩ : ∃ P, pcL L z q = P := ⟨_, rfl⟩
      have hPl : P.length = min z (L.length - q * z) := by rw [← hP, pcL_len]
      have hpv : pcV (some ⟨ga, o, none⟩) L.length z q = .slice (some ⟨ga, o + q * z * 4, none⟩) P.length P.length := by rw [hPl]; rfl
      have hP0 : 0 < P.length := by omega
      have hcl := clone_fn (some ⟨ga, o + q * z * 4, none⟩) P.length P (roE (some ⟨ga, o + q * z * 4, none⟩) (ecells P)) (fun _ => ⟨_, _, rfl⟩) (fun _ => rfl) (fun h => by cases h) (Ro.roE _ _) (by omega)
      rw [hpv] at hvs
      subst hvs

      refine awp_region (fun Z hZ => ?_)
      refine sx_assign rfl rfl ?_
      refine sx_nil (hZ _ _ ?_)
      refine nx_forget [(5, _), (6, _)] (Kn.cons rfl (Kn.cons rfl (Kn.nil))) ?_
      refine nx_assign [] Wrs.nil (HLe.refl _) fun w2 => ?_
      refine awp_block ?_
      refine awp_heap (.ro ga (o + q * z * 4) (ecells P) :: .own g1 33 [v] :: (rowE v 24 1 (us.map Prod.fst) ++ (pcH us ++ [.ro ga o (ecells L)]))) (HLe.trans (HLe.view (k := q * z * 4) (H := .own g1 33 [v] :: (rowE v 24 1 (us.map Prod.fst) ++ (pcH us ++ [.ro ga o (ecells L)]))) (xs := ecells L) (by simp) (fun j u hu => by subst hP; exact ecells_pc hu)) (by simp only [List.nil_append, List.cons_append, List.append_assoc]; exact HLe.refl _)) ?_

      refine awf_region _ [(0, true), (1, true), (2, false), (3, false), (4, false)] 5 rfl mixed (by kernel_rfl) (HLe.pick [1] (by simp) (by simp only [pick, List.filterMap_cons, List.filterMap_nil, List.getElem?_cons_succ, List.getElem?_cons_zero]; rfl)) (fun Z hZ => ?_)
      refine tw_p rfl ?_
      first | refine sv_load 0 rfl rfl tyA33 tyS33 rfl rfl ?_
      refine sv_nil ?_
      refine tw_p rfl ?_
      refine sv_move rfl rfl ?_
      refine sv_nil ?_
      refine tw_g rfl ?_
      refine sx_callRE (roE (some ⟨ga, o + q * z * 4, none⟩) (ecells P)) hcl rfl (List.Sublist.cons_cons _ (List.nil_sublist _)) (Ro.roE _ _) rfl (fun u hu => ?_)
      obtain ⟨gu, cu, rfl⟩ := hu.some hP0
      refine sx_nil ⟨HLe.pick [1] (by simp) rfl, ?_⟩
      refine tw_g rfl ?_
      refine sx_buildSlice Try.underlying33 tyS24 tyZ24 rfl rfl rfl rfl (by first | (simp only [List.take_succ_cons, List.take_zero, List.drop_succ_cons, List.drop_zero, List.cons_append, List.nil_append, List.append_nil, List.length_cons, List.length_nil, Nat.reduceAdd, Nat.zero_add, Nat.add_zero, Value.cells, wrV, zrep_one, List.replicate_succ, List.replicate_zero, Nat.reduceMul, Nat.zero_mul]; first | done | rfl) | rfl) rfl (fun g2 => ?_)
      refine sx_nil ⟨HLe.pick [2] (by simp) rfl, ?_⟩
      refine tw_g rfl ?_
      refine sx_appendE (_ :: .ro ga (o + q * z * 4) (ecells P) :: .own g1 33 [v] :: ((pcH us ++ [.ro ga o (ecells L)]) ++ rowE (.slice (some ⟨gu, 0, none⟩) P.length cu) 52 4 (ecells P))) elemSl rfl hv (by rw [List.length_map, husl]; omega) rfl (fun w hw => rd_own (i := 0) (xs := [.slice (some ⟨gu, 0, none⟩) P.length cu]) rfl rfl hw) rfl (by show _ ≤ 9223372036854775807; omega) (by omega) (toEnd2 [_, _, _] _ _ _) rfl (fun v2 hv2 => ?_)
      refine sx_nil ⟨HLe.pick [2] (by simp) rfl, ?_⟩
      refine tw_nil ?_
      obtain ⟨gv, cv, rfl⟩ := hv2.some (Nat.succ_pos q)
      refine sx_store1 2 rfl rfl rfl tyS33 rfl rfl rfl rfl ?_
      refine sx_nil (hZ _ _ ?_)
      refine nx_forget [] (Kn.nil) ?_
      refine nx_block_normal ?_
      refine nx_next (.own g1 33 [.slice (some ⟨gv, 0, none⟩) (q + 1) cv] :: (rowE (.slice (some ⟨gv, 0, none⟩) (q + 1) cv) 24 1 ((us ++ [(Value.slice (some ⟨gu, 0, none⟩) P.length cu, P)]).map Prod.fst) ++ pcH (us ++ [(Value.slice (some ⟨gu, 0, none⟩) P.length cu, P)]))) ⟨_, us ++ [(Value.slice (some ⟨gu, 0, none⟩) P.length cu, P)], by simp [husl], RowOk.mk _ _ _, fun x hx => ?_, by rw [List.map_append, hsnd, List.range_succ, List.map_append, ← hP]; rfl, rfl⟩ ?_
      · rcases List.mem_append.1 hx with hx | hx
        · exact hus x hx
        · rw [List.mem_singleton.1 hx]; exact hu
      · rw [pcH_snoc, List.map_append]
        exact fin_le _ _ _ _ _ _ _
  · rintro D H ⟨v, us, husl, hv, hus, hsnd, rfl⟩
    rw [List.length_map, List.length_range] at husl hv hsnd
    refine nx_block_normal ?_
    repeat (with_reducible (first | refine nx_block_normal ?_ | refine nx_scope_normal ?_))
    with_reducible first | refine nx_normal ?_ | refine nx_normalM ?_

    refine awp_seq_region (fun Z hZ => ?_)
    first | refine sx_load 0 rfl rfl tyA33 tyS33 rfl rfl ?_ | refine sx_load 1 rfl rfl tyA33 tyS33 rfl rfl ?_
    refine sx_assign rfl rfl ?_
    refine sx_nil (hZ _ _ ?_)
    refine awp_forget [(4, _)] (Kn.cons rfl (Kn.nil)) ?_
    refine awp_ret ?_
    repeat (with_reducible (first | refine nx_then_ret ?_ | refine nx_block_ret ?_ | refine nx_scope_ret ?_))
    exact nx_unmark [0] ⟨rfl, trivial⟩ (nx_ret1h _ rfl rfl (HLe.sub ((List.sublist_append_left _ _).trans (List.sublist_cons_self _ _))) ⟨us, by rw [husl]; exact hv, husl, hus, hsnd, rfl⟩)
end Go.Proofs.Ytodclhiggafkbaa
