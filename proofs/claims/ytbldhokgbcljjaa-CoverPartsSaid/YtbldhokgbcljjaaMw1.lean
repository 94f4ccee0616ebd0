/- The walks of mask's plain, meet, Not, both. Conditions: the lists are not too long. -/
import Derived.Test.YtbldhokgbcljjaaKv6
import Derived.Test.YtbldhokgbcljjaaCv4
namespace Go.Proofs.Ytbldhokgbcljjaa
open Go.RowKit
set_option linter.unusedVariables false
set_option linter.unusedSimpArgs false
set_option maxRecDepth 100000
section
variable {P : Program} {N : Frm} {w0 w : World} {Wr : List Nat} {ops : Array Oper} {rest : List Oper} {fr : Fr} {H : Heap} {Z : Fr → Heap → Prop} {d ty : Nat} {pos : String} {after : Array Edge} {xs : List Operand} {ts : Array TypeId}
/-- A row of one's own as memory that is only read. -/
theorem sx_toRoE {l : List Oper} {v : Value} {n : Nat} {t : TypeId} {size : Nat} {ys : List Value} (frf : Value → Fr) (hv : RowOk v n) (h : ∀ A' c', SlIn A' n c' → sx P N w0 Wr ops l (frf (.slice A' n c')) (H ++ roE A' ys) Z) :
    sx P N w0 Wr ops l (frf v) (rowE v t size ys ++ H) Z := by
  obtain ⟨A1, c1, rfl, h1, hle⟩ := hv.ro
  refine sx_pure (fun w hw => Go.Proofs.Ytbldhokgbcljjaa.row_cap hv (fun x hx => List.mem_append_left _ hx) hw) (fun hc => ?_)
  exact sx_heap (H ++ roE A1 ys) ((HLe.swap _ _).trans (hle [] H t size ys)) (h A1 c1 ⟨h1, hc.1, srow_none hv⟩)
/-- A call that reads a view of memory and makes a row, which is only read then. -/
theorem sx_callIE {f : FuncId} {vs : List Value} {e : TypeId} {size n : Nat} {ys : List Value} (U : Heap) (hc : Fn P f vs U fun u H' => RowOk u n ∧ H' = rowE u e size ys) (hx : evs fr xs = some vs) (hU : HLe U H) (hro : Ro U) (hN : Nat.ble (d + 1) N.n = true)
    (h : ∀ A c, SlIn A n c → sx P N w0 Wr ops rest ((d, .slice A n c) :: fr) (H ++ roE A ys) Z) : sx P N w0 Wr ops ((⟨some d, .call { callee := .value (.func f), args := xs.toArray, argTypes := ts }, ty, pos, after, none⟩ : Oper) :: rest) fr H Z :=
  sx_callVU U hc hx hU hro hN (by
    rintro v H' ⟨hu, rfl⟩
    rw [rowE_flt]
    exact sx_toRoE (fun u => (d, u) :: fr) hu h)
end
theorem ro_nil2 {g o o' : Nat} {xs : List Value} (K : Heap) : HLe (.ro g o' [] :: K) (.ro g o xs :: K) := fun w0 Wr w h => by
  refine ⟨h.only, fun x hx => ?_, ?_⟩
  · rcases List.mem_cons.1 hx with rfl | hx
    · exact ⟨⟨(h.ents _ List.mem_cons_self).1.1, fun j u hu => by simp at hu⟩, fun hw => by cases hw⟩
    · exact h.ents x (List.mem_cons_of_mem _ hx)
  · exact List.Pairwise.cons (fun x hx => (List.pairwise_cons.1 h.sep).1 x hx) (List.pairwise_cons.1 h.sep).2
/-- What stands behind the first one of a slice. -/
theorem tail_ro {g o c : Nat} {A' : Option Addr} {s : Sp} {r : List Sp} (K : Heap) (hA : SlIn A' r.length c) (ht : TailA (some ⟨g, o, none⟩) 1 2 A' r.length) : HLe (roE A' (scells r) ++ K) (.ro g o (scells (s :: r)) :: K) := by
  obtain ⟨o', rfl, ho⟩ := ht.2 g o rfl
  rcases Nat.eq_zero_or_pos r.length with h0 | h0
  · obtain rfl := List.eq_nil_of_length_eq_zero h0
    exact ro_nil2 K
  · obtain rfl := ho h0
    have := ro_off (g := g) (o := o) (k := 2) (xs := scells (s :: r)) K
    exact this
theorem slIn_nil : SlIn none 0 0 := ⟨.inl ⟨rfl, rfl⟩, Nat.le_refl _, fun _ => rfl⟩
theorem HLe.permS {A B : Heap} (h : B.Perm A) : HLe A B := fun _ _ _ hw => hw.perm h
theorem slIn_pos2 {A : Option Addr} {n c : Nat} (h : SlIn A n c) (hn : 0 < n) : ∃ g o, A = some ⟨g, o, none⟩ := h.arg hn
theorem addA_len (out : List Sp) (m : Sp) : (addA out m).length ≤ out.length + 1 := by
  unfold addA
  split
  · rw [List.length_append]; exact Nat.le_refl _
  · omega
theorem below_sps {L : List Sp} (hp : Plain L) (h : BelowS 6004799503160661 L) : SpsOk L := fun s hs => by
  have h1 := h s hs
  have h2 := hp.ok s hs
  omega
theorem clip_snoc {L : List Sp} {k : Nat} {x : Sp} (h : L[k]? = some x) : clipQ (L.take (k + 1)) = clipQ (L.take k) ++ if x.a < 6004799503160661 then [⟨x.a, min x.b 6004799503160660⟩] else [] := by
  obtain ⟨hlt, rfl⟩ := List.getElem?_eq_some_iff.1 h
  unfold clipQ
  rw [List.take_succ_eq_append_getElem hlt, List.filter_append, List.map_append]
  congr 1
  by_cases hc : L[k].a < 6004799503160661
  · rw [if_pos hc, List.filter_cons_of_pos (by simpa using hc)]; rfl
  · rw [if_neg hc, List.filter_cons_of_neg (by simpa using hc)]; rfl
theorem clip_sps {L : List Sp} : SpsOk (clipQ L) := fun s hs => by
  unfold clipQ at hs
  obtain ⟨t, ht, rfl⟩ := List.mem_map.1 hs
  have h1 := (List.mem_filter.1 ht).2
  have h1 : t.a < 6004799503160661 := by simpa using h1
  exact ⟨by show t.a < _; omega, by show min t.b _ < _; omega⟩
theorem mplain_fn (A : Option Addr) (c : Nat) (L : List Sp) (T : Heap) (hA : ArgOk A L.length) (hT : 0 < L.length → T = roE A (scells L)) (hro : Ro T) (hL : L.length ≤ 45000) (ho : SpsOk L) :
    Fn Try.prog 57 [.slice A L.length c] T fun v H' => RowOk v (plainQ L).length ∧ H' = rowE v 43 2 (scells (plainQ L)) := by
  have hcl := clip_len L
  refine Fn.enter (N := 27) Try.func57 rfl (by kernel_rfl) rfl (fun w0 => ?_)

  refine awp_seq_region (fun Z hZ => ?_)
  refine sx_assign rfl rfl ?_
  refine sx_nil (hZ _ _ ?_)
  refine awp_forget [(0, _)] (Kn.cons rfl (Kn.nil)) ?_
  refine awp_seq_region (fun Z hZ => ?_)
  refine sx_assign rfl rfl ?_
  refine sx_nil (hZ _ _ ?_)
  refine awp_forget [(0, _), (3, _)] (Kn.cons rfl (Kn.cons rfl (Kn.nil))) ?_
  refine awp_seq ?_
  refine awp_seq_region (fun Z hZ => ?_)
  refine sx_move rfl rfl ?_
  first | refine sx_len Try.underlying24 rfl rfl ?_ | refine sx_lenS Try.underlying24 rfl rfl ?_
  refine sx_move rfl rfl ?_
  refine sx_nil (hZ _ _ ?_)
  refine awp_forget [(3, _), (6, _), (7, _), (8, _)] (Kn.cons rfl (Kn.cons rfl (Kn.cons rfl (Kn.cons rfl (Kn.nil))))) ?_
  refine awp_block ?_
  refine awp_loop (ι := Nat × Value) (fun i => [(3, i.2), (6, .slice A L.length c), (7, iq (L.length : Nat)), (8, iq (i.1 : Nat))]) (fun i => T ++ rowE i.2 43 2 (scells (clipQ (L.take i.1))))
    (fun i => i.1 ≤ L.length ∧ RowOk i.2 (clipQ (L.take i.1)).length) (fun i => L.length - i.1) (0, .slice none 0 0) ⟨by simp, RowOk.nil⟩ (Kn.cons rfl (Kn.cons rfl (Kn.cons rfl (Kn.cons rfl Kn.nil)))) (by simp [rowE, clipQ]; exact HLe.refl _) ?_
  rintro ⟨i, v⟩ ⟨hi, hv⟩
  simp only at hi hv
  refine awp_seq_region (fun Z hZ => ?_)
  first | refine sx_lss rfl rfl rfl ?_ | refine sx_slss rfl rfl rfl ?_
  refine sx_nil (hZ _ _ ?_)
  refine awp_forget [(3, _), (6, _), (7, _), (8, _), (9, _)] (Kn.cons rfl (Kn.cons rfl (Kn.cons rfl (Kn.cons rfl (Kn.cons rfl (Kn.nil)))))) ?_
  first | refine awp_cond rfl (fun h => ?_) (fun h => ?_) | refine awp_seq (awp_cond rfl (fun h => ?_) (fun h => ?_))
  · have hlt : i < L.length := by simpa using h
    obtain ⟨x, hx⟩ : ∃ x, L[i]? = some x := ⟨_, List.getElem?_eq_getElem hlt⟩
    have hxo := ho x (List.mem_of_getElem? hx)
    have hsn := clip_snoc hx
    have hql := clip_len (L.take i)
    rw [List.length_take] at hql
    obtain ⟨X, hX⟩ : ∃ X, clipQ (L.take i) = X := ⟨_, rfl⟩
    rw [hX] at hsn hql hv ⊢
    obtain ⟨g, o, rfl⟩ := hA (by omega)
    obtain rfl := hT (by omega)
    refine awp_heap (.ro g o (scells L) :: rowE v 43 2 (scells X)) (HLe.refl _) ?_
    refine awp_skip ?_
    repeat (with_reducible (first | refine nx_block_normal ?_ | refine nx_scope_normal ?_))
    with_reducible first | refine nx_normal ?_ | refine nx_normalM ?_
    refine awp_seq (awp_block ?_)

    refine awp_seq_region (fun Z hZ => ?_)
    refine sx_indexAddr (o + i * 2) Try.underlying24 tyS43 rfl rfl (by omega) (by simp) rfl ?_
    refine sx_loadRo 0 rfl rfl (i * 2) rfl tyA43 tyS43 (scells_all hx) rfl ?_
    refine sx_alloc tyZ43 rfl (fun g1 => ?_)
    first | refine sx_store 0 rfl rfl rfl tyS43 (by first | (simp only [Value.cells]; first | done | rfl) | rfl) rfl rfl (by first | (simp only [List.length_cons, List.length_nil, Nat.reduceAdd, Nat.zero_add, Nat.add_zero]; first | done | rfl) | rfl) (by first | (simp only [List.take_succ_cons, List.take_zero, List.drop_succ_cons, List.drop_zero, List.cons_append, List.nil_append, List.append_nil, List.length_cons, List.length_nil, Nat.reduceAdd, Nat.zero_add, Nat.add_zero, Value.cells, wrV]; first | done | rfl) | rfl) (by first | (simp only [List.set_cons_succ, List.set_cons_zero]; first | done | rfl) | rfl) ?_ | refine sx_store 1 rfl rfl rfl tyS43 (by first | (simp only [Value.cells]; first | done | rfl) | rfl) rfl rfl (by first | (simp only [List.length_cons, List.length_nil, Nat.reduceAdd, Nat.zero_add, Nat.add_zero]; first | done | rfl) | rfl) (by first | (simp only [List.take_succ_cons, List.take_zero, List.drop_succ_cons, List.drop_zero, List.cons_append, List.nil_append, List.append_nil, List.length_cons, List.length_nil, Nat.reduceAdd, Nat.zero_add, Nat.add_zero, Value.cells, wrV]; first | done | rfl) | rfl) (by first | (simp only [List.set_cons_succ, List.set_cons_zero]; first | done | rfl) | rfl) ?_
    refine sx_nil (hZ _ _ ?_)
    refine awp_forget [(3, _), (5, _), (6, _), (7, _), (8, _)] (Kn.cons rfl (Kn.cons rfl (Kn.cons rfl (Kn.cons rfl (Kn.cons rfl (Kn.nil)))))) ?_

    refine awp_seq_region (fun Z hZ => ?_)
    refine sx_fieldAddr rfl tyF43_0 (by first | (simp only [Nat.reduceAdd, Nat.add_zero, Nat.zero_add]; first | done | rfl) | rfl) rfl ?_
    first | refine sx_load 0 rfl rfl tyA36 tyS36 rfl rfl ?_ | refine sx_load 1 rfl rfl tyA36 tyS36 rfl rfl ?_
    first | refine sx_leq rfl rfl rfl ?_ | refine sx_sleq rfl rfl rfl ?_
    refine sx_nil (hZ _ _ ?_)
    refine awp_forget [(3, _), (5, _), (6, _), (7, _), (8, _), (14, _)] (Kn.cons rfl (Kn.cons rfl (Kn.cons rfl (Kn.cons rfl (Kn.cons rfl (Kn.cons rfl (Kn.nil))))))) ?_
    first | refine awp_cond rfl (fun h2 => ?_) (fun h2 => ?_) | refine awp_seq (awp_cond rfl (fun h2 => ?_) (fun h2 => ?_))
    · have h2' : x.a < 6004799503160661 := by simp at h2; omega
      rw [if_pos h2'] at hsn
      refine awp_region (fun Z hZ => ?_)
      refine sx_move rfl rfl ?_
      refine sx_fieldAddr rfl tyF43_0 (by first | (simp only [Nat.reduceAdd, Nat.add_zero, Nat.zero_add]; first | done | rfl) | rfl) rfl ?_
      first | refine sx_load 0 rfl rfl tyA36 tyS36 rfl rfl ?_ | refine sx_load 1 rfl rfl tyA36 tyS36 rfl rfl ?_
      refine sx_fieldAddr rfl tyF43_1 (by first | (simp only [Nat.reduceAdd, Nat.add_zero, Nat.zero_add]; first | done | rfl) | rfl) rfl ?_
      first | refine sx_load 0 rfl rfl tyA36 tyS36 rfl rfl ?_ | refine sx_load 1 rfl rfl tyA36 tyS36 rfl rfl ?_
      refine sx_min rfl rfl ((min x.b 6004799503160660 : Nat) : Int) (by omega) rfl ?_
      refine sx_build tyZ43 tyP43 rfl rfl (by first | (simp only [List.take_succ_cons, List.take_zero, List.drop_succ_cons, List.drop_zero, List.cons_append, List.nil_append, List.append_nil, List.length_cons, List.length_nil, Nat.reduceAdd, Nat.zero_add, Nat.add_zero, Value.cells, wrV, zrep_one, List.replicate_succ, List.replicate_zero, Nat.reduceMul, Nat.zero_mul]; first | done | rfl) | rfl) rfl ?_
      refine sx_buildSlice Try.underlying24 tyS43 tyZ43 rfl rfl rfl rfl (by first | (simp only [List.take_succ_cons, List.take_zero, List.drop_succ_cons, List.drop_zero, List.cons_append, List.nil_append, List.append_nil, List.length_cons, List.length_nil, Nat.reduceAdd, Nat.zero_add, Nat.add_zero, Value.cells, wrV, zrep_one, List.replicate_succ, List.replicate_zero, Nat.reduceMul, Nat.zero_mul]; first | done | rfl) | rfl) rfl (fun g2 => ?_)
      refine sx_appendE [_, _, _] elemSp rfl hv (by rw [scells_len]) rfl (fun w hw => rd_own (i := 0) (xs := (⟨x.a, min x.b 6004799503160660⟩ : Sp).cells) rfl rfl hw) rfl (by show _ ≤ 9223372036854775807; omega) (by omega) (HLe.refl _) rfl (fun v2 hv2 => ?_)
      refine sx_assign rfl rfl ?_
      refine sx_nil (hZ _ _ ?_)
      refine nx_forget [(3, _), (6, _), (7, _), (8, _)] (Kn.cons rfl (Kn.cons rfl (Kn.cons rfl (Kn.cons rfl (Kn.nil))))) ?_
      repeat (with_reducible (first | refine nx_block_normal ?_ | refine nx_scope_normal ?_))
      with_reducible first | refine nx_normal ?_ | refine nx_normalM ?_
      refine awp_region (fun Z hZ => ?_)
      refine sx_add rfl rfl ((i + 1 : Nat) : Int) (by rw [IntWalk.i64_in _ (by omega)]; omega) rfl ?_
      refine sx_move rfl rfl ?_
      refine sx_nil (hZ _ _ ?_)
      refine nx_forget [(3, _), (6, _), (7, _), (8, _)] (Kn.cons rfl (Kn.cons rfl (Kn.cons rfl (Kn.cons rfl (Kn.nil))))) ?_
      refine nx_round (i + 1, v2) ⟨hlt, by rw [hsn, List.length_append]; exact hv2⟩ (by simp; omega) (Kn.cons rfl (Kn.cons rfl (Kn.cons rfl (Kn.cons rfl Kn.nil)))) ?_
      simp only
      rw [hsn, scells_app]
      exact HLe.drop 2 rfl
    · have h2' : ¬ x.a < 6004799503160661 := by simp at h2; omega
      rw [if_neg h2', List.append_nil] at hsn
      refine awp_skip ?_
      repeat (with_reducible (first | refine nx_block_normal ?_ | refine nx_scope_normal ?_))
      with_reducible first | refine nx_normal ?_ | refine nx_normalM ?_
      refine awp_region (fun Z hZ => ?_)
      refine sx_add rfl rfl ((i + 1 : Nat) : Int) (by rw [IntWalk.i64_in _ (by omega)]; omega) rfl ?_
      refine sx_move rfl rfl ?_
      refine sx_nil (hZ _ _ ?_)
      refine nx_forget [(3, _), (6, _), (7, _), (8, _)] (Kn.cons rfl (Kn.cons rfl (Kn.cons rfl (Kn.cons rfl (Kn.nil))))) ?_
      refine nx_round (i + 1, v) ⟨hlt, by rw [hsn]; exact hv⟩ (by simp; omega) (Kn.cons rfl (Kn.cons rfl (Kn.cons rfl (Kn.cons rfl Kn.nil)))) ?_
      simp only
      rw [hsn]
      exact HLe.drop 1 rfl
  · refine awp_exit ?_
    repeat (with_reducible (first | refine nx_then_exit ?_ | refine nx_block_other (by decide) ?_ | refine nx_scope_exit ?_))
    with_reducible refine nx_block_exit ?_
    repeat (with_reducible (first | refine nx_block_normal ?_ | refine nx_scope_normal ?_))
    with_reducible first | refine nx_normal ?_ | refine nx_normalM ?_
    have hke : i = L.length := by simp at h; omega
    subst hke
    rw [List.take_length] at hv ⊢
    refine awp_heap (rowE v 43 2 (scells (clipQ L)) ++ []) (by rw [List.append_nil]; exact HLe.sub (List.sublist_append_right _ _)) ?_
    refine awp_seq_region (fun Z hZ => ?_)
    refine sx_move rfl rfl ?_
    refine sx_toRoE (fun u => (25, u) :: _) hv (fun A1 c1 hA1 => ?_)
    refine sx_callO (roE A1 (scells (clipQ L)) ++ roE none (scells [])) [] (union_fn A1 none c1 0 (clipQ L) [] hA1 slIn_nil (by omega) (by simp) clip_sps (fun s hs => by cases hs)) rfl (by rw [List.nil_append, List.append_nil]; show HLe (roE A1 (scells (clipQ L)) ++ []) _; rw [List.append_nil]; exact HLe.refl _) rfl ?_
    rintro v2 H2 ⟨hv2, rfl⟩
    rw [rowE_flt, List.append_nil]
    refine sx_assign rfl rfl ?_
    refine sx_nil (hZ _ _ ?_)
    refine awp_forget [(2, _)] (Kn.cons rfl (Kn.nil)) ?_
    refine awp_ret ?_
    repeat (with_reducible (first | refine nx_then_ret ?_ | refine nx_block_ret ?_ | refine nx_scope_ret ?_))
    exact nx_ret1h _ rfl rfl (HLe.refl _) ⟨hv2, rfl⟩
end Go.Proofs.Ytbldhokgbcljjaa
