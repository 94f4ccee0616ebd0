/- The walks of chart.Put, chart.Del. Conditions: the lists are not too long. -/
import Derived.Test.YtahmhcmfeloclaaCh5
namespace Go.Proofs.Ytahmhcmfeloclaa
open Go.RowKit
set_option linter.unusedVariables false
set_option linter.unusedSimpArgs false
theorem Ro.consRo {T : Heap} (h : Ro T) (g o : Nat) (xs : List Value) : Ro (.ro g o xs :: T) := fun e he => by
  rcases List.mem_cons.1 he with rfl | he
  · rfl
  · exact h e he
/-- The items without one. -/
def cDel (k : Nat) (L : List It) : List It := if cHas k L then L.take (cLo k L) ++ L.drop (cLo k L + 1) else L
/-- The items with one. -/
def cPut (k : Nat) (s : List UInt8) (L : List It) : List It := L.take (cLo k L) ++ ⟨k, s⟩ :: L.drop (cLo k L + if cHas k L then 1 else 0)
def fullQ (k : Nat) (L : List It) : Bool := !cHas k L && decide (2048 ≤ L.length)
theorem cHas_lt {k : Nat} {L : List It} (h : cHas k L = true) : cLo k L < L.length := by
  unfold cHas at h
  exact (of_decide_eq_true h).1
theorem it_drop {L : List It} {i : Nat} : (icells L).drop (i * 2) = icells (L.drop i) := fm_drop it_len L i
theorem it_take {L : List It} {i : Nat} : (icells L).take (i * 2) = icells (L.take i) := by
  have h1 : icells L = icells (L.take i) ++ icells (L.drop i) := by rw [← List.flatMap_append, List.take_append_drop]
  rcases Nat.lt_or_ge L.length i with h | h
  · rw [List.take_of_length_le (by rw [icells_len]; omega), List.take_of_length_le (Nat.le_of_lt h)]
  · rw [h1, List.take_left' (by rw [icells_len, List.length_take]; omega)]
theorem rd_part {A A' : Option Addr} {n c : Nat} {L : List It} {i j : Nat} {w : World} (h : Rd w 2 A L.length (icells L)) (hA : SlIn A L.length c) (h1 : i ≤ j) (h2 : j ≤ L.length) (ht : TailA A i 2 A' (j - i)) (hA' : SlIn A' (j - i) n) : Rd w 2 A' (j - i) (icells ((L.drop i).take (j - i))) := by
  have e1 : ((L.drop i).take (j - i)).length = j - i := by rw [List.length_take, List.length_drop]; omega
  refine ⟨by rw [icells_len, e1], fun ha => hA'.nil ha, fun hn => ?_⟩
  obtain ⟨g, o, h4, h5, h6⟩ := h.2.2 (by omega)
  obtain ⟨o', h7, h8⟩ := ht.2 g o h4
  obtain rfl := h8 hn
  refine ⟨g, _, h7, h5, fun p u hu => ?_⟩
  rw [← it_take, ← it_drop, List.getElem?_take] at hu
  split at hu
  · rw [List.getElem?_drop] at hu
    rw [Nat.add_assoc]
    exact h6 _ u hu
  · cases hu
theorem del_fn (A : Option Addr) (c : Nat) (L : List It) (T : Heap) (hA : SlIn A L.length c) (hT : 0 < L.length → T = roE A (icells L)) (hro : Ro T) (hL : L.length ≤ 100000) (hr : Rise L) (k : Nat) :
    Fn Try.prog 40 [chV A L.length c, uq k] T fun v H' => ∃ u, v = .agg #[u] ∧ ((cHas k L = true ∧ RowOk u (cDel k L).length ∧ H' = rowE u 60 2 (icells (cDel k L))) ∨ (cHas k L = false ∧ u = .slice A L.length c ∧ H' = [])) := by
  refine Fn.enter (N := 28) Try.func40 rfl (by kernel_rfl) rfl (fun w0 => ?_)

  refine awp_seq_region (fun Z hZ => ?_)
  refine sx_box rfl rfl rfl (fun g1 => ?_)
  refine sx_alloc tyZ29 rfl (fun g2 => ?_)
  refine sx_nil (hZ _ _ ?_)
  refine awp_forget [(1, _), (2, _), (4, _)] (Kn.cons rfl (Kn.cons rfl (Kn.cons rfl (Kn.nil)))) ?_

  refine awp_seq_region (fun Z hZ => ?_)
  first | refine sx_loadA 0 rfl rfl tyA29 tyS29 (by first | (simp only [List.length_cons, List.length_nil, Nat.reduceAdd, Nat.zero_add, Nat.add_zero]; first | done | rfl) | rfl) (by first | (simp only [List.take_succ_cons, List.take_zero, List.drop_succ_cons, List.drop_zero, List.cons_append, List.nil_append, List.append_nil, List.length_cons, List.length_nil, Nat.reduceAdd, Nat.zero_add, Nat.add_zero, Value.cells, wrV]; first | done | rfl) | rfl) rfl ?_ | refine sx_loadA 1 rfl rfl tyA29 tyS29 (by first | (simp only [List.length_cons, List.length_nil, Nat.reduceAdd, Nat.zero_add, Nat.add_zero]; first | done | rfl) | rfl) (by first | (simp only [List.take_succ_cons, List.take_zero, List.drop_succ_cons, List.drop_zero, List.cons_append, List.nil_append, List.append_nil, List.length_cons, List.length_nil, Nat.reduceAdd, Nat.zero_add, Nat.add_zero, Value.cells, wrV]; first | done | rfl) | rfl) rfl ?_
  refine sx_move rfl rfl ?_
  refine sx_callPT T (place_fn A c L T hA.arg hT hro (by omega) hr k) rfl ((List.sublist_cons_self _ _).trans (List.sublist_cons_self _ _)) hro rfl ?_
  refine sx_move rfl rfl ?_
  refine sx_extract rfl rfl rfl ?_
  refine sx_extract rfl rfl rfl ?_
  refine sx_assign rfl rfl ?_
  refine sx_assign rfl rfl ?_
  refine sx_nil (hZ _ _ ?_)
  refine awp_forget [(2, _), (4, _), (5, _), (6, _)] (Kn.cons rfl (Kn.cons rfl (Kn.cons rfl (Kn.cons rfl (Kn.nil))))) ?_
  refine awp_seq ?_
  refine awp_seq_region (fun Z hZ => ?_)
  refine sx_move rfl rfl ?_
  refine sx_not rfl rfl ?_
  refine sx_nil (hZ _ _ ?_)
  refine awp_forget [(2, _), (4, _), (5, _), (14, _)] (Kn.cons rfl (Kn.cons rfl (Kn.cons rfl (Kn.cons rfl (Kn.nil))))) ?_
  first | refine awp_cond rfl (fun h => ?_) (fun h => ?_) | refine awp_seq (awp_cond rfl (fun h => ?_) (fun h => ?_))
  · have h' : cHas k L = false := by simpa using h
    refine awp_seq_region (fun Z hZ => ?_)
    first | refine sx_loadA 0 rfl rfl tyA29 tyS29 (by first | (simp only [List.length_cons, List.length_nil, Nat.reduceAdd, Nat.zero_add, Nat.add_zero]; first | done | rfl) | rfl) (by first | (simp only [List.take_succ_cons, List.take_zero, List.drop_succ_cons, List.drop_zero, List.cons_append, List.nil_append, List.append_nil, List.length_cons, List.length_nil, Nat.reduceAdd, Nat.zero_add, Nat.add_zero, Value.cells, wrV]; first | done | rfl) | rfl) rfl ?_ | refine sx_loadA 1 rfl rfl tyA29 tyS29 (by first | (simp only [List.length_cons, List.length_nil, Nat.reduceAdd, Nat.zero_add, Nat.add_zero]; first | done | rfl) | rfl) (by first | (simp only [List.take_succ_cons, List.take_zero, List.drop_succ_cons, List.drop_zero, List.cons_append, List.nil_append, List.append_nil, List.length_cons, List.length_nil, Nat.reduceAdd, Nat.zero_add, Nat.add_zero, Value.cells, wrV]; first | done | rfl) | rfl) rfl ?_
    first | refine sx_store 0 rfl rfl rfl tyS29 (by first | (simp only [Value.cells]; first | done | rfl) | rfl) rfl rfl (by first | (simp only [List.length_cons, List.length_nil, Nat.reduceAdd, Nat.zero_add, Nat.add_zero]; first | done | rfl) | rfl) (by first | (simp only [List.take_succ_cons, List.take_zero, List.drop_succ_cons, List.drop_zero, List.cons_append, List.nil_append, List.append_nil, List.length_cons, List.length_nil, Nat.reduceAdd, Nat.zero_add, Nat.add_zero, Value.cells, wrV]; first | done | rfl) | rfl) (by first | (simp only [List.set_cons_succ, List.set_cons_zero]; first | done | rfl) | rfl) ?_ | refine sx_store 1 rfl rfl rfl tyS29 (by first | (simp only [Value.cells]; first | done | rfl) | rfl) rfl rfl (by first | (simp only [List.length_cons, List.length_nil, Nat.reduceAdd, Nat.zero_add, Nat.add_zero]; first | done | rfl) | rfl) (by first | (simp only [List.take_succ_cons, List.take_zero, List.drop_succ_cons, List.drop_zero, List.cons_append, List.nil_append, List.append_nil, List.length_cons, List.length_nil, Nat.reduceAdd, Nat.zero_add, Nat.add_zero, Value.cells, wrV]; first | done | rfl) | rfl) (by first | (simp only [List.set_cons_succ, List.set_cons_zero]; first | done | rfl) | rfl) ?_
    refine sx_nil (hZ _ _ ?_)
    refine awp_forget [(4, _)] (Kn.cons rfl (Kn.nil)) ?_
    refine awp_ret ?_
    repeat (with_reducible (first | refine nx_then_ret ?_ | refine nx_block_ret ?_ | refine nx_scope_ret ?_))
    exact nx_ret1h [] rfl (ResOk.cell 0 rfl rfl tyA29 tyS29 rfl) (HLe.sub (List.nil_sublist _)) ⟨_, rfl, .inr ⟨h', rfl, rfl⟩⟩
  have h' : cHas k L = true := by simpa using h
  have hlt := cHas_lt h'
  obtain ⟨p, hp⟩ : ∃ p, cLo k L = p := ⟨_, rfl⟩
  rw [hp] at hlt
  have hd : cDel k L = L.take p ++ L.drop (p + 1) := by unfold cDel; rw [h', hp]; rfl
  have hcap := hA.cap
  rw [hd, hp]
  refine awp_skip ?_
  repeat (with_reducible (first | refine nx_block_normal ?_ | refine nx_scope_normal ?_))
  with_reducible first | refine nx_normal ?_ | refine nx_normalM ?_
  have hrd : ∀ w0 Wr w, Sat w0 Wr T w → Rd w 2 A L.length (icells L) := fun w0 Wr w hw => rd_arg hA.arg hT (icells_len L) hA.nil (HLe.refl _) hw
  have e1 : (L.take p).length = p - 0 := by rw [List.length_take]; omega
  have e2 : (L.drop (p + 1)).length = L.length - (p + 1) := List.length_drop
  have hcc : ∀ g A1 A2, SlIn A1 (p - 0) (c - 0) → TailA A 0 2 A1 (p - 0) → SlIn A2 (L.length - (p + 1)) (c - (p + 1)) → TailA A (p + 1) 2 A2 (L.length - (p + 1)) →
      Fn Try.prog 49 [.slice (some ⟨g, 0, none⟩) 2 2] (.ro g 0 [.slice A1 (p - 0) (c - 0), .slice A2 (L.length - (p + 1)) (c - (p + 1))] :: T) fun v H' => RowOk v (L.take p ++ L.drop (p + 1)).length ∧ H' = rowE v 60 2 (icells (L.take p ++ L.drop (p + 1))) := by
    intro g A1 A2 hA1 ht1 hA2 ht2
    have h1 : PcOk T (A1, c - 0, L.take p) := fun w0 Wr w hw => by
      have := rd_part (hrd w0 Wr w hw) hA (Nat.zero_le p) (Nat.le_of_lt hlt) ht1 hA1
      rw [List.drop_zero, Nat.sub_zero] at this
      show Rd w 2 A1 (L.take p).length (icells (L.take p))
      rw [e1, Nat.sub_zero]
      exact this
    have h2 : PcOk T (A2, c - (p + 1), L.drop (p + 1)) := fun w0 Wr w hw => by
      have := rd_part (hrd w0 Wr w hw) hA (show p + 1 ≤ L.length by omega) (Nat.le_refl _) ht2 hA2
      rw [List.take_of_length_le (by rw [List.length_drop]; exact Nat.le_refl _)] at this
      show Rd w 2 A2 (L.drop (p + 1)).length (icells (L.drop (p + 1)))
      rw [e2]
      exact this
    have h3 := concat_fn g [(A1, c - 0, L.take p), (A2, c - (p + 1), L.drop (p + 1))] T (fun q hq => by
      rcases List.mem_cons.1 hq with rfl | hq
      · exact h1
      · rcases List.mem_cons.1 hq with rfl | hq
        · exact h2
        · cases hq) hro (by simp) (by simp [pcAll]; omega)
    have e3 : pcAll [(A1, c - 0, L.take p), (A2, c - (p + 1), L.drop (p + 1))] = L.take p ++ L.drop (p + 1) := by simp [pcAll]
    rw [e3] at h3
    simp only [pcv, List.map_cons, List.map_nil, e1, e2] at h3
    exact h3
  refine aww_seq_region _ [(0, true), (1, true), (2, true), (3, true), (4, true), (5, true), (6, true), (7, true), (8, true), (9, false), (10, false), (11, true), (12, false)] mixed (by kernel_rfl) (HLe.pick [1] (by simp) (by simp only [pick, List.filterMap_cons, List.filterMap_nil, List.getElem?_cons_succ, List.getElem?_cons_zero]; rfl)) (fun Z hZ => ?_)
  refine tw_p rfl ?_
  refine sv_fieldAddr rfl tyF29_0 (by first | (simp only [Nat.reduceAdd, Nat.add_zero, Nat.zero_add]; first | done | rfl) | rfl) rfl ?_
  refine sv_nil ?_
  refine tw_p rfl ?_
  first | refine sv_load 0 rfl rfl tyA27 tyS27 rfl rfl ?_
  refine sv_nil ?_
  refine tw_p rfl ?_
  refine sv_move rfl rfl ?_
  refine sv_nil ?_
  refine tw_p rfl ?_
  refine sv_part (i := 0) (j := p) Try.underlying27 tyS60 hA rfl rfl rfl (by omega) (by omega) rfl (fun A1 hA1 ht1 => ?_)
  refine sv_nil ?_
  refine tw_p rfl ?_
  refine sv_fieldAddr rfl tyF29_0 (by first | (simp only [Nat.reduceAdd, Nat.add_zero, Nat.zero_add]; first | done | rfl) | rfl) rfl ?_
  refine sv_nil ?_
  refine tw_p rfl ?_
  first | refine sv_load 0 rfl rfl tyA27 tyS27 rfl rfl ?_
  refine sv_nil ?_
  refine tw_p rfl ?_
  refine sv_move rfl rfl ?_
  refine sv_nil ?_
  refine tw_p rfl ?_
  refine sv_add rfl rfl ((p + 1 : Nat) : Int) (by rw [IntWalk.i64_in _ (by omega)]; omega) rfl ?_
  refine sv_nil ?_
  refine tw_p rfl ?_
  refine sv_part (i := p + 1) (j := L.length) Try.underlying27 tyS60 hA rfl rfl rfl (by omega) (by omega) rfl (fun A2 hA2 ht2 => ?_)
  refine sv_nil ?_
  refine tw_g rfl ?_
  refine sx_buildSlice Try.underlying119 tyS27 tyZ27 rfl rfl rfl rfl (by first | (simp only [List.take_succ_cons, List.take_zero, List.drop_succ_cons, List.drop_zero, List.cons_append, List.nil_append, List.append_nil, List.length_cons, List.length_nil, Nat.reduceAdd, Nat.zero_add, Nat.add_zero, Value.cells, wrV, zrep_one, List.replicate_succ, List.replicate_zero, Nat.reduceMul, Nat.zero_mul]; first | done | rfl) | rfl) rfl (fun g3 => ?_)
  refine sx_nil ⟨HLe.pick [2] (by simp) rfl, ?_⟩
  refine tw_g rfl ?_
  refine sx_callVU (.ro g3 0 [.slice A1 (p - 0) (c - 0), .slice A2 (L.length - (p + 1)) (c - (p + 1))] :: T) (hcc g3 A1 A2 hA1 ht1 hA2 ht2) rfl ((HLe.sub (List.Sublist.cons_cons _ ((List.sublist_cons_self _ _).trans (List.sublist_cons_self _ _)))).trans (own_ro _)) (hro.consRo _ _ _) rfl ?_
  rintro v H' ⟨hv, rfl⟩
  rw [rowE_flt]
  obtain ⟨Av, cv, rfl, hAv⟩ := hv.form
  refine sx_heap (_ ++ rowE (.slice Av (L.take p ++ L.drop (p + 1)).length cv) 60 2 (icells (L.take p ++ L.drop (p + 1)))) (HLe.swap _ _) ?_
  refine sx_nil ⟨HLe.pick [2] (by simp) rfl, ?_⟩
  refine tw_p rfl ?_
  refine sv_build tyZ29 tyP29 rfl rfl (by first | (simp only [List.take_succ_cons, List.take_zero, List.drop_succ_cons, List.drop_zero, List.cons_append, List.nil_append, List.append_nil, List.length_cons, List.length_nil, Nat.reduceAdd, Nat.zero_add, Nat.add_zero, Value.cells, wrV, zrep_one, List.replicate_succ, List.replicate_zero, Nat.reduceMul, Nat.zero_mul]; first | done | rfl) | rfl) rfl ?_
  refine sv_nil ?_
  refine tw_g rfl ?_
  first | refine sx_store 0 rfl rfl rfl tyS29 (by first | (simp only [Value.cells]; first | done | rfl) | rfl) rfl rfl (by first | (simp only [List.length_cons, List.length_nil, Nat.reduceAdd, Nat.zero_add, Nat.add_zero]; first | done | rfl) | rfl) (by first | (simp only [List.take_succ_cons, List.take_zero, List.drop_succ_cons, List.drop_zero, List.cons_append, List.nil_append, List.append_nil, List.length_cons, List.length_nil, Nat.reduceAdd, Nat.zero_add, Nat.add_zero, Value.cells, wrV]; first | done | rfl) | rfl) (by first | (simp only [List.set_cons_succ, List.set_cons_zero]; first | done | rfl) | rfl) ?_ | refine sx_store 1 rfl rfl rfl tyS29 (by first | (simp only [Value.cells]; first | done | rfl) | rfl) rfl rfl (by first | (simp only [List.length_cons, List.length_nil, Nat.reduceAdd, Nat.zero_add, Nat.add_zero]; first | done | rfl) | rfl) (by first | (simp only [List.take_succ_cons, List.take_zero, List.drop_succ_cons, List.drop_zero, List.cons_append, List.nil_append, List.append_nil, List.length_cons, List.length_nil, Nat.reduceAdd, Nat.zero_add, Nat.add_zero, Value.cells, wrV]; first | done | rfl) | rfl) (by first | (simp only [List.set_cons_succ, List.set_cons_zero]; first | done | rfl) | rfl) ?_ | refine sx_store 2 rfl rfl rfl tyS29 (by first | (simp only [Value.cells]; first | done | rfl) | rfl) rfl rfl (by first | (simp only [List.length_cons, List.length_nil, Nat.reduceAdd, Nat.zero_add, Nat.add_zero]; first | done | rfl) | rfl) (by first | (simp only [List.take_succ_cons, List.take_zero, List.drop_succ_cons, List.drop_zero, List.cons_append, List.nil_append, List.append_nil, List.length_cons, List.length_nil, Nat.reduceAdd, Nat.zero_add, Nat.add_zero, Value.cells, wrV]; first | done | rfl) | rfl) (by first | (simp only [List.set_cons_succ, List.set_cons_zero]; first | done | rfl) | rfl) ?_
  refine sx_nil ⟨HLe.pick [2] (by simp) rfl, ?_⟩
  refine tw_nil (hZ _ _ ?_)
  refine awp_forget [(4, _)] (Kn.cons rfl (Kn.nil)) ?_
  refine awp_ret ?_
  repeat (with_reducible (first | refine nx_then_ret ?_ | refine nx_block_ret ?_ | refine nx_scope_ret ?_))
  exact nx_ret1h _ rfl (ResOk.cell 1 rfl rfl tyA29 tyS29 rfl) (HLe.sub (List.sublist_append_right (_ :: _ :: _ :: T) _)) ⟨_, rfl, .inl ⟨h', hv, rfl⟩⟩
theorem put_fn (A : Option Addr) (c : Nat) (L : List It) (T : Heap) (hA : SlIn A L.length c) (hT : 0 < L.length → T = roE A (icells L)) (hro : Ro T) (hL : L.length ≤ 100000) (hr : Rise L) (k : Nat) (s : List UInt8) :
    Fn Try.prog 26 [chV A L.length c, uq k, .string (str s)] T fun v H' => ∃ u, v = .tuple #[.agg #[u], iq (wrongQ k s (fullQ k L))] ∧ ((wrongQ k s (fullQ k L) = 0 ∧ RowOk u (cPut k s L).length ∧ H' = rowE u 60 2 (icells (cPut k s L))) ∨ (wrongQ k s (fullQ k L) ≠ 0 ∧ u = .slice A L.length c ∧ H' = [])) := by
  have hcap := hA.cap
  have hle := (cLo_facts k L).1
  obtain ⟨p, hp⟩ : ∃ p, cLo k L = p := ⟨_, rfl⟩
  obtain ⟨q, hq⟩ : ∃ q, p + (if cHas k L then 1 else 0) = q := ⟨_, rfl⟩
  have hql : q ≤ L.length := by
    rw [← hq, ← hp]
    split
    · rename_i hh
      exact cHas_lt hh
    · omega
  have hpq : q ≤ p + 1 := by rw [← hq]; split <;> omega
  have hd : cPut k s L = L.take p ++ ⟨k, s⟩ :: L.drop q := by unfold cPut; rw [hp, hq]
  rw [hp] at hle
  refine Fn.enter (N := 55) Try.func26 rfl (by kernel_rfl) rfl (fun w0 => ?_)

  refine awp_seq_region (fun Z hZ => ?_)
  refine sx_box rfl rfl rfl (fun g1 => ?_)
  refine sx_alloc tyZ29 rfl (fun g2 => ?_)
  refine sx_assign rfl rfl ?_
  refine sx_nil (hZ _ _ ?_)
  refine awp_forget [(1, _), (2, _), (3, _), (6, _)] (Kn.cons rfl (Kn.cons rfl (Kn.cons rfl (Kn.cons rfl (Kn.nil))))) ?_

  refine awp_seq_region (fun Z hZ => ?_)
  first | refine sx_loadA 0 rfl rfl tyA29 tyS29 (by first | (simp only [List.length_cons, List.length_nil, Nat.reduceAdd, Nat.zero_add, Nat.add_zero]; first | done | rfl) | rfl) (by first | (simp only [List.take_succ_cons, List.take_zero, List.drop_succ_cons, List.drop_zero, List.cons_append, List.nil_append, List.append_nil, List.length_cons, List.length_nil, Nat.reduceAdd, Nat.zero_add, Nat.add_zero, Value.cells, wrV]; first | done | rfl) | rfl) rfl ?_ | refine sx_loadA 1 rfl rfl tyA29 tyS29 (by first | (simp only [List.length_cons, List.length_nil, Nat.reduceAdd, Nat.zero_add, Nat.add_zero]; first | done | rfl) | rfl) (by first | (simp only [List.take_succ_cons, List.take_zero, List.drop_succ_cons, List.drop_zero, List.cons_append, List.nil_append, List.append_nil, List.length_cons, List.length_nil, Nat.reduceAdd, Nat.zero_add, Nat.add_zero, Value.cells, wrV]; first | done | rfl) | rfl) rfl ?_
  refine sx_move rfl rfl ?_
  refine sx_callPT T (place_fn A c L T hA.arg hT hro (by omega) hr k) rfl ((List.sublist_cons_self _ _).trans (List.sublist_cons_self _ _)) hro rfl ?_
  refine sx_move rfl rfl ?_
  refine sx_extract rfl rfl rfl ?_
  refine sx_extract rfl rfl rfl ?_
  refine sx_assign rfl rfl ?_
  refine sx_assign rfl rfl ?_
  refine sx_nil (hZ _ _ ?_)
  refine awp_forget [(1, _), (2, _), (3, _), (6, _), (8, _), (9, _)] (Kn.cons rfl (Kn.cons rfl (Kn.cons rfl (Kn.cons rfl (Kn.cons rfl (Kn.cons rfl (Kn.nil))))))) ?_
  rw [hp]
  refine awp_seq_region (fun Z hZ => ?_)
  refine sx_move rfl rfl ?_
  refine sx_assign rfl rfl ?_
  refine sx_nil (hZ _ _ ?_)
  refine awp_forget [(1, _), (2, _), (3, _), (6, _), (8, _), (9, _), (10, _)] (Kn.cons rfl (Kn.cons rfl (Kn.cons rfl (Kn.cons rfl (Kn.cons rfl (Kn.cons rfl (Kn.cons rfl (Kn.nil)))))))) ?_
  refine awp_cut (ι := Unit) (fun _ => [(1, uq k), (2, .string (str s)), (3, ptr g1 0), (6, ptr g2 0), (8, iq (p : Nat)), (9, .bool (cHas k L)), (10, iq (q : Nat))]) (fun _ => .own g2 29 [.slice none 0 0] :: .own g1 29 [.slice A L.length c] :: T) (fun _ => True) ?_ ?_
  · refine awp_seq_region (fun Z hZ => ?_)
    refine sx_move rfl rfl ?_
    refine sx_nil (hZ _ _ ?_)
    refine awp_forget [(1, _), (2, _), (3, _), (6, _), (8, _), (9, _), (10, _), (20, _)] (Kn.cons rfl (Kn.cons rfl (Kn.cons rfl (Kn.cons rfl (Kn.cons rfl (Kn.cons rfl (Kn.cons rfl (Kn.cons rfl (Kn.nil))))))))) ?_
    first | refine awp_cond rfl (fun h => ?_) (fun h => ?_) | refine awp_seq (awp_cond rfl (fun h => ?_) (fun h => ?_))
    · refine awp_region (fun Z hZ => ?_)
      refine sx_move rfl rfl ?_
      refine sx_add rfl rfl ((p + 1 : Nat) : Int) (by rw [IntWalk.i64_in _ (by omega)]; omega) rfl ?_
      refine sx_assign rfl rfl ?_
      refine sx_nil (hZ _ _ ?_)
      refine nx_forget [(1, _), (2, _), (3, _), (6, _), (8, _), (9, _), (10, _)] (Kn.cons rfl (Kn.cons rfl (Kn.cons rfl (Kn.cons rfl (Kn.cons rfl (Kn.cons rfl (Kn.cons rfl (Kn.nil)))))))) ?_
      exact nx_cut () trivial (Kn.cons rfl (Kn.cons rfl (Kn.cons rfl (Kn.cons rfl (Kn.cons rfl (Kn.cons rfl (Kn.cons (by rw [← hq, h]; rfl) Kn.nil))))))) (HLe.refl _)
    · refine awp_skip ?_
      exact nx_cut () trivial (Kn.cons rfl (Kn.cons rfl (Kn.cons rfl (Kn.cons rfl (Kn.cons rfl (Kn.cons rfl (Kn.cons (by rw [← hq, h]; rfl) Kn.nil))))))) (HLe.refl _)
  rintro ⟨⟩ -
  obtain ⟨e, he⟩ : ∃ e, wrongQ k s (fullQ k L) = e := ⟨_, rfl⟩
  have hw : ∀ b, b = fullQ k L → Fn Try.prog 35 [uq k, .string (str s), .bool b] [] fun v _ => v = iq (e : Nat) := fun b hb => by
    have := wrong_fn k s (fullQ k L)
    rw [he] at this
    rw [hb]
    exact this
  rw [he]
  refine awp_seq ?_
  refine awp_seq_meet [(1, uq k), (2, .string (str s)), (3, ptr g1 0), (6, ptr g2 0), (8, iq (p : Nat)), (10, iq (q : Nat)), (11, iq (e : Nat))] (.own g2 29 [.slice none 0 0] :: .own g1 29 [.slice A L.length c] :: T) (fun Z hZ => ?_) ?_
  · refine sx_move rfl rfl ?_
    refine sx_move rfl rfl ?_
    refine sx_move rfl rfl ?_
    refine sx_not rfl rfl ?_
    refine sx_move rfl rfl ?_
    refine sx_split 27 rfl (fun hb4 => ?_) (fun hb4 => ?_)
    · refine sx_on rfl rfl rfl ?_
      refine sx_fieldAddr rfl tyF29_0 (by first | (simp only [Nat.reduceAdd, Nat.add_zero, Nat.zero_add]; first | done | rfl) | rfl) rfl ?_
      refine sx_on rfl rfl rfl ?_
      first | refine sx_load 0 rfl rfl tyA27 tyS27 rfl rfl ?_ | refine sx_load 1 rfl rfl tyA27 tyS27 rfl rfl ?_
      refine sx_on rfl rfl rfl ?_
      first | refine sx_len Try.underlying27 rfl rfl ?_ | refine sx_lenS Try.underlying27 rfl rfl ?_
      refine sx_on rfl rfl rfl ?_
      first | refine sx_geq rfl rfl rfl ?_ | refine sx_sgeq rfl rfl rfl ?_
      refine sx_pick rfl rfl rfl ?_
      refine sx_callP (hw _ (by unfold fullQ; simp at hb4; rw [hb4, Bool.eq_iff_iff]; first | (simp; done) | (simp; omega))) rfl rfl ?_
      refine sx_assign rfl rfl ?_
      refine sx_nil (hZ _ _ ?_ ?_)
      · exact Kn.cons rfl (Kn.cons rfl (Kn.cons rfl (Kn.cons rfl (Kn.cons rfl (Kn.cons rfl (Kn.cons rfl Kn.nil))))))
      · exact HLe.refl _
    · refine sx_off rfl rfl rfl rfl rfl ?_
      refine sx_off rfl rfl rfl rfl rfl ?_
      refine sx_off rfl rfl rfl rfl rfl ?_
      refine sx_off rfl rfl rfl rfl rfl ?_
      refine sx_pick rfl rfl rfl ?_
      refine sx_callP (hw _ (by unfold fullQ; simp at hb4; rw [hb4, Bool.eq_iff_iff]; first | (simp; done) | (simp; omega))) rfl rfl ?_
      refine sx_assign rfl rfl ?_
      refine sx_nil (hZ _ _ ?_ ?_)
      · exact Kn.cons rfl (Kn.cons rfl (Kn.cons rfl (Kn.cons rfl (Kn.cons rfl (Kn.cons rfl (Kn.cons rfl Kn.nil))))))
      · exact HLe.refl _
  refine awp_seq_region (fun Z hZ => ?_)
  refine sx_move rfl rfl ?_
  first | refine sx_neq rfl rfl rfl ?_ | refine sx_sneq rfl rfl rfl ?_
  refine sx_nil (hZ _ _ ?_)
  refine awp_forget [(1, _), (2, _), (3, _), (6, _), (8, _), (10, _), (11, _), (35, _)] (Kn.cons rfl (Kn.cons rfl (Kn.cons rfl (Kn.cons rfl (Kn.cons rfl (Kn.cons rfl (Kn.cons rfl (Kn.cons rfl (Kn.nil))))))))) ?_
  first | refine awp_cond rfl (fun h => ?_) (fun h => ?_) | refine awp_seq (awp_cond rfl (fun h => ?_) (fun h => ?_))
  · have he' : e ≠ 0 := by simp at h; omega

    refine awp_seq_region (fun Z hZ => ?_)
    first | refine sx_loadA 0 rfl rfl tyA29 tyS29 (by first | (simp only [List.length_cons, List.length_nil, Nat.reduceAdd, Nat.zero_add, Nat.add_zero]; first | done | rfl) | rfl) (by first | (simp only [List.take_succ_cons, List.take_zero, List.drop_succ_cons, List.drop_zero, List.cons_append, List.nil_append, List.append_nil, List.length_cons, List.length_nil, Nat.reduceAdd, Nat.zero_add, Nat.add_zero, Value.cells, wrV]; first | done | rfl) | rfl) rfl ?_ | refine sx_loadA 1 rfl rfl tyA29 tyS29 (by first | (simp only [List.length_cons, List.length_nil, Nat.reduceAdd, Nat.zero_add, Nat.add_zero]; first | done | rfl) | rfl) (by first | (simp only [List.take_succ_cons, List.take_zero, List.drop_succ_cons, List.drop_zero, List.cons_append, List.nil_append, List.append_nil, List.length_cons, List.length_nil, Nat.reduceAdd, Nat.zero_add, Nat.add_zero, Value.cells, wrV]; first | done | rfl) | rfl) rfl ?_
    refine sx_move rfl rfl ?_
    first | refine sx_store 0 rfl rfl rfl tyS29 (by first | (simp only [Value.cells]; first | done | rfl) | rfl) rfl rfl (by first | (simp only [List.length_cons, List.length_nil, Nat.reduceAdd, Nat.zero_add, Nat.add_zero]; first | done | rfl) | rfl) (by first | (simp only [List.take_succ_cons, List.take_zero, List.drop_succ_cons, List.drop_zero, List.cons_append, List.nil_append, List.append_nil, List.length_cons, List.length_nil, Nat.reduceAdd, Nat.zero_add, Nat.add_zero, Value.cells, wrV]; first | done | rfl) | rfl) (by first | (simp only [List.set_cons_succ, List.set_cons_zero]; first | done | rfl) | rfl) ?_ | refine sx_store 1 rfl rfl rfl tyS29 (by first | (simp only [Value.cells]; first | done | rfl) | rfl) rfl rfl (by first | (simp only [List.length_cons, List.length_nil, Nat.reduceAdd, Nat.zero_add, Nat.add_zero]; first | done | rfl) | rfl) (by first | (simp only [List.take_succ_cons, List.take_zero, List.drop_succ_cons, List.drop_zero, List.cons_append, List.nil_append, List.append_nil, List.length_cons, List.length_nil, Nat.reduceAdd, Nat.zero_add, Nat.add_zero, Value.cells, wrV]; first | done | rfl) | rfl) (by first | (simp only [List.set_cons_succ, List.set_cons_zero]; first | done | rfl) | rfl) ?_
    refine sx_assign rfl rfl ?_
    refine sx_nil (hZ _ _ ?_)
    refine awp_forget [(6, _), (7, _)] (Kn.cons rfl (Kn.cons rfl (Kn.nil))) ?_
    refine awp_ret ?_
    repeat (with_reducible (first | refine nx_then_ret ?_ | refine nx_block_ret ?_ | refine nx_scope_ret ?_))
    exact nx_ret2h [] rfl (ResOk.cell 0 rfl rfl tyA29 tyS29 rfl) rfl (HLe.sub (List.nil_sublist _)) ⟨_, rfl, .inr ⟨he', rfl, rfl⟩⟩
  have he' : e = 0 := by simp at h; omega
  subst he'
  refine awp_skip ?_
  repeat (with_reducible (first | refine nx_block_normal ?_ | refine nx_scope_normal ?_))
  with_reducible first | refine nx_normal ?_ | refine nx_normalM ?_
  have hrd : ∀ w0 Wr w, Sat w0 Wr T w → Rd w 2 A L.length (icells L) := fun w0 Wr w hw => rd_arg hA.arg hT (icells_len L) hA.nil (HLe.refl _) hw
  refine awp_seq_region (fun Z hZ => ?_)
  refine sx_fieldAddr rfl tyF29_0 (by first | (simp only [Nat.reduceAdd, Nat.add_zero, Nat.zero_add]; first | done | rfl) | rfl) rfl ?_
  first | refine sx_load 0 rfl rfl tyA27 tyS27 rfl rfl ?_ | refine sx_load 1 rfl rfl tyA27 tyS27 rfl rfl ?_
  refine sx_move rfl rfl ?_
  refine sx_move rfl rfl ?_
  refine sx_head3 Try.underlying27 tyS60 hA rfl rfl rfl (by omega) rfl ?_
  refine sx_assign rfl rfl ?_
  refine sx_nil (hZ _ _ ?_)
  refine awp_forget [(1, _), (2, _), (3, _), (6, _), (10, _), (12, _)] (Kn.cons rfl (Kn.cons rfl (Kn.cons rfl (Kn.cons rfl (Kn.cons rfl (Kn.cons rfl (Kn.nil))))))) ?_
  have hAp : SlOk A p := by
    rcases hA.ok with ⟨h1, h2⟩ | h1
    · exact .inl ⟨h1, by omega⟩
    · exact .inr h1
  rw [hd]
  have hll : (L.take p ++ ⟨k, s⟩ :: L.drop q).length = p + 1 + (L.length - q) := by
    rw [List.length_append, List.length_take, List.length_cons, List.length_drop]
    omega
  rw [hll]

  refine aww_seq_region _ [(0, true), (1, true), (2, true), (3, true), (4, false), (5, false), (6, true), (7, true), (8, true), (9, true), (10, false), (11, true), (12, false), (13, true)] mixed (by kernel_rfl) (HLe.pick [1] (by simp) (by simp only [pick, List.filterMap_cons, List.filterMap_nil, List.getElem?_cons_succ, List.getElem?_cons_zero]; rfl)) (fun Z hZ => ?_)
  refine tw_p rfl ?_
  refine sv_move rfl rfl ?_
  refine sv_nil ?_
  refine tw_p rfl ?_
  refine sv_move rfl rfl ?_
  refine sv_nil ?_
  refine tw_p rfl ?_
  refine sv_move rfl rfl ?_
  refine sv_nil ?_
  refine tw_p rfl ?_
  refine sv_build tyZ60 tyP60 rfl rfl (by first | (simp only [List.take_succ_cons, List.take_zero, List.drop_succ_cons, List.drop_zero, List.cons_append, List.nil_append, List.append_nil, List.length_cons, List.length_nil, Nat.reduceAdd, Nat.zero_add, Nat.add_zero, Value.cells, wrV, zrep_one, List.replicate_succ, List.replicate_zero, Nat.reduceMul, Nat.zero_mul]; first | done | rfl) | rfl) rfl ?_
  refine sv_nil ?_
  refine tw_g rfl ?_
  refine sx_buildSlice Try.underlying27 tyS60 tyZ60 rfl rfl rfl rfl (by first | (simp only [List.take_succ_cons, List.take_zero, List.drop_succ_cons, List.drop_zero, List.cons_append, List.nil_append, List.append_nil, List.length_cons, List.length_nil, Nat.reduceAdd, Nat.zero_add, Nat.add_zero, Value.cells, wrV, zrep_one, List.replicate_succ, List.replicate_zero, Nat.reduceMul, Nat.zero_mul]; first | done | rfl) | rfl) rfl (fun g3 => ?_)
  refine sx_nil ⟨HLe.pick [2] (by simp) rfl, ?_⟩
  refine tw_g rfl ?_
  refine sx_appendCut elemIt hAp rfl rfl (fun w hw => rd_head (hrd _ _ _ (hw.sub (List.sublist_append_right [_, _, _] T))) hle) (fun w hw => rd_own (i := 0) (n := 1) (xs := [uq k, .string (str s)]) rfl rfl hw) (fun h => by cases h) rfl (by omega) (by show _ ≤ 9223372036854775807; omega) (by omega) rfl (fun v1 hv1 => ?_)
  obtain ⟨g4, c4, rfl⟩ := hv1.some (by omega)
  refine sx_heap ((_ :: _ :: _ :: T) ++ rowE (.slice (some ⟨g4, 0, none⟩) (p + 1) c4) 60 2 _) (HLe.swap _ _) ?_
  refine sx_nil ⟨HLe.pick [2] (by simp) rfl, ?_⟩
  refine tw_p rfl ?_
  refine sv_fieldAddr rfl tyF29_0 (by first | (simp only [Nat.reduceAdd, Nat.add_zero, Nat.zero_add]; first | done | rfl) | rfl) rfl ?_
  refine sv_nil ?_
  refine tw_p rfl ?_
  first | refine sv_load 0 rfl rfl tyA27 tyS27 rfl rfl ?_
  refine sv_nil ?_
  refine tw_p rfl ?_
  refine sv_move rfl rfl ?_
  refine sv_nil ?_
  refine tw_p rfl ?_
  refine sv_part (i := q) (j := L.length) Try.underlying27 tyS60 hA rfl rfl rfl (by omega) (by omega) rfl (fun A2 hA2 ht2 => ?_)
  refine sv_nil ?_
  refine tw_g rfl ?_
  refine sx_appendE (_ :: _ :: _ :: T) elemIt rfl hv1 (by rw [List.length_append, List.length_take, icells_len]; simp; omega) rfl (fun w hw => rd_part (hrd _ _ _ (hw.sub ((List.sublist_append_right [_, _, _] T).trans (List.sublist_append_left (_ :: _ :: _ :: T) _)))) hA hql (Nat.le_refl _) ht2 hA2) (icells_one _) (by show _ ≤ 9223372036854775807; omega) (by omega) (HLe.refl _) rfl (fun v2 hv2 => ?_)
  obtain ⟨A5, c5, rfl, hA5⟩ := hv2.form
  refine sx_nil ⟨HLe.pick [2] (by simp) rfl, ?_⟩
  refine tw_p rfl ?_
  refine sv_build tyZ29 tyP29 rfl rfl (by first | (simp only [List.take_succ_cons, List.take_zero, List.drop_succ_cons, List.drop_zero, List.cons_append, List.nil_append, List.append_nil, List.length_cons, List.length_nil, Nat.reduceAdd, Nat.zero_add, Nat.add_zero, Value.cells, wrV, zrep_one, List.replicate_succ, List.replicate_zero, Nat.reduceMul, Nat.zero_mul]; first | done | rfl) | rfl) rfl ?_
  refine sv_nil ?_
  refine tw_g rfl ?_
  first | refine sx_store 0 rfl rfl rfl tyS29 (by first | (simp only [Value.cells]; first | done | rfl) | rfl) rfl rfl (by first | (simp only [List.length_cons, List.length_nil, Nat.reduceAdd, Nat.zero_add, Nat.add_zero]; first | done | rfl) | rfl) (by first | (simp only [List.take_succ_cons, List.take_zero, List.drop_succ_cons, List.drop_zero, List.cons_append, List.nil_append, List.append_nil, List.length_cons, List.length_nil, Nat.reduceAdd, Nat.zero_add, Nat.add_zero, Value.cells, wrV]; first | done | rfl) | rfl) (by first | (simp only [List.set_cons_succ, List.set_cons_zero]; first | done | rfl) | rfl) ?_ | refine sx_store 1 rfl rfl rfl tyS29 (by first | (simp only [Value.cells]; first | done | rfl) | rfl) rfl rfl (by first | (simp only [List.length_cons, List.length_nil, Nat.reduceAdd, Nat.zero_add, Nat.add_zero]; first | done | rfl) | rfl) (by first | (simp only [List.take_succ_cons, List.take_zero, List.drop_succ_cons, List.drop_zero, List.cons_append, List.nil_append, List.append_nil, List.length_cons, List.length_nil, Nat.reduceAdd, Nat.zero_add, Nat.add_zero, Value.cells, wrV]; first | done | rfl) | rfl) (by first | (simp only [List.set_cons_succ, List.set_cons_zero]; first | done | rfl) | rfl) ?_ | refine sx_store 2 rfl rfl rfl tyS29 (by first | (simp only [Value.cells]; first | done | rfl) | rfl) rfl rfl (by first | (simp only [List.length_cons, List.length_nil, Nat.reduceAdd, Nat.zero_add, Nat.add_zero]; first | done | rfl) | rfl) (by first | (simp only [List.take_succ_cons, List.take_zero, List.drop_succ_cons, List.drop_zero, List.cons_append, List.nil_append, List.append_nil, List.length_cons, List.length_nil, Nat.reduceAdd, Nat.zero_add, Nat.add_zero, Value.cells, wrV]; first | done | rfl) | rfl) (by first | (simp only [List.set_cons_succ, List.set_cons_zero]; first | done | rfl) | rfl) ?_
  refine sx_nil ⟨HLe.pick [2] (by simp) rfl, ?_⟩
  refine tw_p rfl ?_
  refine sv_assign rfl rfl ?_
  refine sv_nil ?_
  refine tw_nil (hZ _ _ ?_)
  refine awp_forget [(6, _), (7, _)] (Kn.cons rfl (Kn.cons rfl (Kn.nil))) ?_
  refine awp_ret ?_
  repeat (with_reducible (first | refine nx_then_ret ?_ | refine nx_block_ret ?_ | refine nx_scope_ret ?_))
  refine nx_ret2h _ rfl (ResOk.cell 1 rfl rfl tyA29 tyS29 rfl) rfl (HLe.sub (List.sublist_append_right (_ :: _ :: _ :: T) _)) ⟨_, rfl, .inl ⟨rfl, hv2, ?_⟩⟩
  rw [it_take, List.take_of_length_le (show (L.drop q).length ≤ L.length - q by rw [List.length_drop]; exact Nat.le_refl _)]
  simp only [icells, List.flatMap_append, List.flatMap_cons, List.append_assoc, It.cells, List.cons_append, List.nil_append]
end Go.Proofs.Ytahmhcmfeloclaa
