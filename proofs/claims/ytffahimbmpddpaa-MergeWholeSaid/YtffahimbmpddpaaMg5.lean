/- Entries of a chart, plain; whether an entry goes on with another one; whether entries are as few as may be. Conditions: none but of lengths. -/
import Derived.Test.YtffahimbmpddpaaMg3
import Derived.Test.YtffahimbmpddpaaPl6
namespace Go.Proofs.Ytffahimbmpddpaa.V
open Go.RowKit
set_option linter.unusedVariables false
set_option linter.unusedSimpArgs false
set_option maxRecDepth 100000
/-- One cell of a row of one's own is stored. -/
theorem sx_storeRw {P : Program} {N : Frm} {w0 : World} {Wr : List Nat} {ops : Array Oper} {rest : List Oper} {fr : Fr} {H : Heap} {Z : Fr → Heap → Prop} {ty : Nat} {pos : String} {after : Array Edge}
    (i : Nat) {t : TypeId} {x y : Operand} {g o size n c : Nat} {e : TypeId} {xs ys : List Value} {v : Value} (hx : ev fr x = some (ptr g o)) (hy : ev fr y = some v) (hH : H[i]? = some (.ob g (RowP e size n c xs))) (hn : tySize P t = some 1) (h1 : v.oneCell' = true)
    (hlen : o < n * size) (hys : xs.set o v = ys) {H2 : Heap} (hs : H.set i (.ob g (RowP e size n c ys)) = H2)
    (h : sx P N w0 Wr ops rest fr H2 Z) : sx P N w0 Wr ops (⟨none, .store t x y, ty, pos, after, none⟩ :: rest) fr H Z :=
  sx_do (fun a w ha hw => by
    subst hs
    subst hys
    obtain ⟨ob, hg, cur, rfl, h2, h3, h4, h5, h6⟩ := hw.mem hH
    have hnc : n * size ≤ c * size := Nat.mul_le_mul_right size h2
    have ho : o < cur.size := by omega
    have hc : w.cell? ⟨g, o, none⟩ = some cur[o] := by rw [cell_of_row w g o cur e _ hg]; simp [ho]
    have hf : w.frozen? ⟨g, o, none⟩ = false := by simp [World.frozen?, hg]
    have hst : (store ⟨g, o, none⟩ v).run P w = .ok () (w.setCell ⟨g, o, none⟩ v) := by
      cases v <;> first | (simp [Value.oneCell'] at h1; done) | simp [store, Sem.run, hc, hf]
    refine ⟨w.setCell ⟨g, o, none⟩ v, ?_, hw.turn hH rfl rfl (Only.setCell w g o _) ?_⟩
    · have hsz : v.cells = #[v] := by cases v <;> first | rfl | (simp [Value.oneCell'] at h1)
      have ha0 : Addr.add ⟨g, o, none⟩ 0 = ⟨g, o, none⟩ := rfl
      simp [execOp, Instr.storeAt, ha.eval hx, ha.eval hy, ptr, Instr.sureAddr, Sem.run_bind, Sem.run_pure, Result.andThen_ok, storeVar, run_sizeOf hn, hsz, storeCells, ha0]
      simp only [store] at hst ⊢
      rw [hst]
      rfl
    · refine ⟨.cells (cur.set! o v) e (0, 0), ?_, cur.set! o v, rfl, h2, h3, by simpa using h4, ?_, by rw [List.length_set]; exact h6⟩
      · simp [World.setCell, Array.getElem?_modify, hg]
      · have : (cur.set! o v).toList = cur.toList.set o v := by simp
        rw [this, List.take_set, h5]) h
section
variable {P : Program} {N : Frm} {w0 : World} {Wr : List Nat} {ops : Array Oper} {rest : List Oper} {fr : Fr} {H : Heap} {Z : Fr → Heap → Prop} {d ty : Nat} {pos : String} {after : Array Edge}
/-- A call of a function's value, where the function is a plain one. -/
theorem sx_callFP {f : FuncId} {x : Operand} {xs : List Operand} {vs : List Value} {ts : Array TypeId} {v : Value} (hc : Fn P f vs [] fun u _ => u = v) (hf : ev fr x = some (.func (.func f) #[] #[])) (hx : evs fr xs = some vs) (hN : Nat.ble (d + 1) N.n = true)
    (h : sx P N w0 Wr ops rest ((d, v) :: fr) H Z) : sx P N w0 Wr ops (⟨some d, .call { callee := .value x, args := xs.toArray, argTypes := ts }, ty, pos, after, none⟩ :: rest) fr H Z :=
  sx_callFV (caps := []) (vs := vs) [] (by rw [List.append_nil]; exact hc) hf hx (HLe.sub (List.nil_sublist _)) Ro.nil hN h
theorem sq_callFP {f : FuncId} {x : Operand} {xs : List Operand} {vs : List Value} {ts : Array TypeId} {v : Value} (hc : Fn P f vs [] fun u _ => u = v) (hf : ev fr x = some (.func (.func f) #[] #[])) (hx : evs fr xs = some vs) (hN : Nat.ble (d + 1) N.n = true)
    (h : sq P N w0 Wr ops rest ((d, v) :: fr) H Z) : sq P N w0 Wr ops (⟨some d, .call { callee := .value x, args := xs.toArray, argTypes := ts }, ty, pos, after, none⟩ :: rest) fr H Z :=
  fun Q hQ a ha => wpQuiet_step fun K hK => by
    rw [if_pos (show Region.wanted (⟨some d, .call { callee := .value x, args := xs.toArray, argTypes := ts }, ty, pos, after, none⟩ : Oper) (yielded ops a.tmps) = true from rfl)]
    refine ⟨v, fun w hw => ?_, hK _ (h Q hQ _ (ha.put hN v))⟩
    unfold Oper.quietAt
    rw [run_callF (caps := []) hc.1 (ha.evals hx) (ha.eval hf)]
    refine ⟨rfl, ?_⟩
    rw [List.append_nil]
    exact (hc.2 w (Sat.nil w)).mono fun e w' he => by
      obtain ⟨u, H', rfl, rfl, hS⟩ := he
      exact ⟨rfl, hw.bel hS.only.bel⟩
end
def oneQ (a b : En) : Bool := decide (b.id = lastE a + 1 ∧ b.off = a.off ∧ b.len = a.len)
theorem goes_fn (a b : En) (ha : a.ok) : Fn Try.prog 35 [a.val, b.val] [] fun v _ => v = .bool (oneQ a b) := by
  have hl := last_lt ha
  refine Fn.enter (N := 31) Try.func35 rfl (by kernel_rfl) rfl (fun w0 => ?_)

  refine awp_seq_region (fun Z hZ => ?_)
  refine sx_box rfl rfl rfl (fun g1 => ?_)
  refine sx_box rfl rfl rfl (fun g2 => ?_)
  refine sx_assign rfl rfl ?_
  refine sx_nil (hZ _ _ ?_)
  refine awp_forget [(2, _), (3, _)] (Kn.cons rfl (Kn.cons rfl (Kn.nil))) ?_

  refine awq_seq_meet [(4, .bool (oneQ a b))] [] mixed (by kernel_rfl) (fun Z hZ => ?_) ?_
  · refine sq_fieldAddr rfl tyF76_0 (by first | (simp only [Nat.reduceAdd, Nat.add_zero, Nat.zero_add]; first | done | rfl) | rfl) rfl ?_
    refine sq_fieldAddr rfl tyF63_0 (by first | (simp only [Nat.reduceAdd, Nat.add_zero, Nat.zero_add]; first | done | rfl) | rfl) rfl ?_
    first | refine sq_load 0 rfl rfl tyA46 tyS46 rfl rfl ?_ | refine sq_load 1 rfl rfl tyA46 tyS46 rfl rfl ?_
    refine sq_fieldAddr rfl tyF76_0 (by first | (simp only [Nat.reduceAdd, Nat.add_zero, Nat.zero_add]; first | done | rfl) | rfl) rfl ?_
    first | refine sq_loadA 0 rfl rfl tyA63 tyS63 (by first | (simp only [List.length_cons, List.length_nil, Nat.reduceAdd, Nat.zero_add, Nat.add_zero]; first | done | rfl) | rfl) (by first | (simp only [List.take_succ_cons, List.take_zero, List.drop_succ_cons, List.drop_zero, List.cons_append, List.nil_append, List.append_nil, List.length_cons, List.length_nil, Nat.reduceAdd, Nat.zero_add, Nat.add_zero, Value.cells, wrV]; first | done | rfl) | rfl) rfl ?_ | refine sq_loadA 1 rfl rfl tyA63 tyS63 (by first | (simp only [List.length_cons, List.length_nil, Nat.reduceAdd, Nat.zero_add, Nat.add_zero]; first | done | rfl) | rfl) (by first | (simp only [List.take_succ_cons, List.take_zero, List.drop_succ_cons, List.drop_zero, List.cons_append, List.nil_append, List.append_nil, List.length_cons, List.length_nil, Nat.reduceAdd, Nat.zero_add, Nat.add_zero, Value.cells, wrV]; first | done | rfl) | rfl) rfl ?_
    refine sq_callP (elast_fn a ha) rfl rfl ?_
    refine sq_add rfl rfl ((lastE a + 1 : Nat) : Int) (by rw [IntWalk.u64_in _ (by omega)]; omega) rfl ?_
    first | refine sq_eql rfl rfl rfl ?_ | refine sq_seql rfl rfl rfl ?_
    refine sq_move rfl rfl ?_
    refine sq_split 13 rfl (fun hb8 => ?_) (fun hb8 => ?_)
    · refine sq_on rfl rfl rfl ?_
      refine sq_fieldAddr rfl tyF76_0 (by first | (simp only [Nat.reduceAdd, Nat.add_zero, Nat.zero_add]; first | done | rfl) | rfl) rfl ?_
      refine sq_on rfl rfl rfl ?_
      refine sq_fieldAddr rfl tyF63_1 (by first | (simp only [Nat.reduceAdd, Nat.add_zero, Nat.zero_add]; first | done | rfl) | rfl) rfl ?_
      refine sq_on rfl rfl rfl ?_
      first | refine sq_load 0 rfl rfl tyA46 tyS46 rfl rfl ?_ | refine sq_load 1 rfl rfl tyA46 tyS46 rfl rfl ?_
      refine sq_on rfl rfl rfl ?_
      refine sq_fieldAddr rfl tyF76_0 (by first | (simp only [Nat.reduceAdd, Nat.add_zero, Nat.zero_add]; first | done | rfl) | rfl) rfl ?_
      refine sq_on rfl rfl rfl ?_
      refine sq_fieldAddr rfl tyF63_1 (by first | (simp only [Nat.reduceAdd, Nat.add_zero, Nat.zero_add]; first | done | rfl) | rfl) rfl ?_
      refine sq_on rfl rfl rfl ?_
      first | refine sq_load 0 rfl rfl tyA46 tyS46 rfl rfl ?_ | refine sq_load 1 rfl rfl tyA46 tyS46 rfl rfl ?_
      refine sq_on rfl rfl rfl ?_
      first | refine sq_eql rfl rfl rfl ?_ | refine sq_seql rfl rfl rfl ?_
      refine sq_pick rfl rfl rfl ?_
      refine sq_move rfl rfl ?_
      refine sq_split 22 rfl (fun hb17 => ?_) (fun hb17 => ?_)
      · refine sq_on rfl rfl rfl ?_
        refine sq_fieldAddr rfl tyF76_0 (by first | (simp only [Nat.reduceAdd, Nat.add_zero, Nat.zero_add]; first | done | rfl) | rfl) rfl ?_
        refine sq_on rfl rfl rfl ?_
        refine sq_fieldAddr rfl tyF63_2 (by first | (simp only [Nat.reduceAdd, Nat.add_zero, Nat.zero_add]; first | done | rfl) | rfl) rfl ?_
        refine sq_on rfl rfl rfl ?_
        first | refine sq_load 0 rfl rfl tyA61 tyS61 rfl rfl ?_ | refine sq_load 1 rfl rfl tyA61 tyS61 rfl rfl ?_
        refine sq_on rfl rfl rfl ?_
        refine sq_fieldAddr rfl tyF76_0 (by first | (simp only [Nat.reduceAdd, Nat.add_zero, Nat.zero_add]; first | done | rfl) | rfl) rfl ?_
        refine sq_on rfl rfl rfl ?_
        refine sq_fieldAddr rfl tyF63_2 (by first | (simp only [Nat.reduceAdd, Nat.add_zero, Nat.zero_add]; first | done | rfl) | rfl) rfl ?_
        refine sq_on rfl rfl rfl ?_
        first | refine sq_load 0 rfl rfl tyA61 tyS61 rfl rfl ?_ | refine sq_load 1 rfl rfl tyA61 tyS61 rfl rfl ?_
        refine sq_on rfl rfl rfl ?_
        first | refine sq_eql rfl rfl rfl ?_ | refine sq_seql rfl rfl rfl ?_
        refine sq_pick rfl rfl rfl ?_
        refine sq_assign rfl rfl ?_
        refine sq_nil (hZ _ _ ?_ ?_)
        · exact Kn.cons (congrArg some (congrArg Value.bool (by unfold oneQ; simp at *; first | omega | (rw [Bool.eq_iff_iff]; simp; omega)))) Kn.nil
        · exact HLe.sub (List.nil_sublist _)
      · refine sq_off rfl rfl rfl rfl rfl ?_
        refine sq_off rfl rfl rfl rfl rfl ?_
        refine sq_off rfl rfl rfl rfl rfl ?_
        refine sq_off rfl rfl rfl rfl rfl ?_
        refine sq_off rfl rfl rfl rfl rfl ?_
        refine sq_off rfl rfl rfl rfl rfl ?_
        refine sq_off rfl rfl rfl rfl rfl ?_
        refine sq_pick rfl rfl rfl ?_
        refine sq_assign rfl rfl ?_
        refine sq_nil (hZ _ _ ?_ ?_)
        · exact Kn.cons (congrArg some (congrArg Value.bool (by unfold oneQ; simp at *; first | omega | (rw [Bool.eq_iff_iff]; simp; omega)))) Kn.nil
        · exact HLe.sub (List.nil_sublist _)
    · refine sq_off rfl rfl rfl rfl rfl ?_
      refine sq_off rfl rfl rfl rfl rfl ?_
      refine sq_off rfl rfl rfl rfl rfl ?_
      refine sq_off rfl rfl rfl rfl rfl ?_
      refine sq_off rfl rfl rfl rfl rfl ?_
      refine sq_off rfl rfl rfl rfl rfl ?_
      refine sq_off rfl rfl rfl rfl rfl ?_
      refine sq_pick rfl rfl rfl ?_
      refine sq_move rfl rfl ?_
      refine sq_off rfl rfl rfl rfl rfl ?_
      refine sq_off rfl rfl rfl rfl rfl ?_
      refine sq_off rfl rfl rfl rfl rfl ?_
      refine sq_off rfl rfl rfl rfl rfl ?_
      refine sq_off rfl rfl rfl rfl rfl ?_
      refine sq_off rfl rfl rfl rfl rfl ?_
      refine sq_off rfl rfl rfl rfl rfl ?_
      refine sq_pick rfl rfl rfl ?_
      refine sq_assign rfl rfl ?_
      refine sq_nil (hZ _ _ ?_ ?_)
      · exact Kn.cons (congrArg some (congrArg Value.bool (by unfold oneQ; simp at *; first | omega | (rw [Bool.eq_iff_iff]; simp; omega)))) Kn.nil
      · exact HLe.sub (List.nil_sublist _)
  refine awp_ret ?_
  repeat (with_reducible (first | refine nx_then_ret ?_ | refine nx_block_ret ?_ | refine nx_scope_ret ?_))
  exact nx_ret1 rfl rfl rfl
theorem one_fn (a b : En) (ha : a.ok) : Fn Try.prog 36 [a.val, b.val] [] fun v _ => v = .bool (oneQ a b) := by
  have hl := last_lt ha
  refine Fn.enter (N := 25) Try.func36 rfl (by kernel_rfl) rfl (fun w0 => ?_)

  refine awp_seq_region (fun Z hZ => ?_)
  refine sx_box rfl rfl rfl (fun g1 => ?_)
  refine sx_box rfl rfl rfl (fun g2 => ?_)
  refine sx_assign rfl rfl ?_
  refine sx_nil (hZ _ _ ?_)
  refine awp_forget [(2, _), (3, _)] (Kn.cons rfl (Kn.cons rfl (Kn.nil))) ?_

  refine awq_seq_meet [(4, .bool (oneQ a b))] [] mixed (by kernel_rfl) (fun Z hZ => ?_) ?_
  · refine sq_fieldAddr rfl tyF68_0 (by first | (simp only [Nat.reduceAdd, Nat.add_zero, Nat.zero_add]; first | done | rfl) | rfl) rfl ?_
    first | refine sq_load 0 rfl rfl tyA46 tyS46 rfl rfl ?_ | refine sq_load 1 rfl rfl tyA46 tyS46 rfl rfl ?_
    first | refine sq_loadA 0 rfl rfl tyA68 tyS68 (by first | (simp only [List.length_cons, List.length_nil, Nat.reduceAdd, Nat.zero_add, Nat.add_zero]; first | done | rfl) | rfl) (by first | (simp only [List.take_succ_cons, List.take_zero, List.drop_succ_cons, List.drop_zero, List.cons_append, List.nil_append, List.append_nil, List.length_cons, List.length_nil, Nat.reduceAdd, Nat.zero_add, Nat.add_zero, Value.cells, wrV]; first | done | rfl) | rfl) rfl ?_ | refine sq_loadA 1 rfl rfl tyA68 tyS68 (by first | (simp only [List.length_cons, List.length_nil, Nat.reduceAdd, Nat.zero_add, Nat.add_zero]; first | done | rfl) | rfl) (by first | (simp only [List.take_succ_cons, List.take_zero, List.drop_succ_cons, List.drop_zero, List.cons_append, List.nil_append, List.append_nil, List.length_cons, List.length_nil, Nat.reduceAdd, Nat.zero_add, Nat.add_zero, Value.cells, wrV]; first | done | rfl) | rfl) rfl ?_
    refine sq_callP (rlast_fn a ha) rfl rfl ?_
    refine sq_add rfl rfl ((lastE a + 1 : Nat) : Int) (by rw [IntWalk.u64_in _ (by omega)]; omega) rfl ?_
    first | refine sq_eql rfl rfl rfl ?_ | refine sq_seql rfl rfl rfl ?_
    refine sq_move rfl rfl ?_
    refine sq_split 11 rfl (fun hb6 => ?_) (fun hb6 => ?_)
    · refine sq_on rfl rfl rfl ?_
      refine sq_fieldAddr rfl tyF68_1 (by first | (simp only [Nat.reduceAdd, Nat.add_zero, Nat.zero_add]; first | done | rfl) | rfl) rfl ?_
      refine sq_on rfl rfl rfl ?_
      first | refine sq_load 0 rfl rfl tyA46 tyS46 rfl rfl ?_ | refine sq_load 1 rfl rfl tyA46 tyS46 rfl rfl ?_
      refine sq_on rfl rfl rfl ?_
      refine sq_fieldAddr rfl tyF68_1 (by first | (simp only [Nat.reduceAdd, Nat.add_zero, Nat.zero_add]; first | done | rfl) | rfl) rfl ?_
      refine sq_on rfl rfl rfl ?_
      first | refine sq_load 0 rfl rfl tyA46 tyS46 rfl rfl ?_ | refine sq_load 1 rfl rfl tyA46 tyS46 rfl rfl ?_
      refine sq_on rfl rfl rfl ?_
      first | refine sq_eql rfl rfl rfl ?_ | refine sq_seql rfl rfl rfl ?_
      refine sq_pick rfl rfl rfl ?_
      refine sq_move rfl rfl ?_
      refine sq_split 18 rfl (fun hb13 => ?_) (fun hb13 => ?_)
      · refine sq_on rfl rfl rfl ?_
        refine sq_fieldAddr rfl tyF68_2 (by first | (simp only [Nat.reduceAdd, Nat.add_zero, Nat.zero_add]; first | done | rfl) | rfl) rfl ?_
        refine sq_on rfl rfl rfl ?_
        first | refine sq_load 0 rfl rfl tyA61 tyS61 rfl rfl ?_ | refine sq_load 1 rfl rfl tyA61 tyS61 rfl rfl ?_
        refine sq_on rfl rfl rfl ?_
        refine sq_fieldAddr rfl tyF68_2 (by first | (simp only [Nat.reduceAdd, Nat.add_zero, Nat.zero_add]; first | done | rfl) | rfl) rfl ?_
        refine sq_on rfl rfl rfl ?_
        first | refine sq_load 0 rfl rfl tyA61 tyS61 rfl rfl ?_ | refine sq_load 1 rfl rfl tyA61 tyS61 rfl rfl ?_
        refine sq_on rfl rfl rfl ?_
        first | refine sq_eql rfl rfl rfl ?_ | refine sq_seql rfl rfl rfl ?_
        refine sq_pick rfl rfl rfl ?_
        refine sq_assign rfl rfl ?_
        refine sq_nil (hZ _ _ ?_ ?_)
        · exact Kn.cons (congrArg some (congrArg Value.bool (by unfold oneQ; simp at *; first | omega | (rw [Bool.eq_iff_iff]; simp; omega)))) Kn.nil
        · exact HLe.sub (List.nil_sublist _)
      · refine sq_off rfl rfl rfl rfl rfl ?_
        refine sq_off rfl rfl rfl rfl rfl ?_
        refine sq_off rfl rfl rfl rfl rfl ?_
        refine sq_off rfl rfl rfl rfl rfl ?_
        refine sq_off rfl rfl rfl rfl rfl ?_
        refine sq_pick rfl rfl rfl ?_
        refine sq_assign rfl rfl ?_
        refine sq_nil (hZ _ _ ?_ ?_)
        · exact Kn.cons (congrArg some (congrArg Value.bool (by unfold oneQ; simp at *; first | omega | (rw [Bool.eq_iff_iff]; simp; omega)))) Kn.nil
        · exact HLe.sub (List.nil_sublist _)
    · refine sq_off rfl rfl rfl rfl rfl ?_
      refine sq_off rfl rfl rfl rfl rfl ?_
      refine sq_off rfl rfl rfl rfl rfl ?_
      refine sq_off rfl rfl rfl rfl rfl ?_
      refine sq_off rfl rfl rfl rfl rfl ?_
      refine sq_pick rfl rfl rfl ?_
      refine sq_move rfl rfl ?_
      refine sq_off rfl rfl rfl rfl rfl ?_
      refine sq_off rfl rfl rfl rfl rfl ?_
      refine sq_off rfl rfl rfl rfl rfl ?_
      refine sq_off rfl rfl rfl rfl rfl ?_
      refine sq_off rfl rfl rfl rfl rfl ?_
      refine sq_pick rfl rfl rfl ?_
      refine sq_assign rfl rfl ?_
      refine sq_nil (hZ _ _ ?_ ?_)
      · exact Kn.cons (congrArg some (congrArg Value.bool (by unfold oneQ; simp at *; first | omega | (rw [Bool.eq_iff_iff]; simp; omega)))) Kn.nil
      · exact HLe.sub (List.nil_sublist _)
  refine awp_ret ?_
  repeat (with_reducible (first | refine nx_then_ret ?_ | refine nx_block_ret ?_ | refine nx_scope_ret ?_))
  exact nx_ret1 rfl rfl rfl
end Go.Proofs.Ytffahimbmpddpaa.V
