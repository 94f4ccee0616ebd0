/- The walk of lru's Fork. No conditions. -/
import Derived.Test.YtoadkdlhbmmdlaaLr14
import Derived.Laws.Externs
import Derived.MapKept
namespace Go.Proofs.Ytoadkdlhbmmdlaa
open Go.RowKit
set_option linter.unusedVariables false
set_option linter.unusedSimpArgs false
section
variable {P : Program} {N : Nat} {w0 : World} {Wr : List Nat} {ops : Array Oper} {rest : List Oper} {fr : Fr} {H : Heap} {Z : Fr → Heap → Prop}
variable {d ty : Nat} {pos : String} {after : Array Edge}
theorem sx_mapNil {t t' k e : TypeId} {x : Operand} {m : Option Nat} (ht : P.underlying t = some (.map k e)) (hx : ev fr x = some (.map m)) (hN : Nat.ble (d + 1) N = true)
    (h : sx P N w0 Wr ops rest ((d, .bool m.isNone) :: fr) H Z) : sx P N w0 Wr ops (⟨some d, .binOp .eql t x (.const (.map none)) t', ty, pos, after, none⟩ :: rest) fr H Z :=
  sx_val _ hN (fun a w ha _ => by
    have e' : a.eval (.const (.map none)) = .map none := rfl
    have hq : (Op.equal t (.map m) (.map none)).run P w = .ok m.isNone w := by
      unfold Op.equal Op.maxDepth Op.equalIn
      cases m <;> simp [Sem.run_bind, run_underlying ht]
    have hg : (eqGuard .eql t x (.const (.map none)) (.map m) (.map none)).run P w = .ok () w := by
      unfold eqGuard
      split <;> rfl
    simp only [execOp, ha.eval hx, e', Sem.run_bind, hg, Result.andThen_ok, binOp]
    simp [hq]) h
theorem sx_ptrNeNil {t t' e : TypeId} {x : Operand} {g o : Nat} (ht : P.underlying t = some (.pointer e)) (hx : ev fr x = some (ptr g o)) (hN : Nat.ble (d + 1) N = true)
    (h : sx P N w0 Wr ops rest ((d, .bool true) :: fr) H Z) : sx P N w0 Wr ops (⟨some d, .binOp .neq t x (.const (.pointer none)) t', ty, pos, after, none⟩ :: rest) fr H Z :=
  sx_val _ hN (fun a w ha _ => by
    have e' : a.eval (.const (.pointer none)) = .pointer none := rfl
    have hq : (Op.equal t (ptr g o) (.pointer none)).run P w = .ok false w := by
      unfold Op.equal Op.maxDepth Op.equalIn
      simp [Sem.run_bind, run_underlying ht, ptr]
    have hg : (eqGuard .neq t x (.const (.pointer none)) (ptr g o) (.pointer none)).run P w = .ok () w := by
      unfold eqGuard
      split <;> rfl
    simp only [execOp, ha.eval hx, e', Sem.run_bind, hg, Result.andThen_ok, binOp, ptr]
    simp only [ptr] at hq hg
    simp [hq, hg]) h
theorem sx_nilNeNil {t t' e : TypeId} {x : Operand} (ht : P.underlying t = some (.pointer e)) (hx : ev fr x = some (.pointer none)) (hN : Nat.ble (d + 1) N = true)
    (h : sx P N w0 Wr ops rest ((d, .bool false) :: fr) H Z) : sx P N w0 Wr ops (⟨some d, .binOp .neq t x (.const (.pointer none)) t', ty, pos, after, none⟩ :: rest) fr H Z :=
  sx_val _ hN (fun a w ha _ => by
    have e' : a.eval (.const (.pointer none)) = .pointer none := rfl
    have hq : (Op.equal t (.pointer none) (.pointer none)).run P w = .ok true w := by
      unfold Op.equal Op.maxDepth Op.equalIn
      simp [Sem.run_bind, run_underlying ht]
    have hg : (eqGuard .neq t x (.const (.pointer none)) (.pointer none) (.pointer none)).run P w = .ok () w := by
      unfold eqGuard
      split <;> rfl
    simp only [execOp, ha.eval hx, e', Sem.run_bind, hg, Result.andThen_ok, binOp]
    simp [hq]) h
theorem sx_mkIface {t : TypeId} {x : Operand} {v : Value} {ds : TypeDesc} (ht : P.underlying t = some ds) (hd : (match ds with | .interface _ => false | _ => true) = true) (hx : ev fr x = some v) (hN : Nat.ble (d + 1) N = true)
    (h : sx P N w0 Wr ops rest ((d, .iface t v) :: fr) H Z) : sx P N w0 Wr ops (⟨some d, .makeInterface t x, ty, pos, after, none⟩ :: rest) fr H Z :=
  sx_val _ hN (fun a w ha _ => by
    simp only [execOp, Instr.makeInterface, ha.eval hx, Sem.run_bind, run_underlying ht, Result.andThen_ok]
    cases ds <;> first | rfl | simp at hd) h
theorem sx_assertTo {t xT k e : TypeId} {x : Operand} {v : Value} (ht : P.underlying t = some (.map k e)) (hx : ev fr x = some (.iface t v)) (hN : Nat.ble (d + 1) N = true)
    (h : sx P N w0 Wr ops rest ((d, v) :: fr) H Z) : sx P N w0 Wr ops (⟨some d, .typeAssert x xT t false, ty, pos, after, none⟩ :: rest) fr H Z :=
  sx_val _ hN (fun a w ha _ => by
    simp [execOp, Instr.typeAssert, ha.eval hx, Sem.run_bind, run_underlying ht]) h
/-- A call of a function that the model stands in for. -/
theorem sx_extern {f : FuncId} {fn : Func} {ex : Array Value → Sem Value} {xs : List Operand} {vs : List Value} {ts : Array TypeId} {R : Value → Heap → Prop} (hf : P.funcs[f]? = some fn) (hname : (fn.name == "runtime.NumGoroutine") = false)
    (hb : fn.body.isNone = true) (hn : Extern.findNext fn = none) (he : Extern.find fn = some ex) (hx : evs fr xs = some vs) (hN : Nat.ble (d + 1) N = true)
    (hrun : ∀ w, Sat w0 Wr H w → ∃ v w' H', (ex vs.toArray).run P w = .ok v w' ∧ R v H' ∧ Sat w0 Wr H' w')
    (h : ∀ v H', R v H' → sx P N w0 Wr ops rest ((d, v) :: fr) H' Z) :
    sx P N w0 Wr ops (⟨some d, .call { callee := .value (.func f), args := xs.toArray, argTypes := ts }, ty, pos, after, none⟩ :: rest) fr H Z :=
  sx_make (R := R) hN (fun a w ha hw => by
    obtain ⟨v, w', H', h1, h2, h3⟩ := hrun w hw
    refine ⟨v, w', H', ?_, h2, h3⟩
    have hvs := ha.evals hx
    have hfu : a.eval (.func f) = .func (.func f) #[] #[] := rfl
    have := run_callFunc_extern hf hname hb hn he vs.toArray w
    rw [h1] at this
    subst hvs
    simpa [execOp, resolve, hfu, Deferred.ofValue, invoke, Sem.run_bind] using this) h
end
theorem clone_run {P : Program} {w0 w : World} {Wr : List Nat} {t : TypeId} {b : Nat} {M : List (Ky × Node)} (hw : Sat w0 Wr [mapE encK encV b M] w) :
    ∃ v w' H', (Extern.MapsClone.clone [Value.iface t (.map (some b))].toArray).run P w = .ok v w' ∧ (∃ b', v = .iface t (.map (some b')) ∧ H' = [mapE encK encV b' M, mapE encK encV b M]) ∧ Sat w0 Wr H' w' := by
  obtain ⟨o, h1, hp⟩ := hw.mem (i := 0) (e := mapE encK encV b M) rfl
  obtain ⟨es, clock, rfl, h2, h3⟩ := hp
  refine ⟨.iface t (.map (some w.heap.size)), w.alloc (.map es clock), _, ?_, ⟨w.heap.size, rfl, rfl⟩, hw.allocOb (.map es clock) (MapP encK encV M) ⟨es, clock, rfl, h2, h3⟩⟩
  have e : Extern.MapsClone.clone [Value.iface t (.map (some b))].toArray = (getObj b >>= fun o => match o with
      | .map entries clock => (newObj (.map entries clock) >>= fun n => pure (.iface t (.map (some n))))
      | _ => stuck "maps.clone: a map expected") := rfl
  rw [e]
  simp [MapKept.run_getObj_map h1, Result.andThen, go_sem]
theorem clone_fn (b : Nat) (M : List (Ky × Node)) : Fn Try.prog 29 [.map (some b)] [mapE encK encV b M] fun v H' => ∃ b', v = .map (some b') ∧ H' = [mapE encK encV b' M, mapE encK encV b M] := by
  refine Fn.enter (N := 9) Try.func29 rfl (by kernel_rfl) rfl (fun w0 => ?_)

  refine awp_seq_region (fun Z hZ => ?_)
  refine sx_assign rfl rfl ?_
  refine sx_nil (hZ _ _ ?_)
  refine awp_forget [(0, _)] (Kn.cons rfl (Kn.nil)) ?_
  refine awp_seq ?_
  refine awp_seq_region (fun Z hZ => ?_)
  refine sx_move rfl rfl ?_
  refine sx_mapNil Try.underlying49 rfl rfl ?_
  refine sx_nil (hZ _ _ ?_)
  refine awp_forget [(0, _), (4, _)] (Kn.cons rfl (Kn.cons rfl (Kn.nil))) ?_
  first | refine awp_cond rfl (fun h => ?_) (fun h => ?_) | refine awp_seq (awp_cond rfl (fun h => ?_) (fun h => ?_))
  · cases h
  refine awp_skip ?_
  repeat (with_reducible refine nx_block_normal ?_)
  with_reducible refine nx_normal ?_
  refine awp_seq_region (fun Z hZ => ?_)
  refine sx_move rfl rfl ?_
  refine sx_mkIface Try.underlying49 rfl rfl rfl ?_
  refine sx_extern (R := fun v H' => ∃ b', v = .iface 49 (.map (some b')) ∧ H' = [mapE encK encV b' M, mapE encK encV b M]) Try.func30 (by kernel_rfl) (by kernel_rfl) (by kernel_rfl) (ex := Extern.MapsClone.clone) (by kernel_rfl) rfl rfl (fun w hw => clone_run hw) ?_
  rintro v H' ⟨b', rfl, rfl⟩
  refine sx_assertTo Try.underlying49 rfl rfl ?_
  refine sx_assign rfl rfl ?_
  refine sx_nil (hZ _ _ ?_)
  refine awp_forget [(2, _)] (Kn.cons rfl (Kn.nil)) ?_
  refine awp_ret ?_
  repeat (with_reducible (first | refine nx_then_ret ?_ | refine nx_block_ret ?_))
  exact nx_ret1 rfl rfl ⟨b', rfl, rfl⟩
theorem fork_fn (g b : Nat) (most : Int) (s : CS) : Fn Try.prog 17 [ptr g 0] (cacheH g b most s) fun v H' => ∃ g' b', v = ptr g' 0 ∧ H' = cacheH g' b' most s ++ cacheH g b most s := by
  refine Fn.enter (N := 15) Try.func17 rfl (by kernel_rfl) rfl (fun w0 => ?_)

  refine awp_seq_region (fun Z hZ => ?_)
  refine sx_assign rfl rfl ?_
  refine sx_nil (hZ _ _ ?_)
  refine awp_forget [(0, _)] (Kn.cons rfl (Kn.nil)) ?_
  refine awp_seq ?_
  refine awp_seq_region (fun Z hZ => ?_)
  refine sx_move rfl rfl ?_
  refine sx_ptrNil Try.underlying23 rfl rfl ?_
  refine sx_nil (hZ _ _ ?_)
  refine awp_forget [(0, _), (5, _)] (Kn.cons rfl (Kn.cons rfl (Kn.nil))) ?_
  first | refine awp_cond rfl (fun h => ?_) (fun h => ?_) | refine awp_seq (awp_cond rfl (fun h => ?_) (fun h => ?_))
  · cases h
  refine awp_skip ?_
  repeat (with_reducible refine nx_block_normal ?_)
  with_reducible refine nx_normal ?_
  refine awp_seq_region (fun Z hZ => ?_)
  refine sx_move rfl rfl ?_
  refine sx_nilCheck rfl rfl ?_
  first | refine sx_loadA 0 rfl rfl tyA51 tyS51 (by first | (simp only [List.length_cons, List.length_nil, Nat.reduceAdd, Nat.zero_add, Nat.add_zero]; first | done | rfl) | rfl) (by first | (simp only [List.take_succ_cons, List.take_zero, List.drop_succ_cons, List.drop_zero, List.cons_append, List.nil_append, List.append_nil, List.length_cons, List.length_nil, Nat.reduceAdd, Nat.zero_add, Nat.add_zero, Value.cells, wrV]; first | done | rfl) | rfl) rfl ?_ | refine sx_loadA 1 rfl rfl tyA51 tyS51 (by first | (simp only [List.length_cons, List.length_nil, Nat.reduceAdd, Nat.zero_add, Nat.add_zero]; first | done | rfl) | rfl) (by first | (simp only [List.take_succ_cons, List.take_zero, List.drop_succ_cons, List.drop_zero, List.cons_append, List.nil_append, List.append_nil, List.length_cons, List.length_nil, Nat.reduceAdd, Nat.zero_add, Nat.add_zero, Value.cells, wrV]; first | done | rfl) | rfl) rfl ?_
  refine sx_alloc tyZ51 rfl (fun g1 => ?_)
  first | refine sx_store 0 rfl rfl rfl tyS51 (by first | (simp only [Value.cells]; first | done | rfl) | rfl) rfl rfl (by first | (simp only [List.length_cons, List.length_nil, Nat.reduceAdd, Nat.zero_add, Nat.add_zero]; first | done | rfl) | rfl) (by first | (simp only [List.take_succ_cons, List.take_zero, List.drop_succ_cons, List.drop_zero, List.cons_append, List.nil_append, List.append_nil, List.length_cons, List.length_nil, Nat.reduceAdd, Nat.zero_add, Nat.add_zero, Value.cells, wrV]; first | done | rfl) | rfl) (by first | (simp only [List.set_cons_succ, List.set_cons_zero]; first | done | rfl) | rfl) ?_ | refine sx_store 1 rfl rfl rfl tyS51 (by first | (simp only [Value.cells]; first | done | rfl) | rfl) rfl rfl (by first | (simp only [List.length_cons, List.length_nil, Nat.reduceAdd, Nat.zero_add, Nat.add_zero]; first | done | rfl) | rfl) (by first | (simp only [List.take_succ_cons, List.take_zero, List.drop_succ_cons, List.drop_zero, List.cons_append, List.nil_append, List.append_nil, List.length_cons, List.length_nil, Nat.reduceAdd, Nat.zero_add, Nat.add_zero, Value.cells, wrV]; first | done | rfl) | rfl) (by first | (simp only [List.set_cons_succ, List.set_cons_zero]; first | done | rfl) | rfl) ?_ | refine sx_store 2 rfl rfl rfl tyS51 (by first | (simp only [Value.cells]; first | done | rfl) | rfl) rfl rfl (by first | (simp only [List.length_cons, List.length_nil, Nat.reduceAdd, Nat.zero_add, Nat.add_zero]; first | done | rfl) | rfl) (by first | (simp only [List.take_succ_cons, List.take_zero, List.drop_succ_cons, List.drop_zero, List.cons_append, List.nil_append, List.append_nil, List.length_cons, List.length_nil, Nat.reduceAdd, Nat.zero_add, Nat.add_zero, Value.cells, wrV]; first | done | rfl) | rfl) (by first | (simp only [List.set_cons_succ, List.set_cons_zero]; first | done | rfl) | rfl) ?_
  refine sx_nil (hZ _ _ ?_)
  refine awp_forget [(0, _), (3, _)] (Kn.cons rfl (Kn.cons rfl (Kn.nil))) ?_

  refine awp_seq_region (fun Z hZ => ?_)
  refine sx_move rfl rfl ?_
  refine sx_nilCheck rfl rfl ?_
  refine sx_fieldAddr rfl tyF51_1 (by first | (simp only [Nat.reduceAdd, Nat.add_zero, Nat.zero_add]; first | done | rfl) | rfl) rfl ?_
  first | refine sx_load 0 rfl rfl tyA49 tyS49 rfl rfl ?_ | refine sx_load 1 rfl rfl tyA49 tyS49 rfl rfl ?_ | refine sx_load 2 rfl rfl tyA49 tyS49 rfl rfl ?_
  refine sx_callA [mapE encK encV b s.M] [] [_, _] (by rw [List.append_nil]; exact clone_fn b s.M) rfl (HLe.pick [2, 0, 1] (by simp) rfl) (List.nil_sublist _) Ro.nil rfl ?_
  rintro v H' ⟨b', rfl, rfl⟩
  refine sx_heap [_, mapE encK encV b' s.M, _, mapE encK encV b s.M] (HLe.pick [2, 0, 3, 1] (by simp) rfl) ?_
  refine sx_fieldAddr rfl tyF51_1 (by first | (simp only [Nat.reduceAdd, Nat.add_zero, Nat.zero_add]; first | done | rfl) | rfl) rfl ?_
  first | refine sx_store1 0 rfl rfl rfl tyS49 rfl (by first | (simp only [List.length_cons, List.length_nil, Nat.reduceAdd, Nat.zero_add, Nat.add_zero]; first | done | rfl) | rfl) (by first | (simp only [List.set_cons_succ, List.set_cons_zero, Nat.reduceAdd, Nat.add_zero, Nat.zero_add]; first | done | rfl) | rfl) (by first | (simp only [List.set_cons_succ, List.set_cons_zero]; first | done | rfl) | rfl) ?_ | refine sx_store1 1 rfl rfl rfl tyS49 rfl (by first | (simp only [List.length_cons, List.length_nil, Nat.reduceAdd, Nat.zero_add, Nat.add_zero]; first | done | rfl) | rfl) (by first | (simp only [List.set_cons_succ, List.set_cons_zero, Nat.reduceAdd, Nat.add_zero, Nat.zero_add]; first | done | rfl) | rfl) (by first | (simp only [List.set_cons_succ, List.set_cons_zero]; first | done | rfl) | rfl) ?_ | refine sx_store1 2 rfl rfl rfl tyS49 rfl (by first | (simp only [List.length_cons, List.length_nil, Nat.reduceAdd, Nat.zero_add, Nat.add_zero]; first | done | rfl) | rfl) (by first | (simp only [List.set_cons_succ, List.set_cons_zero, Nat.reduceAdd, Nat.add_zero, Nat.zero_add]; first | done | rfl) | rfl) (by first | (simp only [List.set_cons_succ, List.set_cons_zero]; first | done | rfl) | rfl) ?_
  refine sx_nil (hZ _ _ ?_)
  refine awp_forget [(3, _)] (Kn.cons rfl (Kn.nil)) ?_
  refine awp_seq_region (fun Z hZ => ?_)
  refine sx_assign rfl rfl ?_
  refine sx_nil (hZ _ _ ?_)
  refine awp_forget [(2, _)] (Kn.cons rfl (Kn.nil)) ?_
  refine awp_ret ?_
  repeat (with_reducible (first | refine nx_then_ret ?_ | refine nx_block_ret ?_))
  exact nx_ret1 rfl rfl ⟨g1, b', rfl, rfl⟩
theorem HLe.dup {H T : Heap} (hT : T.Sublist H) (hro : Ro T) : HLe (H ++ T) H := fun _ _ _ h =>
  ⟨h.only, fun e he => (List.mem_append.1 he).elim (h.ents e) (fun he => h.ents e (hT.subset he)), List.pairwise_append.2 ⟨h.sep, h.sep.sublist hT, fun a ha b hb => apart_any h ha (hT.subset hb) (hro b hb)⟩⟩
end Go.Proofs.Ytoadkdlhbmmdlaa
