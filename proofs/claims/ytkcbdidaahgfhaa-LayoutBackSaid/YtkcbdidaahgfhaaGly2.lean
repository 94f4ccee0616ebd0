/- Whether two arrays are the same. No conditions. What the laws of layout share: sameness; the small example. No conditions. How an array of plain things reads. No conditions. Arguments of the laws of layout. No conditions. -/
import Derived.Test.YtkcbdidaahgfhaaSxN
import Derived.Test.YtkcbdidaahgfhaaGly1
import Derived.Test.YtkcbdidaahgfhaaHd12
import Derived.Test.YtkcbdidaahgfhaaOpen3
namespace Go.Proofs.Ytkcbdidaahgfhaa
open Go.RowKit
set_option linter.unusedVariables false
set_option linter.unusedSimpArgs false
set_option linter.unusedSectionVars false
inductive EqA (P : Program) (d : Nat) (e : TypeId) (ag : Bool) (n : Nat) (xs ys : List Value) : List Nat → Bool → Prop
  | nil : EqA P d e ag n xs ys [] true
  | cons {i : Nat} {r : List Nat} {x y : Value} {b c : Bool} (hx : rdV ag n xs (i * n) = some x) (hy : rdV ag n ys (i * n) = some y) (h : EqV P d e x y b) (k : EqA P d e ag n xs ys r c) : EqA P d e ag n xs ys (i :: r) (b && c)
theorem eqA_run {P : Program} {d n : Nat} {e : TypeId} {ag : Bool} {xs ys : List Value} {w : World} (ha : tyAgg P e = some ag) (hs : tySize P e = some n) : ∀ {l : List Nat} {b : Bool}, EqA P d e ag n xs ys l b →
    (forIn (m := Sem) l ((none : Option Bool), ()) fun i __s => do
        let l ← part e xs.toArray (i * n)
        let l1 ← part e ys.toArray (i * n)
        let l2 ← Op.equalIn d e l l1
        if (!l2) = true then pure (ForInStep.done (some false, ())) else pure (ForInStep.yield (none, ()))).run P w = .ok (if b then (none, ()) else (some false, ())) w
  | [], _, .nil => by simp
  | i :: r, _, .cons (b := b) (c := c) hx hy h k => by
    rw [List.forIn_cons]
    simp only [Sem.run_bind, run_part ha hs hx, run_part ha hs hy, Result.andThen_ok, h w]
    cases b with
    | false => simp
    | true => simpa using eqA_run ha hs k
theorem EqV.array {P : Program} {d len n : Nat} {t e : TypeId} {ag : Bool} {xs ys : List Value} {b : Bool} (ht : P.underlying t = some (.array len e)) (ha : tyAgg P e = some ag) (hs : tySize P e = some n) (h : EqA P d e ag n xs ys (List.range len) b) : EqV P (d + 1) t (.agg xs.toArray) (.agg ys.toArray) b := fun w => by
  have := eqA_run (P := P) (w := w) ha hs h
  unfold Op.equalIn
  simp only [Sem.run_bind, run_underlying ht, Result.andThen_ok, run_sizeOf hs, Std.Legacy.Range.forIn_eq_forIn_range', Std.Legacy.Range.size, Nat.sub_zero, Nat.add_one_sub_one, Nat.div_one]
  rw [← List.range_eq_range', this]
  cases b <;> simp
theorem EqV.string {P : Program} {d : Nat} {t : TypeId} {l m : List UInt8} (ht : P.underlying t = some .string) : EqV P (d + 1) t (.string (str l)) (.string (str m)) (l == m) := fun w => by
  have e : (str l == str m) = (l == m) := by
    show ((str l).data == (str m).data) = _
    rw [Bool.eq_iff_iff]
    simp [str]
  unfold Op.equalIn
  simp [Sem.run_bind, run_underlying ht, e]
end Go.Proofs.Ytkcbdidaahgfhaa

namespace Go.Proofs.Ytkcbdidaahgfhaa
open Go.RowKit
set_option linter.unusedVariables false
set_option linter.unusedSimpArgs false
theorem EqV.of {P : Program} {d : Nat} {t : TypeId} {x y : Value} {b c : Bool} (h : EqV P d t x y b) (e : b = c) : EqV P d t x y c := e ▸ h
theorem sec_same (a b : Nat) : EqV Try.prog 10000 29 (.agg #[uq a, uq b]) (.agg #[uq a, uq b]) true :=
  EqV.of (EqV.struct Try.underlying29 (by kernel_rfl) (.cons rfl tyA22 tyS22 rfl rfl (EqV.int Try.underlying22) (.cons rfl tyA22 tyS22 rfl rfl (EqV.int Try.underlying22) .nil))) (by simp)
theorem sec_same9 (a b : Nat) : EqV Try.prog 9999 29 (.agg #[uq a, uq b]) (.agg #[uq a, uq b]) true :=
  EqV.of (EqV.struct Try.underlying29 (by kernel_rfl) (.cons rfl tyA22 tyS22 rfl rfl (EqV.int Try.underlying22) (.cons rfl tyA22 tyS22 rfl rfl (EqV.int Try.underlying22) .nil))) (by simp)
theorem sec4_same (p0 q0 p1 q1 p2 q2 p3 q3 : Nat) : EqV Try.prog 10000 30 (.agg (sec8 p0 q0 p1 q1 p2 q2 p3 q3).toArray) (.agg (sec8 p0 q0 p1 q1 p2 q2 p3 q3).toArray) true :=
  EqV.of (EqV.array Try.underlying30 tyA29 tyS29 (.cons (i := 0) rfl rfl (sec_same9 p0 q0) (.cons (i := 1) rfl rfl (sec_same9 p1 q1) (.cons (i := 2) rfl rfl (sec_same9 p2 q2) (.cons (i := 3) rfl rfl (sec_same9 p3 q3) .nil))))) rfl
theorem str4_same (p : P4) : EqV Try.prog 10000 44 (.agg p.cells.toArray) (.agg p.cells.toArray) true :=
  EqV.of (EqV.array Try.underlying44 tyA9 tyS9 (.cons (i := 0) rfl rfl (EqV.string Try.underlying9) (.cons (i := 1) rfl rfl (EqV.string Try.underlying9) (.cons (i := 2) rfl rfl (EqV.string Try.underlying9) (.cons (i := 3) rfl rfl (EqV.string Try.underlying9) .nil))))) (by simp)
theorem guard_sec : Program.eqGuardType Try.prog Try.prog.depth 29 = false := by kernel_rfl
theorem guard_sec4 : Program.eqGuardType Try.prog Try.prog.depth 30 = false := by kernel_rfl
theorem guard_str4 : Program.eqGuardType Try.prog Try.prog.depth 44 = false := by kernel_rfl
section
variable {P : Program} {N : Nat} {w0 : World} {Wr : List Nat} {ops : Array Oper} {rest : List Oper} {fr : Fr} {H : Heap} {Z : Fr → Heap → Prop}
variable {d ty : Nat} {pos : String} {after : Array Edge}
theorem sx_min {t t' : TypeId} {x y : Operand} {k : IntKind} {m n : Int} (hx : ev fr x = some (.int k m)) (hy : ev fr y = some (.int k n)) (r : Int) (hr : min m n = r) (hN : Nat.ble (d + 1) N = true)
    (h : sx P N w0 Wr ops rest ((d, .int k r) :: fr) H Z) : sx P N w0 Wr ops (⟨some d, .call { callee := .builtin .min, args := #[x, y], argTypes := #[t, t'] }, ty, pos, after, none⟩ :: rest) fr H Z :=
  sx_val _ hN (fun a w ha _ => by
    subst hr
    have e1 := ha.eval hx
    have e2 := ha.eval hy
    simp [execOp, resolve, invoke, builtin, e1, e2, Sem.run_bind, Builtin.min_, Builtin.min2]
    try (rw [Int.min_def]; split <;> split <;> simp_all <;> omega)) h
end
def awA : Hdr := ⟨0, 0, 0, 0, 0, 0, 0, 0, 0, 0, 0, false, 0, 0, 1, 0, 0, 0, 0, 0, 0, 0, 0, 0⟩
def awB : Hdr := ⟨0, 0, 0, 0, 0, 0, 0, 0, 0, 0, 0, false, 0, 0, 2, 0, 0, 0, 0, 0, 0, 0, 0, 0⟩
def awP : P4 := ⟨[114, 111], [109], [], [100, 97, 116, 97]⟩
def awH : Hdr := ⟨127, 2, 129, 1, 130, 0, 130, 4, 0, 0, 0, false, 0, 0, 1, 0, 0, 0, 0, 0, 0, 0, 0, 0⟩
def awS : List UInt8 := encV awH ++ [114, 111, 109, 100, 97, 116, 97]
theorem ly_glue : glueH awA awP = awH := rfl
theorem ly_chk : checkV awH = 0 := by kernel_rfl
theorem ly_str : glueS awA awP = awS := by
  unfold glueS
  rw [ly_glue, ly_chk, if_pos rfl]
  rfl
theorem ly_len0 : (encV awH).length = 127 := by kernel_rfl
theorem ly_len : awS.length = 134 := by unfold awS; rw [List.length_append, ly_len0]; rfl
theorem ly_cutE : cutE awS = 0 := by kernel_rfl
theorem ly_cutH : cutH awS = awH := by kernel_rfl
theorem ly_cutP : cutP awS = awP := by kernel_rfl
theorem ly_cutS : cutE (awS.take 133) = 8 := by kernel_rfl
theorem awA_ok : awA.Ok := by constructor <;> decide
theorem awP_ok : awP.Ok := by constructor <;> decide
theorem ly_sec : secC 25 2 0 9 = sec8 127 25 152 2 154 0 154 9 ∧ secN 25 2 0 9 = 163 ∧ secE 25 2 0 9 = 0 := by
  have : secOk 25 2 0 9 = true := rfl
  obtain ⟨h1, h2, h3⟩ := secC_ok this
  exact ⟨h1, h3, h2⟩
theorem ly_secE : secE 1099511627776 0 0 0 = 8 ∧ secC 1099511627776 0 0 0 = zero8 := ⟨rfl, rfl⟩
theorem awake_fn : Fn Try.prog 13 [] [] fun v _ => v = .bool true := by
  refine Fn.enter (N := 118) Try.func13 rfl (by kernel_rfl) rfl (fun w0 => ?_)

  refine awp_seq_region (fun Z hZ => ?_)
  refine sx_assign rfl rfl ?_
  refine sx_nil (hZ _ _ ?_)
  refine awp_forget [] (Kn.nil) ?_
  refine awp_seq_region (fun Z hZ => ?_)
  refine sx_buildA tyZ23 Try.underlying23 tyS22 rfl rfl (by first | (simp only [List.take_succ_cons, List.take_zero, List.drop_succ_cons, List.drop_zero, List.cons_append, List.nil_append, List.append_nil, List.length_cons, List.length_nil, Nat.reduceAdd, Nat.zero_add, Nat.add_zero, Value.cells, wrV, zrep_one, List.replicate_succ, List.replicate_zero, Nat.reduceMul, Nat.zero_mul]; first | done | rfl) | rfl) rfl ?_
  refine sx_callP (sections_fn 25 2 0 9 (by omega)) rfl rfl ?_
  rw [ly_sec.1, ly_sec.2.1, ly_sec.2.2]
  refine sx_move rfl rfl ?_
  refine sx_extract rfl rfl rfl ?_
  refine sx_extract rfl rfl rfl ?_
  refine sx_extract rfl rfl rfl ?_
  refine sx_alloc tyZ30 rfl (fun g1 => ?_)
  first | refine sx_store 0 rfl rfl rfl tyS30 (by first | (simp only [Value.cells]; first | done | rfl) | rfl) rfl rfl (by first | (simp only [List.length_cons, List.length_nil, Nat.reduceAdd, Nat.zero_add, Nat.add_zero]; first | done | rfl) | rfl) (by first | (simp only [List.take_succ_cons, List.take_zero, List.drop_succ_cons, List.drop_zero, List.cons_append, List.nil_append, List.append_nil, List.length_cons, List.length_nil, Nat.reduceAdd, Nat.zero_add, Nat.add_zero, Value.cells, wrV]; first | done | rfl) | rfl) (by first | (simp only [List.set_cons_succ, List.set_cons_zero]; first | done | rfl) | rfl) ?_
  refine sx_assign rfl rfl ?_
  refine sx_assign rfl rfl ?_
  refine sx_nil (hZ _ _ ?_)
  refine awp_forget [(1, _), (2, _), (3, _)] (Kn.cons rfl (Kn.cons rfl (Kn.cons rfl (Kn.nil)))) ?_

  refine awp_seq_region (fun Z hZ => ?_)
  refine sx_buildA tyZ23 Try.underlying23 tyS22 rfl rfl (by first | (simp only [List.take_succ_cons, List.take_zero, List.drop_succ_cons, List.drop_zero, List.cons_append, List.nil_append, List.append_nil, List.length_cons, List.length_nil, Nat.reduceAdd, Nat.zero_add, Nat.add_zero, Value.cells, wrV, zrep_one, List.replicate_succ, List.replicate_zero, Nat.reduceMul, Nat.zero_mul]; first | done | rfl) | rfl) rfl ?_
  refine sx_callP (sections_fn 1099511627776 0 0 0 (by omega)) rfl rfl ?_
  rw [ly_secE.1, ly_secE.2]
  refine sx_move rfl rfl ?_
  refine sx_extract rfl rfl rfl ?_
  refine sx_extract rfl rfl rfl ?_
  refine sx_extract rfl rfl rfl ?_
  refine sx_alloc tyZ30 rfl (fun g2 => ?_)
  first | refine sx_store 0 rfl rfl rfl tyS30 (by first | (simp only [Value.cells]; first | done | rfl) | rfl) rfl rfl (by first | (simp only [List.length_cons, List.length_nil, Nat.reduceAdd, Nat.zero_add, Nat.add_zero]; first | done | rfl) | rfl) (by first | (simp only [List.take_succ_cons, List.take_zero, List.drop_succ_cons, List.drop_zero, List.cons_append, List.nil_append, List.append_nil, List.length_cons, List.length_nil, Nat.reduceAdd, Nat.zero_add, Nat.add_zero, Value.cells, wrV]; first | done | rfl) | rfl) (by first | (simp only [List.set_cons_succ, List.set_cons_zero]; first | done | rfl) | rfl) ?_ | refine sx_store 1 rfl rfl rfl tyS30 (by first | (simp only [Value.cells]; first | done | rfl) | rfl) rfl rfl (by first | (simp only [List.length_cons, List.length_nil, Nat.reduceAdd, Nat.zero_add, Nat.add_zero]; first | done | rfl) | rfl) (by first | (simp only [List.take_succ_cons, List.take_zero, List.drop_succ_cons, List.drop_zero, List.cons_append, List.nil_append, List.append_nil, List.length_cons, List.length_nil, Nat.reduceAdd, Nat.zero_add, Nat.add_zero, Value.cells, wrV]; first | done | rfl) | rfl) (by first | (simp only [List.set_cons_succ, List.set_cons_zero]; first | done | rfl) | rfl) ?_
  refine sx_assign rfl rfl ?_
  refine sx_assign rfl rfl ?_
  refine sx_nil (hZ _ _ ?_)
  refine awp_forget [(1, _), (2, _), (3, _), (6, _)] (Kn.cons rfl (Kn.cons rfl (Kn.cons rfl (Kn.cons rfl (Kn.nil))))) ?_
  refine awp_heap [.own g1 30 (sec8 127 25 152 2 154 0 154 9)] (HLe.pick [1] (by simp) rfl) ?_

  refine awp_seq_region (fun Z hZ => ?_)
  refine sx_build (cs := awA.cells) tyZ38 tyP38 rfl (by kernel_rfl) rfl rfl ?_
  refine sx_buildA (cs := awP.cells) tyZ44 Try.underlying44 tyS9 rfl (by kernel_rfl) rfl rfl ?_
  refine sx_callP (glue_fn awA awA_ok awP awP_ok) rfl rfl ?_
  rw [ly_str, ly_glue, ly_chk]
  refine sx_move rfl rfl ?_
  refine sx_extract rfl rfl rfl ?_
  refine sx_extract rfl rfl rfl ?_
  refine sx_assign rfl rfl ?_
  refine sx_assign rfl rfl ?_
  refine sx_nil (hZ _ _ ?_)
  refine awp_forget [(1, _), (2, _), (3, _), (6, _), (7, _), (8, _)] (Kn.cons rfl (Kn.cons rfl (Kn.cons rfl (Kn.cons rfl (Kn.cons rfl (Kn.cons rfl (Kn.nil))))))) ?_
  refine awp_seq_region (fun Z hZ => ?_)
  refine sx_move rfl rfl ?_
  refine sx_callP (cut_fn awS (by rw [ly_len]; omega)) rfl rfl ?_
  rw [ly_cutE, ly_cutH, ly_cutP]
  refine sx_move rfl rfl ?_
  refine sx_extract rfl rfl rfl ?_
  refine sx_extract rfl rfl rfl ?_
  refine sx_extract rfl rfl rfl ?_
  refine sx_alloc tyZ38 rfl (fun g3 => ?_)
  refine sx_alloc tyZ44 rfl (fun g4 => ?_)
  first | refine sx_store 0 rfl rfl rfl tyS38 (by first | (simp only [Value.cells]; first | done | rfl) | rfl) rfl rfl (by first | (simp only [List.length_cons, List.length_nil, Nat.reduceAdd, Nat.zero_add, Nat.add_zero]; first | done | rfl) | rfl) (by first | (simp only [List.take_succ_cons, List.take_zero, List.drop_succ_cons, List.drop_zero, List.cons_append, List.nil_append, List.append_nil, List.length_cons, List.length_nil, Nat.reduceAdd, Nat.zero_add, Nat.add_zero, Value.cells, wrV]; first | done | rfl) | rfl) (by first | (simp only [List.set_cons_succ, List.set_cons_zero]; first | done | rfl) | rfl) ?_ | refine sx_store 1 rfl rfl rfl tyS38 (by first | (simp only [Value.cells]; first | done | rfl) | rfl) rfl rfl (by first | (simp only [List.length_cons, List.length_nil, Nat.reduceAdd, Nat.zero_add, Nat.add_zero]; first | done | rfl) | rfl) (by first | (simp only [List.take_succ_cons, List.take_zero, List.drop_succ_cons, List.drop_zero, List.cons_append, List.nil_append, List.append_nil, List.length_cons, List.length_nil, Nat.reduceAdd, Nat.zero_add, Nat.add_zero, Value.cells, wrV]; first | done | rfl) | rfl) (by first | (simp only [List.set_cons_succ, List.set_cons_zero]; first | done | rfl) | rfl) ?_ | refine sx_store 2 rfl rfl rfl tyS38 (by first | (simp only [Value.cells]; first | done | rfl) | rfl) rfl rfl (by first | (simp only [List.length_cons, List.length_nil, Nat.reduceAdd, Nat.zero_add, Nat.add_zero]; first | done | rfl) | rfl) (by first | (simp only [List.take_succ_cons, List.take_zero, List.drop_succ_cons, List.drop_zero, List.cons_append, List.nil_append, List.append_nil, List.length_cons, List.length_nil, Nat.reduceAdd, Nat.zero_add, Nat.add_zero, Value.cells, wrV]; first | done | rfl) | rfl) (by first | (simp only [List.set_cons_succ, List.set_cons_zero]; first | done | rfl) | rfl) ?_
  first | refine sx_store 0 rfl rfl rfl tyS44 (by first | (simp only [Value.cells]; first | done | rfl) | rfl) rfl rfl (by first | (simp only [List.length_cons, List.length_nil, Nat.reduceAdd, Nat.zero_add, Nat.add_zero]; first | done | rfl) | rfl) (by first | (simp only [List.take_succ_cons, List.take_zero, List.drop_succ_cons, List.drop_zero, List.cons_append, List.nil_append, List.append_nil, List.length_cons, List.length_nil, Nat.reduceAdd, Nat.zero_add, Nat.add_zero, Value.cells, wrV]; first | done | rfl) | rfl) (by first | (simp only [List.set_cons_succ, List.set_cons_zero]; first | done | rfl) | rfl) ?_ | refine sx_store 1 rfl rfl rfl tyS44 (by first | (simp only [Value.cells]; first | done | rfl) | rfl) rfl rfl (by first | (simp only [List.length_cons, List.length_nil, Nat.reduceAdd, Nat.zero_add, Nat.add_zero]; first | done | rfl) | rfl) (by first | (simp only [List.take_succ_cons, List.take_zero, List.drop_succ_cons, List.drop_zero, List.cons_append, List.nil_append, List.append_nil, List.length_cons, List.length_nil, Nat.reduceAdd, Nat.zero_add, Nat.add_zero, Value.cells, wrV]; first | done | rfl) | rfl) (by first | (simp only [List.set_cons_succ, List.set_cons_zero]; first | done | rfl) | rfl) ?_ | refine sx_store 2 rfl rfl rfl tyS44 (by first | (simp only [Value.cells]; first | done | rfl) | rfl) rfl rfl (by first | (simp only [List.length_cons, List.length_nil, Nat.reduceAdd, Nat.zero_add, Nat.add_zero]; first | done | rfl) | rfl) (by first | (simp only [List.take_succ_cons, List.take_zero, List.drop_succ_cons, List.drop_zero, List.cons_append, List.nil_append, List.append_nil, List.length_cons, List.length_nil, Nat.reduceAdd, Nat.zero_add, Nat.add_zero, Value.cells, wrV]; first | done | rfl) | rfl) (by first | (simp only [List.set_cons_succ, List.set_cons_zero]; first | done | rfl) | rfl) ?_
  refine sx_assign rfl rfl ?_
  refine sx_nil (hZ _ _ ?_)
  refine awp_forget [(1, _), (2, _), (3, _), (6, _), (7, _), (8, _), (9, _), (10, _), (11, _)] (Kn.cons rfl (Kn.cons rfl (Kn.cons rfl (Kn.cons rfl (Kn.cons rfl (Kn.cons rfl (Kn.cons rfl (Kn.cons rfl (Kn.cons rfl (Kn.nil)))))))))) ?_
  refine awp_heap [.own g4 44 awP.cells, .own g3 38 awH.cells, .own g1 30 (sec8 127 25 152 2 154 0 154 9)] (HLe.refl _) ?_

  refine awp_seq_region (fun Z hZ => ?_)
  refine sx_move rfl rfl ?_
  refine sx_move rfl rfl ?_
  first | refine sx_len Try.underlying9 rfl rfl ?_ | refine sx_lenS Try.underlying9 rfl rfl ?_
  refine sx_move rfl rfl ?_
  first | refine sx_len Try.underlying9 rfl rfl ?_ | refine sx_lenS Try.underlying9 rfl rfl ?_
  refine sx_min rfl rfl 1 (by rw [ly_len]; rfl) rfl ?_
  refine sx_sub rfl rfl 133 (by rw [ly_len]; rfl) rfl ?_
  refine sx_sliceS (awS.take 133) Try.underlying9 rfl rfl rfl (by omega) (by omega) (by rw [ly_len]; omega) (by simp) rfl ?_
  refine sx_callP (cut_fn (awS.take 133) (by simp; omega)) rfl rfl ?_
  rw [ly_cutS]
  refine sx_move rfl rfl ?_
  refine sx_extract rfl rfl rfl ?_
  refine sx_extract rfl rfl rfl ?_
  refine sx_extract rfl rfl rfl ?_
  refine sx_alloc tyZ38 rfl (fun g5 => ?_)
  refine sx_alloc tyZ44 rfl (fun g6 => ?_)
  first | refine sx_store 0 rfl rfl rfl tyS38 (by first | (simp only [Value.cells]; first | done | rfl) | rfl) rfl rfl (by first | (simp only [List.length_cons, List.length_nil, Nat.reduceAdd, Nat.zero_add, Nat.add_zero]; first | done | rfl) | rfl) (by first | (simp only [List.take_succ_cons, List.take_zero, List.drop_succ_cons, List.drop_zero, List.cons_append, List.nil_append, List.append_nil, List.length_cons, List.length_nil, Nat.reduceAdd, Nat.zero_add, Nat.add_zero, Value.cells, wrV]; first | done | rfl) | rfl) (by first | (simp only [List.set_cons_succ, List.set_cons_zero]; first | done | rfl) | rfl) ?_ | refine sx_store 1 rfl rfl rfl tyS38 (by first | (simp only [Value.cells]; first | done | rfl) | rfl) rfl rfl (by first | (simp only [List.length_cons, List.length_nil, Nat.reduceAdd, Nat.zero_add, Nat.add_zero]; first | done | rfl) | rfl) (by first | (simp only [List.take_succ_cons, List.take_zero, List.drop_succ_cons, List.drop_zero, List.cons_append, List.nil_append, List.append_nil, List.length_cons, List.length_nil, Nat.reduceAdd, Nat.zero_add, Nat.add_zero, Value.cells, wrV]; first | done | rfl) | rfl) (by first | (simp only [List.set_cons_succ, List.set_cons_zero]; first | done | rfl) | rfl) ?_ | refine sx_store 2 rfl rfl rfl tyS38 (by first | (simp only [Value.cells]; first | done | rfl) | rfl) rfl rfl (by first | (simp only [List.length_cons, List.length_nil, Nat.reduceAdd, Nat.zero_add, Nat.add_zero]; first | done | rfl) | rfl) (by first | (simp only [List.take_succ_cons, List.take_zero, List.drop_succ_cons, List.drop_zero, List.cons_append, List.nil_append, List.append_nil, List.length_cons, List.length_nil, Nat.reduceAdd, Nat.zero_add, Nat.add_zero, Value.cells, wrV]; first | done | rfl) | rfl) (by first | (simp only [List.set_cons_succ, List.set_cons_zero]; first | done | rfl) | rfl) ?_ | refine sx_store 3 rfl rfl rfl tyS38 (by first | (simp only [Value.cells]; first | done | rfl) | rfl) rfl rfl (by first | (simp only [List.length_cons, List.length_nil, Nat.reduceAdd, Nat.zero_add, Nat.add_zero]; first | done | rfl) | rfl) (by first | (simp only [List.take_succ_cons, List.take_zero, List.drop_succ_cons, List.drop_zero, List.cons_append, List.nil_append, List.append_nil, List.length_cons, List.length_nil, Nat.reduceAdd, Nat.zero_add, Nat.add_zero, Value.cells, wrV]; first | done | rfl) | rfl) (by first | (simp only [List.set_cons_succ, List.set_cons_zero]; first | done | rfl) | rfl) ?_ | refine sx_store 4 rfl rfl rfl tyS38 (by first | (simp only [Value.cells]; first | done | rfl) | rfl) rfl rfl (by first | (simp only [List.length_cons, List.length_nil, Nat.reduceAdd, Nat.zero_add, Nat.add_zero]; first | done | rfl) | rfl) (by first | (simp only [List.take_succ_cons, List.take_zero, List.drop_succ_cons, List.drop_zero, List.cons_append, List.nil_append, List.append_nil, List.length_cons, List.length_nil, Nat.reduceAdd, Nat.zero_add, Nat.add_zero, Value.cells, wrV]; first | done | rfl) | rfl) (by first | (simp only [List.set_cons_succ, List.set_cons_zero]; first | done | rfl) | rfl) ?_
  first | refine sx_store 0 rfl rfl rfl tyS44 (by first | (simp only [Value.cells]; first | done | rfl) | rfl) rfl rfl (by first | (simp only [List.length_cons, List.length_nil, Nat.reduceAdd, Nat.zero_add, Nat.add_zero]; first | done | rfl) | rfl) (by first | (simp only [List.take_succ_cons, List.take_zero, List.drop_succ_cons, List.drop_zero, List.cons_append, List.nil_append, List.append_nil, List.length_cons, List.length_nil, Nat.reduceAdd, Nat.zero_add, Nat.add_zero, Value.cells, wrV]; first | done | rfl) | rfl) (by first | (simp only [List.set_cons_succ, List.set_cons_zero]; first | done | rfl) | rfl) ?_ | refine sx_store 1 rfl rfl rfl tyS44 (by first | (simp only [Value.cells]; first | done | rfl) | rfl) rfl rfl (by first | (simp only [List.length_cons, List.length_nil, Nat.reduceAdd, Nat.zero_add, Nat.add_zero]; first | done | rfl) | rfl) (by first | (simp only [List.take_succ_cons, List.take_zero, List.drop_succ_cons, List.drop_zero, List.cons_append, List.nil_append, List.append_nil, List.length_cons, List.length_nil, Nat.reduceAdd, Nat.zero_add, Nat.add_zero, Value.cells, wrV]; first | done | rfl) | rfl) (by first | (simp only [List.set_cons_succ, List.set_cons_zero]; first | done | rfl) | rfl) ?_ | refine sx_store 2 rfl rfl rfl tyS44 (by first | (simp only [Value.cells]; first | done | rfl) | rfl) rfl rfl (by first | (simp only [List.length_cons, List.length_nil, Nat.reduceAdd, Nat.zero_add, Nat.add_zero]; first | done | rfl) | rfl) (by first | (simp only [List.take_succ_cons, List.take_zero, List.drop_succ_cons, List.drop_zero, List.cons_append, List.nil_append, List.append_nil, List.length_cons, List.length_nil, Nat.reduceAdd, Nat.zero_add, Nat.add_zero, Value.cells, wrV]; first | done | rfl) | rfl) (by first | (simp only [List.set_cons_succ, List.set_cons_zero]; first | done | rfl) | rfl) ?_ | refine sx_store 3 rfl rfl rfl tyS44 (by first | (simp only [Value.cells]; first | done | rfl) | rfl) rfl rfl (by first | (simp only [List.length_cons, List.length_nil, Nat.reduceAdd, Nat.zero_add, Nat.add_zero]; first | done | rfl) | rfl) (by first | (simp only [List.take_succ_cons, List.take_zero, List.drop_succ_cons, List.drop_zero, List.cons_append, List.nil_append, List.append_nil, List.length_cons, List.length_nil, Nat.reduceAdd, Nat.zero_add, Nat.add_zero, Value.cells, wrV]; first | done | rfl) | rfl) (by first | (simp only [List.set_cons_succ, List.set_cons_zero]; first | done | rfl) | rfl) ?_ | refine sx_store 4 rfl rfl rfl tyS44 (by first | (simp only [Value.cells]; first | done | rfl) | rfl) rfl rfl (by first | (simp only [List.length_cons, List.length_nil, Nat.reduceAdd, Nat.zero_add, Nat.add_zero]; first | done | rfl) | rfl) (by first | (simp only [List.take_succ_cons, List.take_zero, List.drop_succ_cons, List.drop_zero, List.cons_append, List.nil_append, List.append_nil, List.length_cons, List.length_nil, Nat.reduceAdd, Nat.zero_add, Nat.add_zero, Value.cells, wrV]; first | done | rfl) | rfl) (by first | (simp only [List.set_cons_succ, List.set_cons_zero]; first | done | rfl) | rfl) ?_
  refine sx_assign rfl rfl ?_
  refine sx_nil (hZ _ _ ?_)
  refine awp_forget [(1, _), (2, _), (3, _), (6, _), (7, _), (8, _), (9, _), (10, _), (11, _), (14, _)] (Kn.cons rfl (Kn.cons rfl (Kn.cons rfl (Kn.cons rfl (Kn.cons rfl (Kn.cons rfl (Kn.cons rfl (Kn.cons rfl (Kn.cons rfl (Kn.cons rfl (Kn.nil))))))))))) ?_
  refine awp_heap [.own g4 44 awP.cells, .own g3 38 awH.cells, .own g1 30 (sec8 127 25 152 2 154 0 154 9)] (HLe.pick [2, 3, 4] (by simp) rfl) ?_

  refine awq_seq_meet [(0, .bool true)] [] mixed (by kernel_rfl) (fun Z hZ => ?_) ?_
  · refine sq_move rfl rfl ?_
    first | refine sq_eql rfl rfl rfl ?_ | refine sq_seql rfl rfl rfl ?_
    refine sq_move rfl rfl ?_
    refine sq_force 54 rfl true (by first | (simp [ly_len]; done) | decide) ?_
    refine sq_on rfl rfl rfl ?_
    refine sq_move rfl rfl ?_
    refine sq_on rfl rfl rfl ?_
    first | refine sq_eql rfl rfl rfl ?_ | refine sq_seql rfl rfl rfl ?_
    refine sq_pick rfl rfl rfl ?_
    refine sq_move rfl rfl ?_
    refine sq_force 58 rfl true (by first | (simp [ly_len]; done) | decide) ?_
    refine sq_on rfl rfl rfl ?_
    refine sq_indexAddrA 6 Try.underlying30 tyS29 rfl rfl (by omega) rfl rfl ?_
    refine sq_on rfl rfl rfl ?_
    first | refine sq_loadA 0 rfl rfl tyA29 tyS29 (by first | (simp only [List.length_cons, List.length_nil, Nat.reduceAdd, Nat.zero_add, Nat.add_zero]; first | done | rfl) | rfl) (by first | (simp only [List.take_succ_cons, List.take_zero, List.drop_succ_cons, List.drop_zero, List.cons_append, List.nil_append, List.append_nil, List.length_cons, List.length_nil, Nat.reduceAdd, Nat.zero_add, Nat.add_zero, Value.cells, wrV]; first | done | rfl) | rfl) rfl ?_ | refine sq_loadA 1 rfl rfl tyA29 tyS29 (by first | (simp only [List.length_cons, List.length_nil, Nat.reduceAdd, Nat.zero_add, Nat.add_zero]; first | done | rfl) | rfl) (by first | (simp only [List.take_succ_cons, List.take_zero, List.drop_succ_cons, List.drop_zero, List.cons_append, List.nil_append, List.append_nil, List.length_cons, List.length_nil, Nat.reduceAdd, Nat.zero_add, Nat.add_zero, Value.cells, wrV]; first | done | rfl) | rfl) rfl ?_ | refine sq_loadA 2 rfl rfl tyA29 tyS29 (by first | (simp only [List.length_cons, List.length_nil, Nat.reduceAdd, Nat.zero_add, Nat.add_zero]; first | done | rfl) | rfl) (by first | (simp only [List.take_succ_cons, List.take_zero, List.drop_succ_cons, List.drop_zero, List.cons_append, List.nil_append, List.append_nil, List.length_cons, List.length_nil, Nat.reduceAdd, Nat.zero_add, Nat.add_zero, Value.cells, wrV]; first | done | rfl) | rfl) rfl ?_
    refine sq_on rfl rfl rfl ?_
    refine sq_build tyZ29 tyP29 rfl rfl (by first | (simp only [List.take_succ_cons, List.take_zero, List.drop_succ_cons, List.drop_zero, List.cons_append, List.nil_append, List.append_nil, List.length_cons, List.length_nil, Nat.reduceAdd, Nat.zero_add, Nat.add_zero, Value.cells, wrV, zrep_one, List.replicate_succ, List.replicate_zero, Nat.reduceMul, Nat.zero_mul]; first | done | rfl) | rfl) rfl ?_
    refine sq_on rfl rfl rfl ?_
    refine sq_aeql (sec_same 154 9) guard_sec rfl rfl rfl ?_
    refine sq_pick rfl rfl rfl ?_
    refine sq_move rfl rfl ?_
    refine sq_force 64 rfl true (by first | (simp [ly_len]; done) | decide) ?_
    refine sq_on rfl rfl rfl ?_
    refine sq_indexAddrA 2 Try.underlying30 tyS29 rfl rfl (by omega) rfl rfl ?_
    refine sq_on rfl rfl rfl ?_
    refine sq_fieldAddr rfl tyF29_0 (by first | (simp only [Nat.reduceAdd, Nat.add_zero, Nat.zero_add]; first | done | rfl) | rfl) rfl ?_
    refine sq_on rfl rfl rfl ?_
    first | refine sq_load 0 rfl rfl tyA22 tyS22 rfl rfl ?_ | refine sq_load 1 rfl rfl tyA22 tyS22 rfl rfl ?_ | refine sq_load 2 rfl rfl tyA22 tyS22 rfl rfl ?_
    refine sq_on rfl rfl rfl ?_
    first | refine sq_eql rfl rfl rfl ?_ | refine sq_seql rfl rfl rfl ?_
    refine sq_pick rfl rfl rfl ?_
    refine sq_move rfl rfl ?_
    refine sq_force 70 rfl true (by first | (simp [ly_len]; done) | decide) ?_
    refine sq_on rfl rfl rfl ?_
    refine sq_move rfl rfl ?_
    refine sq_on rfl rfl rfl ?_
    first | refine sq_eql rfl rfl rfl ?_ | refine sq_seql rfl rfl rfl ?_
    refine sq_pick rfl rfl rfl ?_
    refine sq_move rfl rfl ?_
    refine sq_force 74 rfl true (by first | (simp [ly_len]; done) | decide) ?_
    refine sq_on rfl rfl rfl ?_
    refine sq_move rfl rfl ?_
    refine sq_on rfl rfl rfl ?_
    first | refine sq_eql rfl rfl rfl ?_ | refine sq_seql rfl rfl rfl ?_
    refine sq_pick rfl rfl rfl ?_
    refine sq_move rfl rfl ?_
    refine sq_force 78 rfl true (by first | (simp [ly_len]; done) | decide) ?_
    refine sq_on rfl rfl rfl ?_
    refine sq_move rfl rfl ?_
    refine sq_on rfl rfl rfl ?_
    first | refine sq_len Try.underlying9 rfl rfl ?_ | refine sq_lenS Try.underlying9 rfl rfl ?_
    refine sq_on rfl rfl rfl ?_
    refine sq_eql rfl rfl rfl ?_
    refine sq_pick rfl rfl rfl ?_
    refine sq_move rfl rfl ?_
    refine sq_force 83 rfl true (by first | (simp [ly_len]; done) | decide) ?_
    refine sq_on rfl rfl rfl ?_
    refine sq_move rfl rfl ?_
    refine sq_on rfl rfl rfl ?_
    first | refine sq_eql rfl rfl rfl ?_ | refine sq_seql rfl rfl rfl ?_
    refine sq_pick rfl rfl rfl ?_
    refine sq_move rfl rfl ?_
    refine sq_force 87 rfl true (by first | (simp [ly_len]; done) | decide) ?_
    refine sq_on rfl rfl rfl ?_
    first | refine sq_loadA 0 rfl rfl tyA44 tyS44 (by first | (simp only [List.length_cons, List.length_nil, Nat.reduceAdd, Nat.zero_add, Nat.add_zero]; first | done | rfl) | rfl) (by first | (simp only [List.take_succ_cons, List.take_zero, List.drop_succ_cons, List.drop_zero, List.cons_append, List.nil_append, List.append_nil, List.length_cons, List.length_nil, Nat.reduceAdd, Nat.zero_add, Nat.add_zero, Value.cells, wrV]; first | done | rfl) | rfl) rfl ?_ | refine sq_loadA 1 rfl rfl tyA44 tyS44 (by first | (simp only [List.length_cons, List.length_nil, Nat.reduceAdd, Nat.zero_add, Nat.add_zero]; first | done | rfl) | rfl) (by first | (simp only [List.take_succ_cons, List.take_zero, List.drop_succ_cons, List.drop_zero, List.cons_append, List.nil_append, List.append_nil, List.length_cons, List.length_nil, Nat.reduceAdd, Nat.zero_add, Nat.add_zero, Value.cells, wrV]; first | done | rfl) | rfl) rfl ?_ | refine sq_loadA 2 rfl rfl tyA44 tyS44 (by first | (simp only [List.length_cons, List.length_nil, Nat.reduceAdd, Nat.zero_add, Nat.add_zero]; first | done | rfl) | rfl) (by first | (simp only [List.take_succ_cons, List.take_zero, List.drop_succ_cons, List.drop_zero, List.cons_append, List.nil_append, List.append_nil, List.length_cons, List.length_nil, Nat.reduceAdd, Nat.zero_add, Nat.add_zero, Value.cells, wrV]; first | done | rfl) | rfl) rfl ?_
    refine sq_on rfl rfl rfl ?_
    refine sq_buildA (cs := awP.cells) tyZ44 Try.underlying44 tyS9 rfl (by kernel_rfl) rfl rfl ?_
    refine sq_on rfl rfl rfl ?_
    refine sq_aeql (str4_same awP) guard_str4 rfl rfl rfl ?_
    refine sq_pick rfl rfl rfl ?_
    refine sq_move rfl rfl ?_
    refine sq_force 92 rfl true (by first | (simp [ly_len]; done) | decide) ?_
    refine sq_on rfl rfl rfl ?_
    refine sq_fieldAddr rfl tyF38_10 (by first | (simp only [Nat.reduceAdd, Nat.add_zero, Nat.zero_add]; first | done | rfl) | rfl) rfl ?_
    refine sq_on rfl rfl rfl ?_
    first | refine sq_load 0 rfl rfl tyA5 tyS5 rfl rfl ?_ | refine sq_load 1 rfl rfl tyA5 tyS5 rfl rfl ?_ | refine sq_load 2 rfl rfl tyA5 tyS5 rfl rfl ?_
    refine sq_on rfl rfl rfl ?_
    first | refine sq_eql rfl rfl rfl ?_ | refine sq_seql rfl rfl rfl ?_
    refine sq_pick rfl rfl rfl ?_
    refine sq_move rfl rfl ?_
    refine sq_force 97 rfl true (by first | (simp [ly_len]; done) | decide) ?_
    refine sq_on rfl rfl rfl ?_
    refine sq_fieldAddr rfl tyF38_3 (by first | (simp only [Nat.reduceAdd, Nat.add_zero, Nat.zero_add]; first | done | rfl) | rfl) rfl ?_
    refine sq_on rfl rfl rfl ?_
    first | refine sq_loadA 0 rfl rfl tyA29 tyS29 (by first | (simp only [List.length_cons, List.length_nil, Nat.reduceAdd, Nat.zero_add, Nat.add_zero]; first | done | rfl) | rfl) (by first | (simp only [List.take_succ_cons, List.take_zero, List.drop_succ_cons, List.drop_zero, List.cons_append, List.nil_append, List.append_nil, List.length_cons, List.length_nil, Nat.reduceAdd, Nat.zero_add, Nat.add_zero, Value.cells, wrV]; first | done | rfl) | rfl) rfl ?_ | refine sq_loadA 1 rfl rfl tyA29 tyS29 (by first | (simp only [List.length_cons, List.length_nil, Nat.reduceAdd, Nat.zero_add, Nat.add_zero]; first | done | rfl) | rfl) (by first | (simp only [List.take_succ_cons, List.take_zero, List.drop_succ_cons, List.drop_zero, List.cons_append, List.nil_append, List.append_nil, List.length_cons, List.length_nil, Nat.reduceAdd, Nat.zero_add, Nat.add_zero, Value.cells, wrV]; first | done | rfl) | rfl) rfl ?_ | refine sq_loadA 2 rfl rfl tyA29 tyS29 (by first | (simp only [List.length_cons, List.length_nil, Nat.reduceAdd, Nat.zero_add, Nat.add_zero]; first | done | rfl) | rfl) (by first | (simp only [List.take_succ_cons, List.take_zero, List.drop_succ_cons, List.drop_zero, List.cons_append, List.nil_append, List.append_nil, List.length_cons, List.length_nil, Nat.reduceAdd, Nat.zero_add, Nat.add_zero, Value.cells, wrV]; first | done | rfl) | rfl) rfl ?_
    refine sq_on rfl rfl rfl ?_
    refine sq_callP (end_fn 130 4) rfl rfl ?_
    refine sq_on rfl rfl rfl ?_
    first | refine sq_eql rfl rfl rfl ?_ | refine sq_seql rfl rfl rfl ?_
    refine sq_pick rfl rfl rfl ?_
    refine sq_move rfl rfl ?_
    refine sq_force 103 rfl true (by first | (simp [ly_len]; done) | decide) ?_
    refine sq_on rfl rfl rfl ?_
    refine sq_move rfl rfl ?_
    refine sq_on rfl rfl rfl ?_
    first | refine sq_eql rfl rfl rfl ?_ | refine sq_seql rfl rfl rfl ?_
    refine sq_pick rfl rfl rfl ?_
    refine sq_move rfl rfl ?_
    refine sq_force 107 rfl true (by first | (simp [ly_len]; done) | decide) ?_
    refine sq_on rfl rfl rfl ?_
    refine sq_build (cs := awB.cells) tyZ38 tyP38 rfl (by kernel_rfl) rfl rfl ?_
    refine sq_on rfl rfl rfl ?_
    first | refine sq_loadA 0 rfl rfl tyA30 tyS30 (by first | (simp only [List.length_cons, List.length_nil, Nat.reduceAdd, Nat.zero_add, Nat.add_zero]; first | done | rfl) | rfl) (by first | (simp only [List.take_succ_cons, List.take_zero, List.drop_succ_cons, List.drop_zero, List.cons_append, List.nil_append, List.append_nil, List.length_cons, List.length_nil, Nat.reduceAdd, Nat.zero_add, Nat.add_zero, Value.cells, wrV]; first | done | rfl) | rfl) rfl ?_ | refine sq_loadA 1 rfl rfl tyA30 tyS30 (by first | (simp only [List.length_cons, List.length_nil, Nat.reduceAdd, Nat.zero_add, Nat.add_zero]; first | done | rfl) | rfl) (by first | (simp only [List.take_succ_cons, List.take_zero, List.drop_succ_cons, List.drop_zero, List.cons_append, List.nil_append, List.append_nil, List.length_cons, List.length_nil, Nat.reduceAdd, Nat.zero_add, Nat.add_zero, Value.cells, wrV]; first | done | rfl) | rfl) rfl ?_ | refine sq_loadA 2 rfl rfl tyA30 tyS30 (by first | (simp only [List.length_cons, List.length_nil, Nat.reduceAdd, Nat.zero_add, Nat.add_zero]; first | done | rfl) | rfl) (by first | (simp only [List.take_succ_cons, List.take_zero, List.drop_succ_cons, List.drop_zero, List.cons_append, List.nil_append, List.append_nil, List.length_cons, List.length_nil, Nat.reduceAdd, Nat.zero_add, Nat.add_zero, Value.cells, wrV]; first | done | rfl) | rfl) rfl ?_
    refine sq_on rfl rfl rfl ?_
    refine sq_callP (with_fn awB 127 25 152 2 154 0 154 9) rfl rfl ?_
    refine sq_on rfl rfl rfl ?_
    refine sq_field rfl tyF38_0 rfl rfl ?_
    refine sq_on rfl rfl rfl ?_
    refine sq_indexAddrA 0 Try.underlying30 tyS29 rfl rfl (by omega) rfl rfl ?_
    refine sq_on rfl rfl rfl ?_
    first | refine sq_loadA 0 rfl rfl tyA29 tyS29 (by first | (simp only [List.length_cons, List.length_nil, Nat.reduceAdd, Nat.zero_add, Nat.add_zero]; first | done | rfl) | rfl) (by first | (simp only [List.take_succ_cons, List.take_zero, List.drop_succ_cons, List.drop_zero, List.cons_append, List.nil_append, List.append_nil, List.length_cons, List.length_nil, Nat.reduceAdd, Nat.zero_add, Nat.add_zero, Value.cells, wrV]; first | done | rfl) | rfl) rfl ?_ | refine sq_loadA 1 rfl rfl tyA29 tyS29 (by first | (simp only [List.length_cons, List.length_nil, Nat.reduceAdd, Nat.zero_add, Nat.add_zero]; first | done | rfl) | rfl) (by first | (simp only [List.take_succ_cons, List.take_zero, List.drop_succ_cons, List.drop_zero, List.cons_append, List.nil_append, List.append_nil, List.length_cons, List.length_nil, Nat.reduceAdd, Nat.zero_add, Nat.add_zero, Value.cells, wrV]; first | done | rfl) | rfl) rfl ?_ | refine sq_loadA 2 rfl rfl tyA29 tyS29 (by first | (simp only [List.length_cons, List.length_nil, Nat.reduceAdd, Nat.zero_add, Nat.add_zero]; first | done | rfl) | rfl) (by first | (simp only [List.take_succ_cons, List.take_zero, List.drop_succ_cons, List.drop_zero, List.cons_append, List.nil_append, List.append_nil, List.length_cons, List.length_nil, Nat.reduceAdd, Nat.zero_add, Nat.add_zero, Value.cells, wrV]; first | done | rfl) | rfl) rfl ?_
    refine sq_on rfl rfl rfl ?_
    refine sq_aeql (sec_same 127 25) guard_sec rfl rfl rfl ?_
    refine sq_pick rfl rfl rfl ?_
    refine sq_move rfl rfl ?_
    refine sq_pick rfl rfl rfl ?_
    refine sq_assign rfl rfl ?_
    refine sq_nil (hZ _ _ ?_ ?_)
    · exact Kn.cons rfl Kn.nil
    · exact HLe.pick [] (by simp) rfl
  refine awp_ret ?_
  repeat (with_reducible (first | refine nx_then_ret ?_ | refine nx_block_ret ?_))
  exact nx_ret1 rfl rfl rfl
end Go.Proofs.Ytkcbdidaahgfhaa

namespace Go.Proofs.Ytkcbdidaahgfhaa
open Go.RowKit Go.ChangeShapes Go.WideShapes Go.ChangeAt Go.Joins
set_option linter.unusedVariables false
set_option linter.unusedSimpArgs false
section
variable {H : Type} {enc : TypeId × Value → H} {P : Program} {w : World} {base : Nat} {spare : Nat → Bool} {held : Bool}
theorem arr_ok {fuel : Nat} {e : TypeId} {L : List TypeDesc} {cs : List Value} (ih : ∀ ds x, DataW.trod enc P w base spare held fuel e ds = some x → Alike L ds) :
    ∀ (m i : Nat) (xs : List (DataW H × List MemPlace)), (List.range' i m).mapM (fun i => DataW.trod enc P w base spare held fuel e ((cs.drop (i * L.length)).take L.length)) = some xs →
      Alike (List.replicate m L).flatten ((cs.drop (i * L.length)).take (m * L.length))
  | 0, i, xs, _ => by simpa using Alike.nil
  | m + 1, i, xs, hx => by
    rw [List.range'_succ, List.mapM_cons] at hx
    cases k1 : DataW.trod enc P w base spare held fuel e ((cs.drop (i * L.length)).take L.length) with
    | none => simp [k1] at hx
    | some y =>
      cases k2 : (List.range' (i + 1) m).mapM (fun i => DataW.trod enc P w base spare held fuel e ((cs.drop (i * L.length)).take L.length)) with
      | none => simp [k1, k2] at hx
      | some ys =>
        have h3 := ih _ _ k1
        have h4 := arr_ok ih m (i + 1) ys k2
        rw [List.replicate_succ, List.flatten_cons, Nat.succ_mul, Nat.add_comm (m * L.length), List.take_add, List.drop_drop, ← Nat.succ_mul]
        exact h3.append h4
theorem open_arr {t e : TypeId} {r : Reach} {b0 len : Nat} {v : Value} {d : DataW H} {p : List MemPlace} {L : List TypeDesc} (n : Nat) (ht : P.underlying t = some (.array len e)) (hL : leaves P n e = some L) (hC : P.cellsOf e = L.length) (hT : P.cellsOf t = len * L.length)
    (hv : Value.okWide P w r b0 t v) (h : DataW.Trod enc P w base spare held t v d p) : ∃ cs, v = .agg cs.toArray ∧ Alike (List.replicate len L).flatten cs := by
  simp only [Value.okWide, ht] at hv
  obtain ⟨cs, rfl, hsz, _⟩ := hv
  obtain ⟨l⟩ := cs
  refine ⟨l, rfl, ?_⟩
  obtain ⟨fuel, hf⟩ := h
  cases fuel with
  | zero => simp [DataW.trod] at hf
  | succ fuel =>
    have hsz' : l.length = P.cellsOf t := by simpa using hsz
    unfold DataW.trod at hf
    simp only [ht, Value.cells, hsz', if_true, hC] at hf
    cases hx : (List.range len).mapM (fun i => DataW.trod enc P w base spare held fuel e ((l.drop (i * L.length)).take L.length)) with
    | none => simp [hx] at hf
    | some xs =>
      rw [List.range_eq_range'] at hx
      have := arr_ok (fun ds x hd => leaves_ok n fuel e L ds x hL hd) len 0 xs hx
      rw [Nat.zero_mul, List.drop_zero, ← hT, ← hsz', List.take_length] at this
      exact this
end
end Go.Proofs.Ytkcbdidaahgfhaa

namespace Go.Proofs.Ytkcbdidaahgfhaa
open Go.RowKit
set_option linter.unusedVariables false
set_option linter.unusedSimpArgs false
theorem secC_8 (a b c d : Nat) : ∃ s0 t0 s1 t1 s2 t2 s3 t3, secC a b c d = sec8 s0 t0 s1 t1 s2 t2 s3 t3 := by
  cases h : secOk a b c d with
  | true => exact ⟨_, _, _, _, _, _, _, _, (secC_ok h).1⟩
  | false => exact ⟨0, 0, 0, 0, 0, 0, 0, 0, if_neg (by simp [h])⟩
theorem lv_u : leaves Try.prog 5 22 = some [.int .u64] := by kernel_rfl
theorem lc_u : Try.prog.cellsOf 22 = 1 := by kernel_rfl
theorem lt_u : Try.prog.cellsOf 23 = 4 := by kernel_rfl
theorem lv_s : leaves Try.prog 5 25 = some [.int .u64, .int .u64] := by kernel_rfl
theorem lc_s : Try.prog.cellsOf 25 = 2 := by kernel_rfl
theorem lt_s : Try.prog.cellsOf 28 = 8 := by kernel_rfl
theorem lv_p : leaves Try.prog 5 9 = some [.string] := by kernel_rfl
theorem lc_p : Try.prog.cellsOf 9 = 1 := by kernel_rfl
theorem lt_p : Try.prog.cellsOf 44 = 4 := by kernel_rfl
section
variable {H : Type} {enc : TypeId × Value → H} {w : World} {base b0 : Nat} {spare : Nat → Bool} {held : Bool} {r : Reach} {v : Value} {d : DataW H} {p : List MemPlace}
set_option maxRecDepth 20000 in
theorem open_u4 (hv : Value.okWide Try.prog w r b0 23 v) (h : DataW.Trod enc Try.prog w base spare held 23 v d p) :
    ∃ a b c d : Nat, (a < 18446744073709551616 ∧ b < 18446744073709551616 ∧ c < 18446744073709551616 ∧ d < 18446744073709551616) ∧ v = .agg #[uq a, uq b, uq c, uq d] := by
  obtain ⟨cs, rfl, al⟩ := open_arr 5 Try.underlying23 lv_u lc_u lt_u hv h
  obtain ⟨a, c1, rfl, ha, a1⟩ := alike_u64 al
  obtain ⟨b, c2, rfl, hb, a2⟩ := alike_u64 a1
  obtain ⟨c, c3, rfl, hc, a3⟩ := alike_u64 a2
  obtain ⟨d, c4, rfl, hd, a4⟩ := alike_u64 a3
  cases a4
  exact ⟨a, b, c, d, ⟨ha, hb, hc, hd⟩, rfl⟩
set_option maxRecDepth 20000 in
theorem open_s4 (hv : Value.okWide Try.prog w r b0 28 v) (h : DataW.Trod enc Try.prog w base spare held 28 v d p) :
    ∃ p0 q0 p1 q1 p2 q2 p3 q3 : Nat, v = .agg (sec8 p0 q0 p1 q1 p2 q2 p3 q3).toArray := by
  obtain ⟨cs, rfl, al⟩ := open_arr 5 Try.underlying28 lv_s lc_s lt_s hv h
  obtain ⟨x0, c, rfl, _, a1⟩ := alike_u64 al
  obtain ⟨y0, c, rfl, _, a1⟩ := alike_u64 a1
  obtain ⟨x1, c, rfl, _, a1⟩ := alike_u64 a1
  obtain ⟨y1, c, rfl, _, a1⟩ := alike_u64 a1
  obtain ⟨x2, c, rfl, _, a1⟩ := alike_u64 a1
  obtain ⟨y2, c, rfl, _, a1⟩ := alike_u64 a1
  obtain ⟨x3, c, rfl, _, a1⟩ := alike_u64 a1
  obtain ⟨y3, c, rfl, _, a1⟩ := alike_u64 a1
  cases a1
  exact ⟨x0, y0, x1, y1, x2, y2, x3, y3, rfl⟩
set_option maxRecDepth 20000 in
theorem open_p4 (hv : Value.okWide Try.prog w r b0 44 v) (h : DataW.Trod enc Try.prog w base spare held 44 v d p) :
    ∃ p : P4, v = .agg p.cells.toArray ∧ p.a.length ≤ maxLen ∧ p.b.length ≤ maxLen ∧ p.c.length ≤ maxLen ∧ p.d.length ≤ maxLen := by
  obtain ⟨cs, rfl, al⟩ := open_arr 5 Try.underlying44 lv_p lc_p lt_p hv h
  cases al with
  | cons ha al =>
    obtain ⟨a, rfl, ka⟩ := ha
    cases al with
    | cons hb al =>
      obtain ⟨b, rfl, kb⟩ := hb
      cases al with
      | cons hc al =>
        obtain ⟨c, rfl, kc⟩ := hc
        cases al with
        | cons hd al =>
          obtain ⟨d, rfl, kd⟩ := hd
          cases al
          exact ⟨⟨a, b, c, d⟩, rfl, ka, kb, kc, kd⟩
end
end Go.Proofs.Ytkcbdidaahgfhaa
