/- The walks of package lru: what only looks. No conditions. -/
import Derived.Test.YtjelakmndcecoaaTy
import Derived.Test.YtjelakmndcecoaaGsx4
import Derived.Test.YtjelakmndcecoaaLiP
namespace Go.Proofs.Ytjelakmndcecoaa.LI
open Go.RowKit
set_option linter.unusedVariables false
set_option linter.unusedSimpArgs false
abbrev encK (a : Ky) : Value := .agg #[uq a.1, uq a.2]
abbrev encV (x : Node) : Value := .agg #[iq (x.v : Nat), uq x.o.1, uq x.o.2, uq x.n.1, uq x.n.2]
theorem zeroNode (w : World) : (zeroValue 104).run Try.prog w = .ok (encV node0) w := by kernel_rfl
theorem keyOk : KeyOk Try.prog 47 encK where
  eq a b w := by
    obtain ⟨a1, a2⟩ := a
    obtain ⟨b1, b2⟩ := b
    simp [go_sem, Op.equal, Op.maxDepth, encK]
    by_cases h1 : a1 = b1 <;> by_cases h2 : a2 = b2
    · simp [h1, h2]
    · have : ¬ (a2 : Int) = b2 := by omega
      simp [h1, h2, this]
    · have : ¬ (a1 : Int) = b1 := by omega
      simp [h1, this]
    · have : ¬ (a1 : Int) = b1 := by omega
      simp [h1, this]
  chk e a w := by
    have hi : ∀ (x : Nat) (n : Nat), (Instr.checkKey e (n + 1) 35 (.int .u64 (x : Int))).run Try.prog w = .ok () w := fun x n => by
      rw [Instr.checkKey]
      simp [run_underlying Try.underlying35]
    rw [show (10000 : Nat) = 9998 + 1 + 1 from rfl, Instr.checkKey]
    simp [go_sem, run_underlying Try.underlying47, encK, hi]
  und := ⟨_, Try.underlying47, .inl fun a b => by simp [Instr.sameNow]⟩
  same a := by simp [Instr.sameBits, encK]
theorem nd_eq (M : List (Ky × Node)) (k : Ky) : ((aget M k).map encV).getD (encV node0) = encV (nd M k) := by
  unfold nd
  cases aget M k <;> rfl
theorem look_v {M : List (Ky × Node)} {k : Ky} {x : Node} (h : nd M k = x) :
    (if false = true then Value.tuple #[((aget M k).map encV).getD (encV node0), .bool (aget M k).isSome] else ((aget M k).map encV).getD (encV node0)) = .agg #[iq (x.v : Nat), uq x.o.1, uq x.o.2, uq x.n.1, uq x.n.2] := by
  subst h
  exact nd_eq M k
theorem look_t {M : List (Ky × Node)} {k : Ky} {x : Node} {is : Bool} (h : nd M k = x) (hi : (aget M k).isSome = is) :
    (if true = true then Value.tuple #[((aget M k).map encV).getD (encV node0), .bool (aget M k).isSome] else ((aget M k).map encV).getD (encV node0)) = .tuple #[.agg #[iq (x.v : Nat), uq x.o.1, uq x.o.2, uq x.n.1, uq x.n.2], .bool is] := by
  subst h
  subst hi
  rw [if_pos rfl, nd_eq M k]
/-- A cache in memory. -/
abbrev cacheE (g b : Nat) (most : Int) (old new : Ky) : Ent := .own g 93 [iq most, .map (some b), uq old.1, uq old.2, uq new.1, uq new.2]
abbrev cacheH (g b : Nat) (most : Int) (s : CS) : Heap := [cacheE g b most s.old s.new, mapE encK encV b s.M]
/-- Are two keys the same? -/
def keq (a b : Ky) : Bool := decide (a = b)
theorem key_eq (a b : Ky) : EqV Try.prog 10000 47 (encK a) (encK b) (keq a b) := by
  have h : EqV Try.prog 10000 47 (encK a) (encK b) _ := EqV.struct Try.underlying47 (by kernel_rfl) (.cons rfl tyA35 tyS35 rfl rfl (EqV.int Try.underlying35) (.cons rfl tyA35 tyS35 rfl rfl (EqV.int Try.underlying35) .nil))
  have e : keq a b = ((((a.1 : Int) == (b.1 : Int)) && (((a.2 : Int) == (b.2 : Int)) && true))) := by
    obtain ⟨a1, a2⟩ := a
    obtain ⟨b1, b2⟩ := b
    rw [Bool.eq_iff_iff]
    simp [keq]
    omega
  rw [e]
  exact h
theorem guard_key : Program.eqGuardType Try.prog Try.prog.depth 47 = false := by kernel_rfl
section
variable {P : Program} {N : Nat} {w0 : World} {Wr : List Nat} {ops : Array Oper} {rest : List Oper} {fr : Fr} {H : Heap} {Z : Fr → Heap → Prop}
variable {d ty : Nat} {pos : String} {after : Array Edge}
end
theorem has_fn (g b : Nat) (most : Int) (s : CS) (k : Ky) : Fn Try.prog 46 [ptr g 0, encK k] (cacheH g b most s) fun v H' => v = .bool (aget s.M k).isSome ∧ H' = cacheH g b most s := by
  obtain ⟨x, hx⟩ : ∃ x, nd s.M k = x := ⟨_, rfl⟩
  obtain ⟨is, his⟩ : ∃ is, (aget s.M k).isSome = is := ⟨_, rfl⟩
  rw [his]
  refine Fn.enter (N := 19) Try.func46 rfl (by kernel_rfl) rfl (fun w0 => ?_)

  refine awp_seq_region (fun Z hZ => ?_)
  refine sx_box rfl rfl rfl (fun g1 => ?_)
  refine sx_assign rfl rfl ?_
  refine sx_nil (hZ _ _ ?_)
  refine awp_forget [(0, _), (3, _)] (Kn.cons rfl (Kn.cons rfl (Kn.nil))) ?_
  refine awp_seq ?_
  refine awp_seq_region (fun Z hZ => ?_)
  refine sx_move rfl rfl ?_
  refine sx_ptrNil Try.underlying55 rfl rfl ?_
  refine sx_nil (hZ _ _ ?_)
  refine awp_forget [(0, _), (3, _), (8, _)] (Kn.cons rfl (Kn.cons rfl (Kn.cons rfl (Kn.nil)))) ?_
  first | refine awp_cond rfl (fun h => ?_) (fun h => ?_) | refine awp_seq (awp_cond rfl (fun h => ?_) (fun h => ?_))
  · cases h
  refine awp_skip ?_
  repeat (with_reducible (first | refine nx_block_normal ?_ | refine nx_scope_normal ?_))
  with_reducible first | refine nx_normal ?_ | refine nx_normalM ?_
  refine aww_seq_region _ [(0, true), (1, true), (2, true), (3, true), (4, true), (5, true), (6, true), (7, true), (8, true), (9, false), (10, false), (11, true)] mixed (by kernel_rfl) (HLe.pick [0, 1, 2] (by simp) (by simp only [pick, List.filterMap_cons, List.filterMap_nil, List.getElem?_cons_succ, List.getElem?_cons_zero]; rfl)) (fun Z hZ => ?_)
  refine tw_p rfl ?_
  refine sv_move rfl rfl ?_
  refine sv_nil ?_
  refine tw_p rfl ?_
  refine sv_nilCheck rfl rfl ?_
  refine sv_nil ?_
  refine tw_p rfl ?_
  refine sv_fieldAddr rfl tyF93_1 (by first | (simp only [Nat.reduceAdd, Nat.add_zero, Nat.zero_add]; first | done | rfl) | rfl) rfl ?_
  refine sv_nil ?_
  refine tw_p rfl ?_
  first | refine sv_load 0 rfl rfl tyA91 tyS91 rfl rfl ?_ | refine sv_load 1 rfl rfl tyA91 tyS91 rfl rfl ?_ | refine sv_load 2 rfl rfl tyA91 tyS91 rfl rfl ?_
  refine sv_nil ?_
  refine tw_p rfl ?_
  first | refine sv_loadA 0 rfl rfl tyA47 tyS47 (by first | (simp only [List.length_cons, List.length_nil, Nat.reduceAdd, Nat.zero_add, Nat.add_zero]; first | done | rfl) | rfl) (by first | (simp only [List.take_succ_cons, List.take_zero, List.drop_succ_cons, List.drop_zero, List.cons_append, List.nil_append, List.append_nil, List.length_cons, List.length_nil, Nat.reduceAdd, Nat.zero_add, Nat.add_zero, Value.cells, wrV]; first | done | rfl) | rfl) rfl ?_ | refine sv_loadA 1 rfl rfl tyA47 tyS47 (by first | (simp only [List.length_cons, List.length_nil, Nat.reduceAdd, Nat.zero_add, Nat.add_zero]; first | done | rfl) | rfl) (by first | (simp only [List.take_succ_cons, List.take_zero, List.drop_succ_cons, List.drop_zero, List.cons_append, List.nil_append, List.append_nil, List.length_cons, List.length_nil, Nat.reduceAdd, Nat.zero_add, Nat.add_zero, Value.cells, wrV]; first | done | rfl) | rfl) rfl ?_ | refine sv_loadA 2 rfl rfl tyA47 tyS47 (by first | (simp only [List.length_cons, List.length_nil, Nat.reduceAdd, Nat.zero_add, Nat.add_zero]; first | done | rfl) | rfl) (by first | (simp only [List.take_succ_cons, List.take_zero, List.drop_succ_cons, List.drop_zero, List.cons_append, List.nil_append, List.append_nil, List.length_cons, List.length_nil, Nat.reduceAdd, Nat.zero_add, Nat.add_zero, Value.cells, wrV]; first | done | rfl) | rfl) rfl ?_
  refine sv_nil ?_
  refine tw_p rfl ?_
  refine sv_lookup 2 keyOk Try.underlying91 zeroNode k _ rfl rfl rfl (look_t hx his) rfl ?_
  refine sv_nil ?_
  refine tw_p rfl ?_
  refine sv_move rfl rfl ?_
  refine sv_nil ?_
  refine tw_p rfl ?_
  refine sv_extract rfl rfl rfl ?_
  refine sv_nil ?_
  refine tw_p rfl ?_
  refine sv_extract rfl rfl rfl ?_
  refine sv_nil ?_
  refine tw_g rfl ?_
  refine sx_alloc tyZ104 rfl (fun g2 => ?_)
  refine sx_nil ⟨HLe.pick [1, 2, 3] (by simp) rfl, ?_⟩
  refine tw_g rfl ?_
  first | refine sx_store 0 rfl rfl rfl tyS104 (by first | (simp only [Value.cells]; first | done | rfl) | rfl) rfl rfl (by first | (simp only [List.length_cons, List.length_nil, Nat.reduceAdd, Nat.zero_add, Nat.add_zero]; first | done | rfl) | rfl) (by first | (simp only [List.take_succ_cons, List.take_zero, List.drop_succ_cons, List.drop_zero, List.cons_append, List.nil_append, List.append_nil, List.length_cons, List.length_nil, Nat.reduceAdd, Nat.zero_add, Nat.add_zero, Value.cells, wrV]; first | done | rfl) | rfl) (by first | (simp only [List.set_cons_succ, List.set_cons_zero]; first | done | rfl) | rfl) ?_ | refine sx_store 1 rfl rfl rfl tyS104 (by first | (simp only [Value.cells]; first | done | rfl) | rfl) rfl rfl (by first | (simp only [List.length_cons, List.length_nil, Nat.reduceAdd, Nat.zero_add, Nat.add_zero]; first | done | rfl) | rfl) (by first | (simp only [List.take_succ_cons, List.take_zero, List.drop_succ_cons, List.drop_zero, List.cons_append, List.nil_append, List.append_nil, List.length_cons, List.length_nil, Nat.reduceAdd, Nat.zero_add, Nat.add_zero, Value.cells, wrV]; first | done | rfl) | rfl) (by first | (simp only [List.set_cons_succ, List.set_cons_zero]; first | done | rfl) | rfl) ?_ | refine sx_store 2 rfl rfl rfl tyS104 (by first | (simp only [Value.cells]; first | done | rfl) | rfl) rfl rfl (by first | (simp only [List.length_cons, List.length_nil, Nat.reduceAdd, Nat.zero_add, Nat.add_zero]; first | done | rfl) | rfl) (by first | (simp only [List.take_succ_cons, List.take_zero, List.drop_succ_cons, List.drop_zero, List.cons_append, List.nil_append, List.append_nil, List.length_cons, List.length_nil, Nat.reduceAdd, Nat.zero_add, Nat.add_zero, Value.cells, wrV]; first | done | rfl) | rfl) (by first | (simp only [List.set_cons_succ, List.set_cons_zero]; first | done | rfl) | rfl) ?_ | refine sx_store 3 rfl rfl rfl tyS104 (by first | (simp only [Value.cells]; first | done | rfl) | rfl) rfl rfl (by first | (simp only [List.length_cons, List.length_nil, Nat.reduceAdd, Nat.zero_add, Nat.add_zero]; first | done | rfl) | rfl) (by first | (simp only [List.take_succ_cons, List.take_zero, List.drop_succ_cons, List.drop_zero, List.cons_append, List.nil_append, List.append_nil, List.length_cons, List.length_nil, Nat.reduceAdd, Nat.zero_add, Nat.add_zero, Value.cells, wrV]; first | done | rfl) | rfl) (by first | (simp only [List.set_cons_succ, List.set_cons_zero]; first | done | rfl) | rfl) ?_
  refine sx_nil ⟨HLe.pick [1, 2, 3] (by simp) rfl, ?_⟩
  refine tw_p rfl ?_
  refine sv_assign rfl rfl ?_
  refine sv_nil ?_
  refine tw_nil (hZ _ _ ?_)
  refine awp_forget [(6, _)] (Kn.cons rfl (Kn.nil)) ?_
  refine awp_seq_region (fun Z hZ => ?_)
  refine sx_move rfl rfl ?_
  refine sx_assign rfl rfl ?_
  refine sx_nil (hZ _ _ ?_)
  refine awp_forget [(4, _)] (Kn.cons rfl (Kn.nil)) ?_
  refine awp_ret ?_
  repeat (with_reducible (first | refine nx_then_ret ?_ | refine nx_block_ret ?_ | refine nx_scope_ret ?_))
  exact nx_ret1h _ rfl rfl (HLe.pick [2, 3] (by simp) rfl) ⟨rfl, rfl⟩
theorem most_fn (g b : Nat) (most : Int) (s : CS) : Fn Try.prog 22 [ptr g 0] (cacheH g b most s) fun v H' => v = .int .i64 most ∧ H' = cacheH g b most s := by
  refine Fn.enter (N := 9) Try.func22 rfl (by kernel_rfl) rfl (fun w0 => ?_)

  refine awp_seq_region (fun Z hZ => ?_)
  refine sx_assign rfl rfl ?_
  refine sx_nil (hZ _ _ ?_)
  refine awp_forget [(0, _)] (Kn.cons rfl (Kn.nil)) ?_
  refine awp_seq ?_
  refine awp_seq_region (fun Z hZ => ?_)
  refine sx_move rfl rfl ?_
  refine sx_ptrNil Try.underlying55 rfl rfl ?_
  refine sx_nil (hZ _ _ ?_)
  refine awp_forget [(0, _), (4, _)] (Kn.cons rfl (Kn.cons rfl (Kn.nil))) ?_
  first | refine awp_cond rfl (fun h => ?_) (fun h => ?_) | refine awp_seq (awp_cond rfl (fun h => ?_) (fun h => ?_))
  · cases h
  refine awp_skip ?_
  repeat (with_reducible (first | refine nx_block_normal ?_ | refine nx_scope_normal ?_))
  with_reducible first | refine nx_normal ?_ | refine nx_normalM ?_
  refine awp_seq_region (fun Z hZ => ?_)
  refine sx_move rfl rfl ?_
  refine sx_nilCheck rfl rfl ?_
  refine sx_fieldAddr rfl tyF93_0 (by first | (simp only [Nat.reduceAdd, Nat.add_zero, Nat.zero_add]; first | done | rfl) | rfl) rfl ?_
  first | refine sx_load 0 rfl rfl tyA3 tyS3 rfl rfl ?_ | refine sx_load 1 rfl rfl tyA3 tyS3 rfl rfl ?_
  refine sx_assign rfl rfl ?_
  refine sx_nil (hZ _ _ ?_)
  refine awp_forget [(2, _)] (Kn.cons rfl (Kn.nil)) ?_
  refine awp_ret ?_
  repeat (with_reducible (first | refine nx_then_ret ?_ | refine nx_block_ret ?_ | refine nx_scope_ret ?_))
  exact nx_ret1 rfl rfl ⟨rfl, rfl⟩
theorem len_fn (g b : Nat) (most : Int) (s : CS) : Fn Try.prog 37 [ptr g 0] (cacheH g b most s) fun v H' => v = .int .i64 (s.M.length : Nat) ∧ H' = cacheH g b most s := by
  refine Fn.enter (N := 10) Try.func37 rfl (by kernel_rfl) rfl (fun w0 => ?_)

  refine awp_seq_region (fun Z hZ => ?_)
  refine sx_assign rfl rfl ?_
  refine sx_nil (hZ _ _ ?_)
  refine awp_forget [(0, _)] (Kn.cons rfl (Kn.nil)) ?_
  refine awp_seq ?_
  refine awp_seq_region (fun Z hZ => ?_)
  refine sx_move rfl rfl ?_
  refine sx_ptrNil Try.underlying55 rfl rfl ?_
  refine sx_nil (hZ _ _ ?_)
  refine awp_forget [(0, _), (4, _)] (Kn.cons rfl (Kn.cons rfl (Kn.nil))) ?_
  first | refine awp_cond rfl (fun h => ?_) (fun h => ?_) | refine awp_seq (awp_cond rfl (fun h => ?_) (fun h => ?_))
  · cases h
  refine awp_skip ?_
  repeat (with_reducible (first | refine nx_block_normal ?_ | refine nx_scope_normal ?_))
  with_reducible first | refine nx_normal ?_ | refine nx_normalM ?_
  refine awp_seq_region (fun Z hZ => ?_)
  refine sx_move rfl rfl ?_
  refine sx_nilCheck rfl rfl ?_
  refine sx_fieldAddr rfl tyF93_1 (by first | (simp only [Nat.reduceAdd, Nat.add_zero, Nat.zero_add]; first | done | rfl) | rfl) rfl ?_
  first | refine sx_load 0 rfl rfl tyA91 tyS91 rfl rfl ?_ | refine sx_load 1 rfl rfl tyA91 tyS91 rfl rfl ?_
  refine sx_lenM 1 Try.underlying91 rfl rfl rfl ?_
  refine sx_assign rfl rfl ?_
  refine sx_nil (hZ _ _ ?_)
  refine awp_forget [(2, _)] (Kn.cons rfl (Kn.nil)) ?_
  refine awp_ret ?_
  repeat (with_reducible (first | refine nx_then_ret ?_ | refine nx_block_ret ?_ | refine nx_scope_ret ?_))
  exact nx_ret1 rfl rfl ⟨rfl, rfl⟩
theorem peek_fn (g b : Nat) (most : Int) (s : CS) (k : Ky) : Fn Try.prog 45 [ptr g 0, encK k] (cacheH g b most s)
    fun v H' => v = .tuple #[iq ((nd s.M k).v : Nat), .bool (aget s.M k).isSome] ∧ H' = cacheH g b most s := by
  obtain ⟨x, hx⟩ : ∃ x, nd s.M k = x := ⟨_, rfl⟩
  obtain ⟨is, his⟩ : ∃ is, (aget s.M k).isSome = is := ⟨_, rfl⟩
  have hxv : is = false → x.v = 0 := fun hf => by
    subst hf
    rw [← hx, nd]
    rw [Option.isSome_eq_false_iff, Option.isNone_iff_eq_none] at his
    rw [his]; rfl
  rw [his, hx]
  refine Fn.enter (N := 18) Try.func45 rfl (by kernel_rfl) rfl (fun w0 => ?_)

  refine awp_seq_region (fun Z hZ => ?_)
  refine sx_box rfl rfl rfl (fun g1 => ?_)
  refine sx_assign rfl rfl ?_
  refine sx_assign rfl rfl ?_
  refine sx_nil (hZ _ _ ?_)
  refine awp_forget [(0, _), (3, _), (4, _)] (Kn.cons rfl (Kn.cons rfl (Kn.cons rfl (Kn.nil)))) ?_
  refine awp_seq ?_
  refine awp_seq_region (fun Z hZ => ?_)
  refine sx_move rfl rfl ?_
  first | refine sx_loadA 0 rfl rfl tyA47 tyS47 (by first | (simp only [List.length_cons, List.length_nil, Nat.reduceAdd, Nat.zero_add, Nat.add_zero]; first | done | rfl) | rfl) (by first | (simp only [List.take_succ_cons, List.take_zero, List.drop_succ_cons, List.drop_zero, List.cons_append, List.nil_append, List.append_nil, List.length_cons, List.length_nil, Nat.reduceAdd, Nat.zero_add, Nat.add_zero, Value.cells, wrV]; first | done | rfl) | rfl) rfl ?_ | refine sx_loadA 1 rfl rfl tyA47 tyS47 (by first | (simp only [List.length_cons, List.length_nil, Nat.reduceAdd, Nat.zero_add, Nat.add_zero]; first | done | rfl) | rfl) (by first | (simp only [List.take_succ_cons, List.take_zero, List.drop_succ_cons, List.drop_zero, List.cons_append, List.nil_append, List.append_nil, List.length_cons, List.length_nil, Nat.reduceAdd, Nat.zero_add, Nat.add_zero, Value.cells, wrV]; first | done | rfl) | rfl) rfl ?_ | refine sx_loadA 2 rfl rfl tyA47 tyS47 (by first | (simp only [List.length_cons, List.length_nil, Nat.reduceAdd, Nat.zero_add, Nat.add_zero]; first | done | rfl) | rfl) (by first | (simp only [List.take_succ_cons, List.take_zero, List.drop_succ_cons, List.drop_zero, List.cons_append, List.nil_append, List.append_nil, List.length_cons, List.length_nil, Nat.reduceAdd, Nat.zero_add, Nat.add_zero, Value.cells, wrV]; first | done | rfl) | rfl) rfl ?_
  refine sx_callK [1, 2] [0] (has_fn g b most s k) rfl rfl (by simp) rfl ?_
  rintro v H' ⟨rfl, rfl⟩
  refine sx_norm (by simp only [List.filter_cons, List.filter_nil, Ent.wr, if_true, List.cons_append, List.nil_append, pick, List.filterMap_cons, List.filterMap_nil, List.getElem?_cons_succ, List.getElem?_cons_zero]; first | done | rfl) ?_
  rw [his]
  refine sx_not rfl rfl ?_
  refine sx_nil (hZ _ _ ?_)
  refine awp_forget [(0, _), (3, _), (4, _), (9, _)] (Kn.cons rfl (Kn.cons rfl (Kn.cons rfl (Kn.cons rfl (Kn.nil))))) ?_
  first | refine awp_cond rfl (fun h => ?_) (fun h => ?_) | refine awp_seq (awp_cond rfl (fun h => ?_) (fun h => ?_))
  · refine awp_seq_region (fun Z hZ => ?_)
    refine sx_move rfl rfl ?_
    refine sx_assign rfl rfl ?_
    refine sx_assign rfl rfl ?_
    refine sx_nil (hZ _ _ ?_)
    refine awp_forget [(4, _), (5, _)] (Kn.cons rfl (Kn.cons rfl (Kn.nil))) ?_
    refine awp_ret ?_
    repeat (with_reducible (first | refine nx_then_ret ?_ | refine nx_block_ret ?_ | refine nx_scope_ret ?_))
    refine nx_ret2h _ rfl rfl rfl (HLe.pick [0, 1] (by simp) rfl) ⟨?_, rfl⟩
    have : is = false := by simpa using h
    rw [hxv this, this]
    rfl
  refine awp_skip ?_
  repeat (with_reducible (first | refine nx_block_normal ?_ | refine nx_scope_normal ?_))
  with_reducible first | refine nx_normal ?_ | refine nx_normalM ?_
  have hi : is = true := by simpa using h
  subst hi

  refine aww_seq_region _ [(0, true), (1, true), (2, true), (3, true), (4, true), (5, true), (6, true), (7, true), (8, true)] mixed (by kernel_rfl) (HLe.pick [0, 1, 2] (by simp) (by simp only [pick, List.filterMap_cons, List.filterMap_nil, List.getElem?_cons_succ, List.getElem?_cons_zero]; rfl)) (fun Z hZ => ?_)
  refine tw_p rfl ?_
  refine sv_move rfl rfl ?_
  refine sv_nil ?_
  refine tw_p rfl ?_
  refine sv_nilCheck rfl rfl ?_
  refine sv_nil ?_
  refine tw_p rfl ?_
  refine sv_fieldAddr rfl tyF93_1 (by first | (simp only [Nat.reduceAdd, Nat.add_zero, Nat.zero_add]; first | done | rfl) | rfl) rfl ?_
  refine sv_nil ?_
  refine tw_p rfl ?_
  first | refine sv_load 0 rfl rfl tyA91 tyS91 rfl rfl ?_ | refine sv_load 1 rfl rfl tyA91 tyS91 rfl rfl ?_ | refine sv_load 2 rfl rfl tyA91 tyS91 rfl rfl ?_
  refine sv_nil ?_
  refine tw_p rfl ?_
  first | refine sv_loadA 0 rfl rfl tyA47 tyS47 (by first | (simp only [List.length_cons, List.length_nil, Nat.reduceAdd, Nat.zero_add, Nat.add_zero]; first | done | rfl) | rfl) (by first | (simp only [List.take_succ_cons, List.take_zero, List.drop_succ_cons, List.drop_zero, List.cons_append, List.nil_append, List.append_nil, List.length_cons, List.length_nil, Nat.reduceAdd, Nat.zero_add, Nat.add_zero, Value.cells, wrV]; first | done | rfl) | rfl) rfl ?_ | refine sv_loadA 1 rfl rfl tyA47 tyS47 (by first | (simp only [List.length_cons, List.length_nil, Nat.reduceAdd, Nat.zero_add, Nat.add_zero]; first | done | rfl) | rfl) (by first | (simp only [List.take_succ_cons, List.take_zero, List.drop_succ_cons, List.drop_zero, List.cons_append, List.nil_append, List.append_nil, List.length_cons, List.length_nil, Nat.reduceAdd, Nat.zero_add, Nat.add_zero, Value.cells, wrV]; first | done | rfl) | rfl) rfl ?_ | refine sv_loadA 2 rfl rfl tyA47 tyS47 (by first | (simp only [List.length_cons, List.length_nil, Nat.reduceAdd, Nat.zero_add, Nat.add_zero]; first | done | rfl) | rfl) (by first | (simp only [List.take_succ_cons, List.take_zero, List.drop_succ_cons, List.drop_zero, List.cons_append, List.nil_append, List.append_nil, List.length_cons, List.length_nil, Nat.reduceAdd, Nat.zero_add, Nat.add_zero, Value.cells, wrV]; first | done | rfl) | rfl) rfl ?_
  refine sv_nil ?_
  refine tw_p rfl ?_
  refine sv_lookup 1 keyOk Try.underlying91 zeroNode k _ rfl rfl rfl (look_v hx) rfl ?_
  refine sv_nil ?_
  refine tw_p rfl ?_
  refine sv_field rfl tyF104_0 rfl rfl ?_
  refine sv_nil ?_
  refine tw_p rfl ?_
  refine sv_assign rfl rfl ?_
  refine sv_nil ?_
  refine tw_p rfl ?_
  refine sv_assign rfl rfl ?_
  refine sv_nil ?_
  refine tw_nil (hZ _ _ ?_)
  refine awp_forget [(4, _), (5, _)] (Kn.cons rfl (Kn.cons rfl (Kn.nil))) ?_
  refine awp_ret ?_
  repeat (with_reducible (first | refine nx_then_ret ?_ | refine nx_block_ret ?_ | refine nx_scope_ret ?_))
  exact nx_ret2h _ rfl rfl rfl (HLe.pick [0, 1] (by simp) rfl) ⟨rfl, rfl⟩
end Go.Proofs.Ytjelakmndcecoaa.LI
