/- The walk of Decode. Condition: a text's length is one that a text may have. -/
import Derived.Test.YtkcbdidaahgfhaaHd6
namespace Go.Proofs.Ytkcbdidaahgfhaa
open Go.RowKit
set_option linter.unusedVariables false
set_option linter.unusedSimpArgs false
/-- The number of n bytes at a place. -/
def atL (l : List UInt8) (i n : Nat) : Nat := numL ((l.drop i).take n)
theorem atL_lt (l : List UInt8) (i n : Nat) (hn : n ≤ 8) : atL l i n < 18446744073709551616 := by
  have h1 := numL_lt ((l.drop i).take n)
  have h2 := pow_le8 (n := ((l.drop i).take n).length) (by simp; omega)
  unfold atL
  omega
theorem hasPrefix0_fn (l p : List UInt8) : Fn Try.prog 53 [.string (str l), .string (str p)] [] fun v _ => v = .bool (decide (p.length ≤ l.length) && (l.take p.length == p)) := by
  refine Fn.enter (N := 18) Try.func53 rfl (by kernel_rfl) rfl (fun w0 => ?_)
  refine awp_seq_region (fun Z hZ => ?_)
  refine sx_assign rfl rfl ?_
  refine sx_nil (hZ _ _ ?_)
  refine awp_forget [(0, _), (1, _)] (Kn.cons rfl (Kn.cons rfl (Kn.nil))) ?_
  refine awp_seq_meet [(4, .bool (decide (p.length ≤ l.length) && (l.take p.length == p)))] [] (fun Z hZ => ?_) ?_
  · refine sx_move rfl rfl ?_
    first | refine sx_len Try.underlying9 rfl rfl ?_ | refine sx_lenS Try.underlying9 rfl rfl ?_
    refine sx_move rfl rfl ?_
    first | refine sx_len Try.underlying9 rfl rfl ?_ | refine sx_lenS Try.underlying9 rfl rfl ?_
    first | refine sx_geq rfl rfl rfl ?_ | refine sx_sgeq rfl rfl rfl ?_
    refine sx_move rfl rfl ?_
    refine sx_split 10 rfl (fun hb5 => ?_) (fun hb5 => ?_)
    · refine sx_on rfl rfl rfl ?_
      refine sx_move rfl rfl ?_
      refine sx_on rfl rfl rfl ?_
      refine sx_move rfl rfl ?_
      refine sx_on rfl rfl rfl ?_
      first | refine sx_len Try.underlying9 rfl rfl ?_ | refine sx_lenS Try.underlying9 rfl rfl ?_
      refine sx_on rfl rfl rfl ?_
      refine sx_sliceS (l.take p.length) Try.underlying9 rfl rfl rfl (by omega) (by omega) (by simp at hb5; omega) (by simp) rfl ?_
      refine sx_on rfl rfl rfl ?_
      refine sx_move rfl rfl ?_
      refine sx_on rfl rfl rfl ?_
      first | refine sx_eql rfl rfl rfl ?_ | refine sx_seql rfl rfl rfl ?_
      refine sx_pick rfl rfl rfl ?_
      refine sx_assign rfl rfl ?_
      refine sx_nil (hZ _ _ ?_ ?_)
      · exact Kn.cons (congrArg some (congrArg Value.bool (by simp at hb5; first | (simp [hb5]; done) | (simp; intro; omega)))) Kn.nil
      · exact HLe.refl _
    · refine sx_off rfl rfl rfl rfl rfl ?_
      refine sx_off rfl rfl rfl rfl rfl ?_
      refine sx_off rfl rfl rfl rfl rfl ?_
      refine sx_off rfl rfl rfl rfl rfl ?_
      refine sx_off rfl rfl rfl rfl rfl ?_
      refine sx_off rfl rfl rfl rfl rfl ?_
      refine sx_pick rfl rfl rfl ?_
      refine sx_assign rfl rfl ?_
      refine sx_nil (hZ _ _ ?_ ?_)
      · exact Kn.cons (congrArg some (congrArg Value.bool (by simp at hb5; first | (simp [hb5]; done) | (simp; intro; omega)))) Kn.nil
      · exact HLe.refl _
  refine awp_ret ?_
  repeat (with_reducible (first | refine nx_then_ret ?_ | refine nx_block_ret ?_))
  exact nx_ret1 rfl rfl rfl
theorem hasPrefix_fn (l p : List UInt8) : Fn Try.prog 36 [.string (str l), .string (str p)] [] fun v _ => v = .bool (decide (p.length ≤ l.length) && (l.take p.length == p)) := by
  refine Fn.enter (N := 8) Try.func36 rfl (by kernel_rfl) rfl (fun w0 => ?_)
  refine awp_seq_region (fun Z hZ => ?_)
  refine sx_assign rfl rfl ?_
  refine sx_nil (hZ _ _ ?_)
  refine awp_forget [(0, _), (1, _)] (Kn.cons rfl (Kn.cons rfl (Kn.nil))) ?_
  refine awp_seq_region (fun Z hZ => ?_)
  refine sx_move rfl rfl ?_
  refine sx_move rfl rfl ?_
  refine sx_callP (hasPrefix0_fn l p) rfl rfl ?_
  refine sx_assign rfl rfl ?_
  refine sx_nil (hZ _ _ ?_)
  refine awp_forget [(4, _)] (Kn.cons rfl (Kn.nil)) ?_
  refine awp_ret ?_
  repeat (with_reducible (first | refine nx_then_ret ?_ | refine nx_block_ret ?_))
  exact nx_ret1 rfl rfl rfl
theorem enter_num : Enters Try.prog 54 := Enters.mk Try.func54 (by kernel_rfl) (by kernel_rfl)
abbrev scanC (l : List UInt8) (p : Nat) : List Value := [.string (str l), .int .i64 (p : Int), .int .i64 0]
theorem snum_fn (l : List UInt8) (p n : Nat) (hn : 1 ≤ n ∧ n ≤ 8) (hp : p + n ≤ l.length) (hl : l.length ≤ 9223372036854775807) :
    Fn Try.prog 54 [.agg (scanC l p).toArray, .int .i64 (n : Int)] [] fun v _ => v = .tuple #[uq (atL l p n), .agg (scanC l (p + n)).toArray] := by
  refine Fn.of_bel enter_num fun w => ?_
  have h := num_any (str l) (p : Int) 0 (n : Int) w (by rw [str_size]; unfold maxLen; omega)
  have hf : fitsB (n : Int) = true := by simp [fitsB]; omega
  have hst : stands (str l) (p : Int) = true := by simp [stands, str_size]; omega
  have hE : takeE (str l) (p : Int) 0 (n : Int) true = 0 := by
    unfold takeE
    rw [if_neg (by simp), if_neg (by simp [hst]), if_neg (by rw [str_size]; omega)]
  rw [hf] at h
  have hT : takeT (str l) (p : Int) 0 (n : Int) true = str ((l.drop p).take n) := by
    unfold takeT
    rw [if_pos hE, show ((p : Int)).toNat = p by omega, show ((p : Int) + (n : Int)).toNat = p + n by omega, str_cut]
    congr 2
    omega
  have hP : takeP (str l) (p : Int) 0 (n : Int) true = ((p + n : Nat) : Int) := by unfold takeP; rw [if_pos hE]; omega
  rw [hT, hP, hE, str_data] at h
  exact h
abbrev takeC (g : Nat) (l : List UInt8) (p : Nat) : Ent := .own g 88 (scanC l p)
theorem tnum_fn (g : Nat) (l : List UInt8) (p n : Nat) (hn : 1 ≤ n ∧ n ≤ 8) (hp : p + n ≤ l.length) (hl : l.length ≤ 9223372036854775807) :
    Fn Try.prog 38 [ptr g 0, .int .i64 (n : Int)] [takeC g l p] fun v H' => v = uq (atL l p n) ∧ H' = [takeC g l (p + n)] := by
  refine Fn.enter (N := 19) Try.func38 rfl (by kernel_rfl) rfl (fun w0 => ?_)
  refine awp_seq_region (fun Z hZ => ?_)
  refine sx_assign rfl rfl ?_
  refine sx_nil (hZ _ _ ?_)
  refine awp_forget [(0, _), (1, _)] (Kn.cons rfl (Kn.cons rfl (Kn.nil))) ?_
  refine awp_seq_region (fun Z hZ => ?_)
  refine sx_assign rfl rfl ?_
  refine sx_nil (hZ _ _ ?_)
  refine awp_forget [(0, _), (1, _)] (Kn.cons rfl (Kn.cons rfl (Kn.nil))) ?_

  refine awp_seq_region (fun Z hZ => ?_)
  refine sx_move rfl rfl ?_
  refine sx_move rfl rfl ?_
  refine sx_nilCheck rfl rfl ?_
  refine sx_fieldAddr rfl tyF88_0 (by first | (simp only [Nat.reduceAdd, Nat.add_zero, Nat.zero_add]; first | done | rfl) | rfl) rfl ?_
  first | refine sx_loadA 0 rfl rfl tyA86 tyS86 (by first | (simp only [List.length_cons, List.length_nil, Nat.reduceAdd, Nat.zero_add, Nat.add_zero]; first | done | rfl) | rfl) (by first | (simp only [List.take_succ_cons, List.take_zero, List.drop_succ_cons, List.drop_zero, List.cons_append, List.nil_append, List.append_nil, List.length_cons, List.length_nil, Nat.reduceAdd, Nat.zero_add, Nat.add_zero, Value.cells, wrV]; first | done | rfl) | rfl) rfl ?_
  refine sx_move rfl rfl ?_
  refine sx_callP (snum_fn l p n hn hp hl) rfl rfl ?_
  refine sx_move rfl rfl ?_
  refine sx_extract rfl rfl rfl ?_
  refine sx_extract rfl rfl rfl ?_
  refine sx_assign rfl rfl ?_
  refine sx_nilCheck rfl rfl ?_
  refine sx_fieldAddr rfl tyF88_0 (by first | (simp only [Nat.reduceAdd, Nat.add_zero, Nat.zero_add]; first | done | rfl) | rfl) rfl ?_
  first | refine sx_store 0 rfl rfl rfl tyS86 (by first | (simp only [Value.cells]; first | done | rfl) | rfl) rfl rfl (by first | (simp only [List.length_cons, List.length_nil, Nat.reduceAdd, Nat.zero_add, Nat.add_zero]; first | done | rfl) | rfl) (by first | (simp only [List.take_succ_cons, List.take_zero, List.drop_succ_cons, List.drop_zero, List.cons_append, List.nil_append, List.append_nil, List.length_cons, List.length_nil, Nat.reduceAdd, Nat.zero_add, Nat.add_zero, Value.cells, wrV]; first | done | rfl) | rfl) (by first | (simp only [List.set_cons_succ, List.set_cons_zero]; first | done | rfl) | rfl) ?_
  refine sx_nil (hZ _ _ ?_)
  refine awp_forget [(5, _)] (Kn.cons rfl (Kn.nil)) ?_
  refine awp_seq_region (fun Z hZ => ?_)
  refine sx_move rfl rfl ?_
  refine sx_assign rfl rfl ?_
  refine sx_nil (hZ _ _ ?_)
  refine awp_forget [(4, _)] (Kn.cons rfl (Kn.nil)) ?_
  refine awp_ret ?_
  repeat (with_reducible (first | refine nx_then_ret ?_ | refine nx_block_ret ?_))
  exact nx_ret1 rfl rfl ⟨rfl, rfl⟩
theorem tsection_fn (g : Nat) (l : List UInt8) (p : Nat) (hp : p + 16 ≤ l.length) (hl : l.length ≤ 9223372036854775807) :
    Fn Try.prog 37 [ptr g 0] [takeC g l p] fun v H' => v = .agg #[uq (atL l p 8), uq (atL l (p + 8) 8)] ∧ H' = [takeC g l (p + 16)] := by
  refine Fn.enter (N := 10) Try.func37 rfl (by kernel_rfl) rfl (fun w0 => ?_)

  refine awp_seq_region (fun Z hZ => ?_)
  refine sx_alloc tyZ29 rfl (fun g1 => ?_)
  refine sx_nil (hZ _ _ ?_)
  refine awp_forget [(0, _), (2, _)] (Kn.cons rfl (Kn.cons rfl (Kn.nil))) ?_
  refine awp_seq_region (fun Z hZ => ?_)
  refine sx_move rfl rfl ?_
  refine sx_callK [1] [0] (tnum_fn g l p 8 (by omega) (by omega) hl) rfl rfl (by simp) rfl ?_
  rintro v H' ⟨rfl, rfl⟩
  refine sx_norm (by simp only [List.filter_cons, List.filter_nil, Ent.wr, if_true, List.cons_append, List.nil_append, pick, List.filterMap_cons, List.filterMap_nil, List.getElem?_cons_succ, List.getElem?_cons_zero]; first | done | rfl) ?_
  refine sx_assign rfl rfl ?_
  refine sx_nil (hZ _ _ ?_)
  refine awp_forget [(0, _), (2, _), (3, _)] (Kn.cons rfl (Kn.cons rfl (Kn.cons rfl (Kn.nil)))) ?_
  refine awp_seq_region (fun Z hZ => ?_)
  refine sx_move rfl rfl ?_
  refine sx_move rfl rfl ?_
  refine sx_callK [0] [1] (tnum_fn g l (p + 8) 8 (by omega) (by omega) hl) rfl rfl (by simp) rfl ?_
  rintro v H' ⟨rfl, rfl⟩
  refine sx_norm (by simp only [List.filter_cons, List.filter_nil, Ent.wr, if_true, List.cons_append, List.nil_append, pick, List.filterMap_cons, List.filterMap_nil, List.getElem?_cons_succ, List.getElem?_cons_zero]; first | done | rfl) ?_
  refine sx_build tyZ29 tyP29 rfl rfl (by first | (simp only [List.take_succ_cons, List.take_zero, List.drop_succ_cons, List.drop_zero, List.cons_append, List.nil_append, List.append_nil, List.length_cons, List.length_nil, Nat.reduceAdd, Nat.zero_add, Nat.add_zero, Value.cells, wrV, zrep_one, List.replicate_succ, List.replicate_zero, Nat.reduceMul, Nat.zero_mul]; first | done | rfl) | rfl) rfl ?_
  first | refine sx_store 0 rfl rfl rfl tyS29 (by first | (simp only [Value.cells]; first | done | rfl) | rfl) rfl rfl (by first | (simp only [List.length_cons, List.length_nil, Nat.reduceAdd, Nat.zero_add, Nat.add_zero]; first | done | rfl) | rfl) (by first | (simp only [List.take_succ_cons, List.take_zero, List.drop_succ_cons, List.drop_zero, List.cons_append, List.nil_append, List.append_nil, List.length_cons, List.length_nil, Nat.reduceAdd, Nat.zero_add, Nat.add_zero, Value.cells, wrV]; first | done | rfl) | rfl) (by first | (simp only [List.set_cons_succ, List.set_cons_zero]; first | done | rfl) | rfl) ?_ | refine sx_store 1 rfl rfl rfl tyS29 (by first | (simp only [Value.cells]; first | done | rfl) | rfl) rfl rfl (by first | (simp only [List.length_cons, List.length_nil, Nat.reduceAdd, Nat.zero_add, Nat.add_zero]; first | done | rfl) | rfl) (by first | (simp only [List.take_succ_cons, List.take_zero, List.drop_succ_cons, List.drop_zero, List.cons_append, List.nil_append, List.append_nil, List.length_cons, List.length_nil, Nat.reduceAdd, Nat.zero_add, Nat.add_zero, Value.cells, wrV]; first | done | rfl) | rfl) (by first | (simp only [List.set_cons_succ, List.set_cons_zero]; first | done | rfl) | rfl) ?_
  refine sx_nil (hZ _ _ ?_)
  refine awp_ret ?_
  repeat (with_reducible (first | refine nx_then_ret ?_ | refine nx_block_ret ?_))
  exact nx_ret1h [takeC g l (p + 16)] rfl (ResOk.cell 1 rfl rfl tyA29 tyS29 rfl) (HLe.pick [0] (by simp) rfl) ⟨rfl, rfl⟩
theorem enter_sgn : Enters Try.prog 55 := Enters.mk Try.func55 (by kernel_rfl) (by kernel_rfl)
theorem sgn_fn (x n : Int) (hx : 0 ≤ x ∧ x < 18446744073709551616) : Fn Try.prog 55 [.int .u64 x, .int .i64 n] [] fun u _ => u = .tuple #[.int .i64 (sgnV x n), .int .i64 (sgnE n)] :=
  Fn.of_same enter_sgn fun w => signed_any x n w hx
/-- The number with a sign at a place. -/
def dgL (l : List UInt8) (i : Nat) : Int := sgnV (atL l i 4) 4
theorem tdegree_fn (g : Nat) (l : List UInt8) (p : Nat) (hp : p + 4 ≤ l.length) (hl : l.length ≤ 9223372036854775807) :
    Fn Try.prog 39 [ptr g 0] [takeC g l p] fun v H' => v = iq (dgL l p) ∧ H' = [takeC g l (p + 4)] := by
  have hb := atL_lt l p 4 (by omega)
  refine Fn.enter (N := 12) Try.func39 rfl (by kernel_rfl) rfl (fun w0 => ?_)

  refine awp_seq_region (fun Z hZ => ?_)
  refine sx_assign rfl rfl ?_
  refine sx_nil (hZ _ _ ?_)
  refine awp_forget [(0, _)] (Kn.cons rfl (Kn.nil)) ?_
  refine awp_seq_region (fun Z hZ => ?_)
  refine sx_move rfl rfl ?_
  refine sx_callK [0] [] (tnum_fn g l p 4 (by omega) (by omega) hl) rfl rfl (by simp) rfl ?_
  rintro v H' ⟨rfl, rfl⟩
  refine sx_norm (by simp only [List.filter_cons, List.filter_nil, Ent.wr, if_true, List.cons_append, List.nil_append, pick, List.filterMap_cons, List.filterMap_nil, List.getElem?_cons_succ, List.getElem?_cons_zero]; first | done | rfl) ?_
  refine sx_callP (sgn_fn (atL l p 4) 4 (by omega)) rfl rfl ?_
  refine sx_move rfl rfl ?_
  refine sx_extract rfl rfl rfl ?_
  refine sx_extract rfl rfl rfl ?_
  refine sx_assign rfl rfl ?_
  refine sx_assign rfl rfl ?_
  refine sx_nil (hZ _ _ ?_)
  refine awp_forget [(3, _)] (Kn.cons rfl (Kn.nil)) ?_
  refine awp_seq_region (fun Z hZ => ?_)
  refine sx_move rfl rfl ?_
  refine sx_assign rfl rfl ?_
  refine sx_nil (hZ _ _ ?_)
  refine awp_forget [(2, _)] (Kn.cons rfl (Kn.nil)) ?_
  refine awp_ret ?_
  repeat (with_reducible (first | refine nx_then_ret ?_ | refine nx_block_ret ?_))
  exact nx_ret1 rfl rfl ⟨rfl, rfl⟩
end Go.Proofs.Ytkcbdidaahgfhaa
