/- The walk of Encode. Conditions: the fields fit their kinds. The walk of Decode. Condition: a text's length is one that a text may have. The walks of Decode, in the program and in the reference. Condition: a text's length is one that a text may have. The walk of the reference's Decode. Condition: a text's length is one that a text may have. -/
import Derived.Test.YtahmhcmfeloclaaGreatGhd1
namespace Go.Proofs.YtahmhcmfeloclaaGreat.Y
open Go.RowKit
set_option linter.unusedVariables false
set_option linter.unusedSimpArgs false
theorem putL_in (b : List UInt8) (n x : Nat) (hn : 1 ≤ n ∧ n ≤ 8) : putL b n x = b ++ leB n x := by unfold putL; rw [if_pos (by omega)]; simp
theorem put1 (b : List UInt8) (x : Nat) : putL b 1 x = b ++ leB 1 x := putL_in b 1 x (by omega)
def encS (h : Hdr) (k : Nat) : List UInt8 := ((secL h).take k).foldl (fun b p => b ++ secB p.1 p.2) [80, 77, 84, 105, 108, 101, 115, 3]
def enc2a (h : Hdr) : List UInt8 := enc1 h ++ leB 8 h.ad ++ leB 8 h.en ++ leB 8 h.co
end Go.Proofs.YtahmhcmfeloclaaGreat.Y

namespace Go.Proofs.YtahmhcmfeloclaaGreat.Y
open Go.RowKit
set_option linter.unusedVariables false
set_option linter.unusedSimpArgs false
/-- The number of n bytes at a place. -/
def atL (l : List UInt8) (i n : Nat) : Nat := numL ((l.drop i).take n)
theorem atL_lt (l : List UInt8) (i n : Nat) (hn : n ≤ 8) : atL l i n < 18446744073709551616 := by
  have h1 := numL_lt ((l.drop i).take n)
  have h2 := pow_le8 (n := ((l.drop i).take n).length) (by simp; omega)
  unfold atL
  omega
theorem hasPrefix0_fn (l p : List UInt8) : Fn Tryz.prog 101 [.string (str l), .string (str p)] [] fun v _ => v = .bool (decide (p.length ≤ l.length) && (l.take p.length == p)) := by
  refine Fn.enter (N := 18) Tryz.func101 rfl (by kernel_rfl) rfl (fun w0 => ?_)
  refine awp_seq_region (fun Z hZ => ?_)
  refine sx_assign rfl rfl ?_
  refine sx_nil (hZ _ _ ?_)
  refine awp_forget [(0, _), (1, _)] (Kn.cons rfl (Kn.cons rfl (Kn.nil))) ?_
  refine awp_seq_meet [(4, .bool (decide (p.length ≤ l.length) && (l.take p.length == p)))] [] (fun Z hZ => ?_) ?_
  · refine sx_move rfl rfl ?_
    refine sx_lenS Tryz.underlying9 rfl rfl ?_
    refine sx_move rfl rfl ?_
    refine sx_lenS Tryz.underlying9 rfl rfl ?_
    refine sx_geq rfl rfl rfl ?_
    refine sx_move rfl rfl ?_
    refine sx_split 10 rfl (fun hb5 => ?_) (fun hb5 => ?_)
    · refine sx_on rfl rfl rfl ?_
      refine sx_move rfl rfl ?_
      refine sx_on rfl rfl rfl ?_
      refine sx_move rfl rfl ?_
      refine sx_on rfl rfl rfl ?_
      refine sx_lenS Tryz.underlying9 rfl rfl ?_
      refine sx_on rfl rfl rfl ?_
      refine sx_sliceS (l.take p.length) Tryz.underlying9 rfl rfl rfl (by omega) (by omega) (by simp at hb5; omega) (by simp) rfl ?_
      refine sx_on rfl rfl rfl ?_
      refine sx_move rfl rfl ?_
      refine sx_on rfl rfl rfl ?_
      refine sx_seql rfl rfl rfl ?_
      refine sx_pick rfl rfl rfl ?_
      refine sx_assign rfl rfl ?_
      refine sx_nil (hZ _ _ ?_ ?_)
      · exact Kn.cons (congrArg some (congrArg Value.bool (by simp at hb5; first | (simp [hb5]; done) | (simp; intro; omega)))) Kn.nil
      · exact HLe.refl _
    · refine sx_off rfl rfl rfl rfl rfl ?_
      refine sx_off rfl rfl rfl rfl rfl ?_
      refine sx_off rfl rfl rfl rfl rfl ?_
      refine sx_off rfl rfl rfl rfl rfl ?_
      refine sx_off rfl rfl rfl rfl rfl ?_
      refine sx_off rfl rfl rfl rfl rfl ?_
      refine sx_pick rfl rfl rfl ?_
      refine sx_assign rfl rfl ?_
      refine sx_nil (hZ _ _ ?_ ?_)
      · exact Kn.cons (congrArg some (congrArg Value.bool (by simp at hb5; first | (simp [hb5]; done) | (simp; intro; omega)))) Kn.nil
      · exact HLe.refl _
  refine awp_ret ?_
  exact nx_ret1 rfl rfl rfl
theorem hasPrefix_fn (l p : List UInt8) : Fn Tryz.prog 82 [.string (str l), .string (str p)] [] fun v _ => v = .bool (decide (p.length ≤ l.length) && (l.take p.length == p)) := by
  refine Fn.enter (N := 8) Tryz.func82 rfl (by kernel_rfl) rfl (fun w0 => ?_)
  refine awp_seq_region (fun Z hZ => ?_)
  refine sx_assign rfl rfl ?_
  refine sx_nil (hZ _ _ ?_)
  refine awp_forget [(0, _), (1, _)] (Kn.cons rfl (Kn.cons rfl (Kn.nil))) ?_
  refine awp_seq_region (fun Z hZ => ?_)
  refine sx_move rfl rfl ?_
  refine sx_move rfl rfl ?_
  refine sx_callP (hasPrefix0_fn l p) rfl rfl ?_
  refine sx_assign rfl rfl ?_
  refine sx_nil (hZ _ _ ?_)
  refine awp_forget [(4, _)] (Kn.cons rfl (Kn.nil)) ?_
  refine awp_ret ?_
  exact nx_ret1 rfl rfl rfl
theorem enter_num : Enters Tryz.prog 102 := Enters.mk Tryz.func102 (by kernel_rfl) (by kernel_rfl)
abbrev scanC (l : List UInt8) (p : Nat) : List Value := [.string (str l), .int .i64 (p : Int), .int .i64 0]
theorem snum_fn (l : List UInt8) (p n : Nat) (hn : 1 ≤ n ∧ n ≤ 8) (hp : p + n ≤ l.length) (hl : l.length ≤ 9223372036854775807) :
    Fn Tryz.prog 102 [.agg (scanC l p).toArray, .int .i64 (n : Int)] [] fun v _ => v = .tuple #[uq (atL l p n), .agg (scanC l (p + n)).toArray] := by
  refine Fn.of_bel enter_num fun w => ?_
  have h := num_any (str l) (p : Int) 0 (n : Int) w (by rw [str_size]; unfold maxLen; omega)
  have hf : fitsB (n : Int) = true := by simp [fitsB]; omega
  have hst : stands (str l) (p : Int) = true := by simp [stands, str_size]; omega
  have hE : takeE (str l) (p : Int) 0 (n : Int) true = 0 := by
    unfold takeE
    rw [if_neg (by simp), if_neg (by simp [hst]), if_neg (by rw [str_size]; omega)]
  rw [hf] at h
  have hT : takeT (str l) (p : Int) 0 (n : Int) true = str ((l.drop p).take n) := by
    unfold takeT
    rw [if_pos hE, show ((p : Int)).toNat = p by omega, show ((p : Int) + (n : Int)).toNat = p + n by omega, str_cut]
    congr 2
    omega
  have hP : takeP (str l) (p : Int) 0 (n : Int) true = ((p + n : Nat) : Int) := by unfold takeP; rw [if_pos hE]; omega
  rw [hT, hP, hE, str_data] at h
  exact h
abbrev takeC (g : Nat) (l : List UInt8) (p : Nat) : Ent := .own g 160 (scanC l p)
theorem tnum_fn (g : Nat) (l : List UInt8) (p n : Nat) (hn : 1 ≤ n ∧ n ≤ 8) (hp : p + n ≤ l.length) (hl : l.length ≤ 9223372036854775807) :
    Fn Tryz.prog 84 [ptr g 0, .int .i64 (n : Int)] [takeC g l p] fun v H' => v = uq (atL l p n) ∧ H' = [takeC g l (p + n)] := by
  refine Fn.enter (N := 19) Tryz.func84 rfl (by kernel_rfl) rfl (fun w0 => ?_)
  refine awp_seq_region (fun Z hZ => ?_)
  refine sx_assign rfl rfl ?_
  refine sx_nil (hZ _ _ ?_)
  refine awp_forget [(0, _), (1, _)] (Kn.cons rfl (Kn.cons rfl (Kn.nil))) ?_
  refine awp_seq_region (fun Z hZ => ?_)
  refine sx_assign rfl rfl ?_
  refine sx_nil (hZ _ _ ?_)
  refine awp_forget [(0, _), (1, _)] (Kn.cons rfl (Kn.cons rfl (Kn.nil))) ?_

  refine awp_seq_region (fun Z hZ => ?_)
  refine sx_move rfl rfl ?_
  refine sx_move rfl rfl ?_
  refine sx_nilCheck rfl rfl ?_
  refine sx_fieldAddr rfl tyF160_0 (by first | (simp only [Nat.reduceAdd, Nat.add_zero, Nat.zero_add]; first | done | rfl) | rfl) rfl ?_
  first | refine sx_loadA 0 rfl rfl tyA128 tyS128 (by first | (simp only [List.length_cons, List.length_nil, Nat.reduceAdd, Nat.zero_add, Nat.add_zero]; first | done | rfl) | rfl) (by first | (simp only [List.take_succ_cons, List.take_zero, List.drop_succ_cons, List.drop_zero, List.cons_append, List.nil_append, List.append_nil, List.length_cons, List.length_nil, Nat.reduceAdd, Nat.zero_add, Nat.add_zero, Value.cells, wrV]; first | done | rfl) | rfl) rfl ?_
  refine sx_move rfl rfl ?_
  refine sx_callP (snum_fn l p n hn hp hl) rfl rfl ?_
  refine sx_move rfl rfl ?_
  refine sx_extract rfl rfl rfl ?_
  refine sx_extract rfl rfl rfl ?_
  refine sx_assign rfl rfl ?_
  refine sx_nilCheck rfl rfl ?_
  refine sx_fieldAddr rfl tyF160_0 (by first | (simp only [Nat.reduceAdd, Nat.add_zero, Nat.zero_add]; first | done | rfl) | rfl) rfl ?_
  first | refine sx_store 0 rfl rfl rfl tyS128 (by first | (simp only [Value.cells]; first | done | rfl) | rfl) rfl rfl (by first | (simp only [List.length_cons, List.length_nil, Nat.reduceAdd, Nat.zero_add, Nat.add_zero]; first | done | rfl) | rfl) (by first | (simp only [List.take_succ_cons, List.take_zero, List.drop_succ_cons, List.drop_zero, List.cons_append, List.nil_append, List.append_nil, List.length_cons, List.length_nil, Nat.reduceAdd, Nat.zero_add, Nat.add_zero, Value.cells, wrV]; first | done | rfl) | rfl) (by first | (simp only [List.set_cons_succ, List.set_cons_zero]; first | done | rfl) | rfl) ?_
  refine sx_nil (hZ _ _ ?_)
  refine awp_forget [(5, _)] (Kn.cons rfl (Kn.nil)) ?_
  refine awp_seq_region (fun Z hZ => ?_)
  refine sx_move rfl rfl ?_
  refine sx_assign rfl rfl ?_
  refine sx_nil (hZ _ _ ?_)
  refine awp_forget [(4, _)] (Kn.cons rfl (Kn.nil)) ?_
  refine awp_ret ?_
  exact nx_ret1 rfl rfl ⟨rfl, rfl⟩
theorem tsection_fn (g : Nat) (l : List UInt8) (p : Nat) (hp : p + 16 ≤ l.length) (hl : l.length ≤ 9223372036854775807) :
    Fn Tryz.prog 83 [ptr g 0] [takeC g l p] fun v H' => v = .agg #[uq (atL l p 8), uq (atL l (p + 8) 8)] ∧ H' = [takeC g l (p + 16)] := by
  refine Fn.enter (N := 10) Tryz.func83 rfl (by kernel_rfl) rfl (fun w0 => ?_)

  refine awp_seq_region (fun Z hZ => ?_)
  refine sx_alloc tyZ84 rfl (fun g1 => ?_)
  refine sx_nil (hZ _ _ ?_)
  refine awp_forget [(0, _), (2, _)] (Kn.cons rfl (Kn.cons rfl (Kn.nil))) ?_
  refine awp_seq_region (fun Z hZ => ?_)
  refine sx_move rfl rfl ?_
  refine sx_callK [1] [0] (tnum_fn g l p 8 (by omega) (by omega) hl) rfl rfl (by simp) rfl ?_
  rintro v H' ⟨rfl, rfl⟩
  refine sx_norm (by simp only [List.filter_cons, List.filter_nil, Ent.wr, if_true, List.cons_append, List.nil_append, pick, List.filterMap_cons, List.filterMap_nil, List.getElem?_cons_succ, List.getElem?_cons_zero]; first | done | rfl) ?_
  refine sx_assign rfl rfl ?_
  refine sx_nil (hZ _ _ ?_)
  refine awp_forget [(0, _), (2, _), (3, _)] (Kn.cons rfl (Kn.cons rfl (Kn.cons rfl (Kn.nil)))) ?_
  refine awp_seq_region (fun Z hZ => ?_)
  refine sx_move rfl rfl ?_
  refine sx_move rfl rfl ?_
  refine sx_callK [0] [1] (tnum_fn g l (p + 8) 8 (by omega) (by omega) hl) rfl rfl (by simp) rfl ?_
  rintro v H' ⟨rfl, rfl⟩
  refine sx_norm (by simp only [List.filter_cons, List.filter_nil, Ent.wr, if_true, List.cons_append, List.nil_append, pick, List.filterMap_cons, List.filterMap_nil, List.getElem?_cons_succ, List.getElem?_cons_zero]; first | done | rfl) ?_
  refine sx_build tyZ84 tyP84 rfl rfl (by first | (simp only [List.take_succ_cons, List.take_zero, List.drop_succ_cons, List.drop_zero, List.cons_append, List.nil_append, List.append_nil, List.length_cons, List.length_nil, Nat.reduceAdd, Nat.zero_add, Nat.add_zero, Value.cells, wrV, zrep_one, List.replicate_succ, List.replicate_zero, Nat.reduceMul, Nat.zero_mul]; first | done | rfl) | rfl) rfl ?_
  refine sx_store 1 rfl rfl rfl tyS84 (by first | (simp only [Value.cells]; first | done | rfl) | rfl) rfl rfl (by first | (simp only [List.length_cons, List.length_nil, Nat.reduceAdd, Nat.zero_add, Nat.add_zero]; first | done | rfl) | rfl) (by first | (simp only [List.take_succ_cons, List.take_zero, List.drop_succ_cons, List.drop_zero, List.cons_append, List.nil_append, List.append_nil, List.length_cons, List.length_nil, Nat.reduceAdd, Nat.zero_add, Nat.add_zero, Value.cells, wrV]; first | done | rfl) | rfl) (by first | (simp only [List.set_cons_succ, List.set_cons_zero]; first | done | rfl) | rfl) ?_
  refine sx_nil (hZ _ _ ?_)
  refine awp_ret ?_
  exact nx_ret1h [takeC g l (p + 16)] rfl (ResOk.cell 1 rfl rfl tyA84 tyS84 rfl) (HLe.pick [0] (by simp) rfl) ⟨rfl, rfl⟩
theorem enter_sgn : Enters Tryz.prog 103 := Enters.mk Tryz.func103 (by kernel_rfl) (by kernel_rfl)
theorem sgn_fn (x n : Int) (hx : 0 ≤ x ∧ x < 18446744073709551616) : Fn Tryz.prog 103 [.int .u64 x, .int .i64 n] [] fun u _ => u = .tuple #[.int .i64 (sgnV x n), .int .i64 (sgnE n)] :=
  Fn.of_same enter_sgn fun w => signed_any x n w hx
/-- The number with a sign at a place. -/
def dgL (l : List UInt8) (i : Nat) : Int := sgnV (atL l i 4) 4
theorem tdegree_fn (g : Nat) (l : List UInt8) (p : Nat) (hp : p + 4 ≤ l.length) (hl : l.length ≤ 9223372036854775807) :
    Fn Tryz.prog 85 [ptr g 0] [takeC g l p] fun v H' => v = iq (dgL l p) ∧ H' = [takeC g l (p + 4)] := by
  have hb := atL_lt l p 4 (by omega)
  refine Fn.enter (N := 12) Tryz.func85 rfl (by kernel_rfl) rfl (fun w0 => ?_)

  refine awp_seq_region (fun Z hZ => ?_)
  refine sx_assign rfl rfl ?_
  refine sx_nil (hZ _ _ ?_)
  refine awp_forget [(0, _)] (Kn.cons rfl (Kn.nil)) ?_
  refine awp_seq_region (fun Z hZ => ?_)
  refine sx_move rfl rfl ?_
  refine sx_callK [0] [] (tnum_fn g l p 4 (by omega) (by omega) hl) rfl rfl (by simp) rfl ?_
  rintro v H' ⟨rfl, rfl⟩
  refine sx_norm (by simp only [List.filter_cons, List.filter_nil, Ent.wr, if_true, List.cons_append, List.nil_append, pick, List.filterMap_cons, List.filterMap_nil, List.getElem?_cons_succ, List.getElem?_cons_zero]; first | done | rfl) ?_
  refine sx_callP (sgn_fn (atL l p 4) 4 (by omega)) rfl rfl ?_
  refine sx_move rfl rfl ?_
  refine sx_extract rfl rfl rfl ?_
  refine sx_extract rfl rfl rfl ?_
  refine sx_assign rfl rfl ?_
  refine sx_assign rfl rfl ?_
  refine sx_nil (hZ _ _ ?_)
  refine awp_forget [(3, _)] (Kn.cons rfl (Kn.nil)) ?_
  refine awp_seq_region (fun Z hZ => ?_)
  refine sx_move rfl rfl ?_
  refine sx_assign rfl rfl ?_
  refine sx_nil (hZ _ _ ?_)
  refine awp_forget [(2, _)] (Kn.cons rfl (Kn.nil)) ?_
  refine awp_ret ?_
  exact nx_ret1 rfl rfl ⟨rfl, rfl⟩
end Go.Proofs.YtahmhcmfeloclaaGreat.Y

namespace Go.Proofs.YtahmhcmfeloclaaGreat.Y
open Go.RowKit
set_option linter.unusedVariables false
set_option linter.unusedSimpArgs false
def zeroH : Hdr := ⟨0, 0, 0, 0, 0, 0, 0, 0, 0, 0, 0, false, 0, 0, 0, 0, 0, 0, 0, 0, 0, 0, 0, 0⟩
def magic7 : List UInt8 := [80, 77, 84, 105, 108, 101, 115]
/-- The header of bytes. -/
def decH (l : List UInt8) : Hdr :=
  ⟨atL l 8 8, atL l 16 8, atL l 24 8, atL l 32 8, atL l 40 8, atL l 48 8, atL l 56 8, atL l 64 8, atL l 72 8, atL l 80 8, atL l 88 8, decide (atL l 96 1 = 1),
   atL l 97 1, atL l 98 1, atL l 99 1, atL l 100 1, atL l 101 1, dgL l 102, dgL l 106, dgL l 110, dgL l 114, atL l 118 1, dgL l 119, dgL l 123⟩
def decE (l : List UInt8) : Int :=
  if l.length < 127 then 3 else if l.take 7 ≠ magic7 then 12 else if l[7]? ≠ some 3 then 13 else if 1 < atL l 96 1 then 4 else checkV (decH l)
def decV (l : List UInt8) : Hdr := if decE l = 0 then decH l else zeroH
theorem atL_one (l : List UInt8) (i : Nat) (c : UInt8) (h : l[i]? = some c) : atL l i 1 = c.toNat := by
  obtain ⟨hi, rfl⟩ := List.getElem?_eq_some_iff.1 h
  unfold atL
  rw [List.drop_eq_getElem_cons hi, List.take_succ_cons, List.take_zero]
  simp [numL]
theorem atL_byte (l : List UInt8) (i : Nat) : atL l i 1 < 256 := by
  have h1 := numL_lt ((l.drop i).take 1)
  unfold atL
  have h2 : ((l.drop i).take 1).length ≤ 1 := by simp; omega
  have : 256 ^ ((l.drop i).take 1).length ≤ 256 ^ 1 := Nat.pow_le_pow_right (by omega) h2
  omega
set_option maxHeartbeats 1000000 in
theorem hdecode_fn (l : List UInt8) (hl : l.length ≤ 9223372036854775807) : Fn Tryz.prog 59 [.string (str l)] [] fun v _ => v = .tuple #[(decV l).val, .int .i64 (decE l)] := by
  have hz : ∀ e : Int, decE l = e → e ≠ 0 → (Value.tuple #[zeroH.val, .int .i64 e] : Value) = .tuple #[(decV l).val, .int .i64 (decE l)] := fun e he h0 => by
    have : decV l = zeroH := by unfold decV; rw [if_neg (by omega)]
    rw [this, he]
  refine Fn.enter (N := 105) Tryz.func59 rfl (by kernel_rfl) rfl (fun w0 => ?_)

  refine awp_seq_region (fun Z hZ => ?_)
  refine sx_alloc tyZ86 rfl (fun g1 => ?_)
  refine sx_assign rfl rfl ?_
  refine sx_nil (hZ _ _ ?_)
  refine awp_forget [(0, _), (2, _)] (Kn.cons rfl (Kn.cons rfl (Kn.nil))) ?_
  refine awp_seq (awp_block ?_)
  refine awp_seq_region (fun Z hZ => ?_)
  refine sx_move rfl rfl ?_
  refine sx_lenS Tryz.underlying9 rfl rfl ?_
  refine sx_lss rfl rfl rfl ?_
  refine sx_assign rfl rfl ?_
  refine sx_nil (hZ _ _ ?_)
  refine awp_forget [(0, _), (2, _), (8, _)] (Kn.cons rfl (Kn.cons rfl (Kn.cons rfl (Kn.nil)))) ?_
  refine awp_cond rfl (fun h11 => ?_) (fun h11 => ?_)
  · refine awp_seq_region (fun Z hZ => ?_)
    refine sx_build tyZ86 tyP86 rfl rfl (by first | (simp only [List.take_succ_cons, List.take_zero, List.drop_succ_cons, List.drop_zero, List.cons_append, List.nil_append, List.append_nil, List.length_cons, List.length_nil, Nat.reduceAdd, Nat.zero_add, Nat.add_zero, Value.cells, wrV, zrep_one, List.replicate_succ, List.replicate_zero, Nat.reduceMul, Nat.zero_mul]; first | done | rfl) | rfl) rfl ?_
    first | refine sx_store 0 rfl rfl rfl tyS86 (by first | (simp only [Value.cells]; first | done | rfl) | rfl) rfl rfl (by first | (simp only [List.length_cons, List.length_nil, Nat.reduceAdd, Nat.zero_add, Nat.add_zero]; first | done | rfl) | rfl) (by first | (simp only [List.take_succ_cons, List.take_zero, List.drop_succ_cons, List.drop_zero, List.cons_append, List.nil_append, List.append_nil, List.length_cons, List.length_nil, Nat.reduceAdd, Nat.zero_add, Nat.add_zero, Value.cells, wrV]; first | done | rfl) | rfl) (by first | (simp only [List.set_cons_succ, List.set_cons_zero]; first | done | rfl) | rfl) ?_
    refine sx_assign rfl rfl ?_
    refine sx_nil (hZ _ _ ?_)
    refine awp_ret ?_
    repeat (with_reducible (first | refine nx_then_ret ?_ | refine nx_block_ret ?_))
    exact nx_ret2 rfl (ResOk.cell 0 rfl rfl tyA86 tyS86 rfl) rfl (hz 3 (by simp at h11; unfold decE; rw [if_pos (by omega)]) (by omega))
  have h127 : 127 ≤ l.length := by simp at h11; omega
  refine awp_seq_region (fun Z hZ => ?_)
  refine sx_move rfl rfl ?_
  refine sx_callP (hasPrefix_fn l magic7) rfl rfl ?_
  refine sx_not rfl rfl ?_
  refine sx_assign rfl rfl ?_
  refine sx_nil (hZ _ _ ?_)
  refine awp_forget [(0, _), (2, _), (13, _)] (Kn.cons rfl (Kn.cons rfl (Kn.cons rfl (Kn.nil)))) ?_
  refine awp_cond rfl (fun h16 => ?_) (fun h16 => ?_)
  · refine awp_seq_region (fun Z hZ => ?_)
    refine sx_build tyZ86 tyP86 rfl rfl (by first | (simp only [List.take_succ_cons, List.take_zero, List.drop_succ_cons, List.drop_zero, List.cons_append, List.nil_append, List.append_nil, List.length_cons, List.length_nil, Nat.reduceAdd, Nat.zero_add, Nat.add_zero, Value.cells, wrV, zrep_one, List.replicate_succ, List.replicate_zero, Nat.reduceMul, Nat.zero_mul]; first | done | rfl) | rfl) rfl ?_
    first | refine sx_store 0 rfl rfl rfl tyS86 (by first | (simp only [Value.cells]; first | done | rfl) | rfl) rfl rfl (by first | (simp only [List.length_cons, List.length_nil, Nat.reduceAdd, Nat.zero_add, Nat.add_zero]; first | done | rfl) | rfl) (by first | (simp only [List.take_succ_cons, List.take_zero, List.drop_succ_cons, List.drop_zero, List.cons_append, List.nil_append, List.append_nil, List.length_cons, List.length_nil, Nat.reduceAdd, Nat.zero_add, Nat.add_zero, Value.cells, wrV]; first | done | rfl) | rfl) (by first | (simp only [List.set_cons_succ, List.set_cons_zero]; first | done | rfl) | rfl) ?_
    refine sx_assign rfl rfl ?_
    refine sx_nil (hZ _ _ ?_)
    refine awp_ret ?_
    repeat (with_reducible (first | refine nx_then_ret ?_ | refine nx_block_ret ?_))
    exact nx_ret2 rfl (ResOk.cell 0 rfl rfl tyA86 tyS86 rfl) rfl (hz 12 (by
      have h7 : l.take 7 ≠ magic7 := by intro e; simp [magic7] at h16 e; rcases h16 with h16 | h16; omega; exact h16 e
      unfold decE; rw [if_neg (by omega), if_pos h7]) (by omega))
  have h7 : l.take 7 = magic7 := by simp [magic7] at h16 ⊢; exact h16.2
  obtain ⟨c7, hc7⟩ : ∃ c, l[7]? = some c := ⟨l[7]'(by omega), by simp [show 7 < l.length by omega]⟩
  refine awp_seq_region (fun Z hZ => ?_)
  refine sx_move rfl rfl ?_
  refine sx_indexS Tryz.underlying9 rfl rfl (by omega) hc7 rfl ?_
  refine sx_neq rfl rfl rfl ?_
  refine sx_assign rfl rfl ?_
  refine sx_nil (hZ _ _ ?_)
  refine awp_forget [(0, _), (2, _), (18, _)] (Kn.cons rfl (Kn.cons rfl (Kn.cons rfl (Kn.nil)))) ?_
  refine awp_cond rfl (fun h20 => ?_) (fun h20 => ?_)
  · refine awp_seq_region (fun Z hZ => ?_)
    refine sx_build tyZ86 tyP86 rfl rfl (by first | (simp only [List.take_succ_cons, List.take_zero, List.drop_succ_cons, List.drop_zero, List.cons_append, List.nil_append, List.append_nil, List.length_cons, List.length_nil, Nat.reduceAdd, Nat.zero_add, Nat.add_zero, Value.cells, wrV, zrep_one, List.replicate_succ, List.replicate_zero, Nat.reduceMul, Nat.zero_mul]; first | done | rfl) | rfl) rfl ?_
    first | refine sx_store 0 rfl rfl rfl tyS86 (by first | (simp only [Value.cells]; first | done | rfl) | rfl) rfl rfl (by first | (simp only [List.length_cons, List.length_nil, Nat.reduceAdd, Nat.zero_add, Nat.add_zero]; first | done | rfl) | rfl) (by first | (simp only [List.take_succ_cons, List.take_zero, List.drop_succ_cons, List.drop_zero, List.cons_append, List.nil_append, List.append_nil, List.length_cons, List.length_nil, Nat.reduceAdd, Nat.zero_add, Nat.add_zero, Value.cells, wrV]; first | done | rfl) | rfl) (by first | (simp only [List.set_cons_succ, List.set_cons_zero]; first | done | rfl) | rfl) ?_
    refine sx_assign rfl rfl ?_
    refine sx_nil (hZ _ _ ?_)
    refine awp_ret ?_
    repeat (with_reducible (first | refine nx_then_ret ?_ | refine nx_block_ret ?_))
    exact nx_ret2 rfl (ResOk.cell 0 rfl rfl tyA86 tyS86 rfl) rfl (hz 13 (by
      have h3 : l[7]? ≠ some 3 := by rw [hc7]; intro e; obtain rfl := Option.some.inj e; simp at h20
      unfold decE; rw [if_neg (by omega), if_neg (by simp [h7]), if_pos h3]) (by omega))
  have h3 : l[7]? = some 3 := by
    rw [hc7]
    have : (c7.toNat : Int) = 3 := by simpa using h20
    exact congrArg some (UInt8.toNat_inj.1 (by simp; omega))
  refine awp_skip ?_
  repeat (with_reducible refine nx_block_normal ?_)
  with_reducible refine nx_normal ?_

  refine awp_seq_region (fun Z hZ => ?_)
  refine sx_move rfl rfl ?_
  refine sx_build tyZ128 tyP128 rfl rfl (by first | (simp only [List.take_succ_cons, List.take_zero, List.drop_succ_cons, List.drop_zero, List.cons_append, List.nil_append, List.append_nil, List.length_cons, List.length_nil, Nat.reduceAdd, Nat.zero_add, Nat.add_zero, Value.cells, wrV, zrep_one, List.replicate_succ, List.replicate_zero, Nat.reduceMul, Nat.zero_mul]; first | done | rfl) | rfl) rfl ?_
  refine sx_build tyZ160 tyP160 rfl rfl (by first | (simp only [List.take_succ_cons, List.take_zero, List.drop_succ_cons, List.drop_zero, List.cons_append, List.nil_append, List.append_nil, List.length_cons, List.length_nil, Nat.reduceAdd, Nat.zero_add, Nat.add_zero, Value.cells, wrV, zrep_one, List.replicate_succ, List.replicate_zero, Nat.reduceMul, Nat.zero_mul]; first | done | rfl) | rfl) rfl ?_
  refine sx_box rfl rfl rfl (fun g2 => ?_)
  refine sx_assign rfl rfl ?_
  refine sx_nil (hZ _ _ ?_)
  refine awp_forget [(2, _), (4, _)] (Kn.cons rfl (Kn.cons rfl (Kn.nil))) ?_
  refine awp_seq_region (fun Z hZ => ?_)
  refine sx_alloc tyZ86 rfl (fun g3 => ?_)
  refine sx_nil (hZ _ _ ?_)
  refine awp_forget [(2, _), (4, _), (5, _)] (Kn.cons rfl (Kn.cons rfl (Kn.cons rfl (Kn.nil)))) ?_
  refine awp_heap [takeC _ l 8, .own _ 86 zeroH.cells, .own _ 86 zeroH.cells] (HLe.pick [1, 0, 2] (by simp) rfl) ?_

  refine awp_seq_region (fun Z hZ => ?_)
  refine sx_move rfl rfl ?_
  refine sx_callK [0] [1, 2] (tsection_fn _ l 8 (by omega) hl) rfl rfl (by simp) rfl ?_
  rintro v H' ⟨rfl, rfl⟩
  refine sx_norm (by simp only [List.filter_cons, List.filter_nil, Ent.wr, if_true, List.cons_append, List.nil_append, pick, List.filterMap_cons, List.filterMap_nil, List.getElem?_cons_succ, List.getElem?_cons_zero]; first | done | rfl) ?_
  refine sx_move rfl rfl ?_
  refine sx_callK [0] [1, 2] (tsection_fn _ l 24 (by omega) hl) rfl rfl (by simp) rfl ?_
  rintro v H' ⟨rfl, rfl⟩
  refine sx_norm (by simp only [List.filter_cons, List.filter_nil, Ent.wr, if_true, List.cons_append, List.nil_append, pick, List.filterMap_cons, List.filterMap_nil, List.getElem?_cons_succ, List.getElem?_cons_zero]; first | done | rfl) ?_
  refine sx_move rfl rfl ?_
  refine sx_callK [0] [1, 2] (tsection_fn _ l 40 (by omega) hl) rfl rfl (by simp) rfl ?_
  rintro v H' ⟨rfl, rfl⟩
  refine sx_norm (by simp only [List.filter_cons, List.filter_nil, Ent.wr, if_true, List.cons_append, List.nil_append, pick, List.filterMap_cons, List.filterMap_nil, List.getElem?_cons_succ, List.getElem?_cons_zero]; first | done | rfl) ?_
  refine sx_move rfl rfl ?_
  refine sx_callK [0] [1, 2] (tsection_fn _ l 56 (by omega) hl) rfl rfl (by simp) rfl ?_
  rintro v H' ⟨rfl, rfl⟩
  refine sx_norm (by simp only [List.filter_cons, List.filter_nil, Ent.wr, if_true, List.cons_append, List.nil_append, pick, List.filterMap_cons, List.filterMap_nil, List.getElem?_cons_succ, List.getElem?_cons_zero]; first | done | rfl) ?_
  refine sx_fieldAddr rfl tyF86_0 (by first | (simp only [Nat.reduceAdd, Nat.add_zero, Nat.zero_add]; first | done | rfl) | rfl) rfl ?_
  refine sx_store 1 rfl rfl rfl tyS84 (by first | (simp only [Value.cells]; first | done | rfl) | rfl) rfl rfl (by first | (simp only [List.length_cons, List.length_nil, Nat.reduceAdd, Nat.zero_add, Nat.add_zero]; first | done | rfl) | rfl) (by first | (simp only [List.take_succ_cons, List.take_zero, List.drop_succ_cons, List.drop_zero, List.cons_append, List.nil_append, List.append_nil, List.length_cons, List.length_nil, Nat.reduceAdd, Nat.zero_add, Nat.add_zero, Value.cells, wrV]; first | done | rfl) | rfl) (by first | (simp only [List.set_cons_succ, List.set_cons_zero]; first | done | rfl) | rfl) ?_
  refine sx_fieldAddr rfl tyF86_1 (by first | (simp only [Nat.reduceAdd, Nat.add_zero, Nat.zero_add]; first | done | rfl) | rfl) rfl ?_
  refine sx_store 1 rfl rfl rfl tyS84 (by first | (simp only [Value.cells]; first | done | rfl) | rfl) rfl rfl (by first | (simp only [List.length_cons, List.length_nil, Nat.reduceAdd, Nat.zero_add, Nat.add_zero]; first | done | rfl) | rfl) (by first | (simp only [List.take_succ_cons, List.take_zero, List.drop_succ_cons, List.drop_zero, List.cons_append, List.nil_append, List.append_nil, List.length_cons, List.length_nil, Nat.reduceAdd, Nat.zero_add, Nat.add_zero, Value.cells, wrV]; first | done | rfl) | rfl) (by first | (simp only [List.set_cons_succ, List.set_cons_zero]; first | done | rfl) | rfl) ?_
  refine sx_fieldAddr rfl tyF86_2 (by first | (simp only [Nat.reduceAdd, Nat.add_zero, Nat.zero_add]; first | done | rfl) | rfl) rfl ?_
  refine sx_store 1 rfl rfl rfl tyS84 (by first | (simp only [Value.cells]; first | done | rfl) | rfl) rfl rfl (by first | (simp only [List.length_cons, List.length_nil, Nat.reduceAdd, Nat.zero_add, Nat.add_zero]; first | done | rfl) | rfl) (by first | (simp only [List.take_succ_cons, List.take_zero, List.drop_succ_cons, List.drop_zero, List.cons_append, List.nil_append, List.append_nil, List.length_cons, List.length_nil, Nat.reduceAdd, Nat.zero_add, Nat.add_zero, Value.cells, wrV]; first | done | rfl) | rfl) (by first | (simp only [List.set_cons_succ, List.set_cons_zero]; first | done | rfl) | rfl) ?_
  refine sx_fieldAddr rfl tyF86_3 (by first | (simp only [Nat.reduceAdd, Nat.add_zero, Nat.zero_add]; first | done | rfl) | rfl) rfl ?_
  refine sx_store 1 rfl rfl rfl tyS84 (by first | (simp only [Value.cells]; first | done | rfl) | rfl) rfl rfl (by first | (simp only [List.length_cons, List.length_nil, Nat.reduceAdd, Nat.zero_add, Nat.add_zero]; first | done | rfl) | rfl) (by first | (simp only [List.take_succ_cons, List.take_zero, List.drop_succ_cons, List.drop_zero, List.cons_append, List.nil_append, List.append_nil, List.length_cons, List.length_nil, Nat.reduceAdd, Nat.zero_add, Nat.add_zero, Value.cells, wrV]; first | done | rfl) | rfl) (by first | (simp only [List.set_cons_succ, List.set_cons_zero]; first | done | rfl) | rfl) ?_
  refine sx_nil (hZ _ _ ?_)
  refine awp_forget [(2, _), (4, _), (5, _)] (Kn.cons rfl (Kn.cons rfl (Kn.cons rfl (Kn.nil)))) ?_
  refine awp_seq_region (fun Z hZ => ?_)
  refine sx_move rfl rfl ?_
  refine sx_callK [0] [1, 2] (tnum_fn _ l 72 8 (by omega) (by omega) hl) rfl rfl (by simp) rfl ?_
  rintro v H' ⟨rfl, rfl⟩
  refine sx_norm (by simp only [List.filter_cons, List.filter_nil, Ent.wr, if_true, List.cons_append, List.nil_append, pick, List.filterMap_cons, List.filterMap_nil, List.getElem?_cons_succ, List.getElem?_cons_zero]; first | done | rfl) ?_
  refine sx_move rfl rfl ?_
  refine sx_callK [0] [1, 2] (tnum_fn _ l 80 8 (by omega) (by omega) hl) rfl rfl (by simp) rfl ?_
  rintro v H' ⟨rfl, rfl⟩
  refine sx_norm (by simp only [List.filter_cons, List.filter_nil, Ent.wr, if_true, List.cons_append, List.nil_append, pick, List.filterMap_cons, List.filterMap_nil, List.getElem?_cons_succ, List.getElem?_cons_zero]; first | done | rfl) ?_
  refine sx_move rfl rfl ?_
  refine sx_callK [0] [1, 2] (tnum_fn _ l 88 8 (by omega) (by omega) hl) rfl rfl (by simp) rfl ?_
  rintro v H' ⟨rfl, rfl⟩
  refine sx_norm (by simp only [List.filter_cons, List.filter_nil, Ent.wr, if_true, List.cons_append, List.nil_append, pick, List.filterMap_cons, List.filterMap_nil, List.getElem?_cons_succ, List.getElem?_cons_zero]; first | done | rfl) ?_
  refine sx_fieldAddr rfl tyF86_4 (by first | (simp only [Nat.reduceAdd, Nat.add_zero, Nat.zero_add]; first | done | rfl) | rfl) rfl ?_
  refine sx_store1 1 rfl rfl rfl tyS38 rfl (by first | (simp only [List.length_cons, List.length_nil, Nat.reduceAdd, Nat.zero_add, Nat.add_zero]; first | done | rfl) | rfl) (by first | (simp only [List.set_cons_succ, List.set_cons_zero, Nat.reduceAdd, Nat.add_zero, Nat.zero_add]; first | done | rfl) | rfl) (by first | (simp only [List.set_cons_succ, List.set_cons_zero]; first | done | rfl) | rfl) ?_
  refine sx_fieldAddr rfl tyF86_5 (by first | (simp only [Nat.reduceAdd, Nat.add_zero, Nat.zero_add]; first | done | rfl) | rfl) rfl ?_
  refine sx_store1 1 rfl rfl rfl tyS38 rfl (by first | (simp only [List.length_cons, List.length_nil, Nat.reduceAdd, Nat.zero_add, Nat.add_zero]; first | done | rfl) | rfl) (by first | (simp only [List.set_cons_succ, List.set_cons_zero, Nat.reduceAdd, Nat.add_zero, Nat.zero_add]; first | done | rfl) | rfl) (by first | (simp only [List.set_cons_succ, List.set_cons_zero]; first | done | rfl) | rfl) ?_
  refine sx_fieldAddr rfl tyF86_6 (by first | (simp only [Nat.reduceAdd, Nat.add_zero, Nat.zero_add]; first | done | rfl) | rfl) rfl ?_
  refine sx_store1 1 rfl rfl rfl tyS38 rfl (by first | (simp only [List.length_cons, List.length_nil, Nat.reduceAdd, Nat.zero_add, Nat.add_zero]; first | done | rfl) | rfl) (by first | (simp only [List.set_cons_succ, List.set_cons_zero, Nat.reduceAdd, Nat.add_zero, Nat.zero_add]; first | done | rfl) | rfl) (by first | (simp only [List.set_cons_succ, List.set_cons_zero]; first | done | rfl) | rfl) ?_
  refine sx_nil (hZ _ _ ?_)
  refine awp_forget [(2, _), (4, _), (5, _)] (Kn.cons rfl (Kn.cons rfl (Kn.cons rfl (Kn.nil)))) ?_
  refine awp_seq_region (fun Z hZ => ?_)
  refine sx_move rfl rfl ?_
  refine sx_callK [0] [1, 2] (tnum_fn _ l 96 1 (by omega) (by omega) hl) rfl rfl (by simp) rfl ?_
  rintro v H' ⟨rfl, rfl⟩
  refine sx_norm (by simp only [List.filter_cons, List.filter_nil, Ent.wr, if_true, List.cons_append, List.nil_append, pick, List.filterMap_cons, List.filterMap_nil, List.getElem?_cons_succ, List.getElem?_cons_zero]; first | done | rfl) ?_
  refine sx_assign rfl rfl ?_
  refine sx_nil (hZ _ _ ?_)
  refine awp_forget [(2, _), (4, _), (5, _), (6, _)] (Kn.cons rfl (Kn.cons rfl (Kn.cons rfl (Kn.cons rfl (Kn.nil))))) ?_
  refine awp_seq ?_
  refine awp_seq_region (fun Z hZ => ?_)
  refine sx_move rfl rfl ?_
  refine sx_gtr rfl rfl rfl ?_
  refine sx_nil (hZ _ _ ?_)
  refine awp_forget [(2, _), (4, _), (5, _), (6, _), (51, _)] (Kn.cons rfl (Kn.cons rfl (Kn.cons rfl (Kn.cons rfl (Kn.cons rfl (Kn.nil)))))) ?_
  refine awp_cond rfl (fun h51 => ?_) (fun h51 => ?_)
  · refine awp_seq_region (fun Z hZ => ?_)
    refine sx_build tyZ86 tyP86 rfl rfl (by first | (simp only [List.take_succ_cons, List.take_zero, List.drop_succ_cons, List.drop_zero, List.cons_append, List.nil_append, List.append_nil, List.length_cons, List.length_nil, Nat.reduceAdd, Nat.zero_add, Nat.add_zero, Value.cells, wrV, zrep_one, List.replicate_succ, List.replicate_zero, Nat.reduceMul, Nat.zero_mul]; first | done | rfl) | rfl) rfl ?_
    refine sx_store 2 rfl rfl rfl tyS86 (by first | (simp only [Value.cells]; first | done | rfl) | rfl) rfl rfl (by first | (simp only [List.length_cons, List.length_nil, Nat.reduceAdd, Nat.zero_add, Nat.add_zero]; first | done | rfl) | rfl) (by first | (simp only [List.take_succ_cons, List.take_zero, List.drop_succ_cons, List.drop_zero, List.cons_append, List.nil_append, List.append_nil, List.length_cons, List.length_nil, Nat.reduceAdd, Nat.zero_add, Nat.add_zero, Value.cells, wrV]; first | done | rfl) | rfl) (by first | (simp only [List.set_cons_succ, List.set_cons_zero]; first | done | rfl) | rfl) ?_
    refine sx_assign rfl rfl ?_
    refine sx_nil (hZ _ _ ?_)
    refine awp_ret ?_
    repeat (with_reducible refine nx_then_ret ?_)
    exact nx_ret2 rfl (ResOk.cell 2 rfl rfl tyA86 tyS86 rfl) rfl (hz 4 (by
      have : 1 < atL l 96 1 := by simp at h51; omega
      unfold decE; rw [if_neg (by omega), if_neg (by simp [h7]), if_neg (by simp [h3]), if_pos this]) (by omega))
  refine awp_skip ?_
  with_reducible refine nx_normal ?_
  have h96 : ¬ 1 < atL l 96 1 := by simp at h51; omega
  have hcl : ((atL l 96 1 : Int) == 1) = (decH l).cl := by rw [Bool.eq_iff_iff]; simp [decH]; omega
  have hu : ∀ i, IntKind.u8.wrap ((atL l i 1 : Nat) : Int) = ((atL l i 1 : Nat) : Int) := fun i => IntWalk.u8_in _ (by have := atL_byte l i; omega)
  have hi : ∀ i, IntKind.i64.wrap ((atL l i 1 : Nat) : Int) = ((atL l i 1 : Nat) : Int) := fun i => IntWalk.i64_in _ (by have := atL_byte l i; omega)

  refine awp_seq_region (fun Z hZ => ?_)
  refine sx_move rfl rfl ?_
  refine sx_eql rfl rfl rfl ?_
  rw [hcl]
  refine sx_fieldAddr rfl tyF86_7 (by first | (simp only [Nat.reduceAdd, Nat.add_zero, Nat.zero_add]; first | done | rfl) | rfl) rfl ?_
  refine sx_store1 1 rfl rfl rfl tyS4 rfl (by first | (simp only [List.length_cons, List.length_nil, Nat.reduceAdd, Nat.zero_add, Nat.add_zero]; first | done | rfl) | rfl) (by first | (simp only [List.set_cons_succ, List.set_cons_zero, Nat.reduceAdd, Nat.add_zero, Nat.zero_add]; first | done | rfl) | rfl) (by first | (simp only [List.set_cons_succ, List.set_cons_zero]; first | done | rfl) | rfl) ?_
  refine sx_nil (hZ _ _ ?_)
  refine awp_forget [(2, _), (4, _), (5, _)] (Kn.cons rfl (Kn.cons rfl (Kn.cons rfl (Kn.nil)))) ?_
  refine awp_seq_region (fun Z hZ => ?_)
  refine sx_move rfl rfl ?_
  refine sx_callK [0] [1, 2] (tnum_fn _ l 97 1 (by omega) (by omega) hl) rfl rfl (by simp) rfl ?_
  rintro v H' ⟨rfl, rfl⟩
  refine sx_norm (by simp only [List.filter_cons, List.filter_nil, Ent.wr, if_true, List.cons_append, List.nil_append, pick, List.filterMap_cons, List.filterMap_nil, List.getElem?_cons_succ, List.getElem?_cons_zero]; first | done | rfl) ?_
  refine sx_conv Tryz.underlying38 Tryz.underlying5 rfl _ (hu 97) rfl ?_
  refine sx_move rfl rfl ?_
  refine sx_callK [0] [1, 2] (tnum_fn _ l 98 1 (by omega) (by omega) hl) rfl rfl (by simp) rfl ?_
  rintro v H' ⟨rfl, rfl⟩
  refine sx_norm (by simp only [List.filter_cons, List.filter_nil, Ent.wr, if_true, List.cons_append, List.nil_append, pick, List.filterMap_cons, List.filterMap_nil, List.getElem?_cons_succ, List.getElem?_cons_zero]; first | done | rfl) ?_
  refine sx_conv Tryz.underlying38 Tryz.underlying5 rfl _ (hu 98) rfl ?_
  refine sx_move rfl rfl ?_
  refine sx_callK [0] [1, 2] (tnum_fn _ l 99 1 (by omega) (by omega) hl) rfl rfl (by simp) rfl ?_
  rintro v H' ⟨rfl, rfl⟩
  refine sx_norm (by simp only [List.filter_cons, List.filter_nil, Ent.wr, if_true, List.cons_append, List.nil_append, pick, List.filterMap_cons, List.filterMap_nil, List.getElem?_cons_succ, List.getElem?_cons_zero]; first | done | rfl) ?_
  refine sx_conv Tryz.underlying38 Tryz.underlying5 rfl _ (hu 99) rfl ?_
  refine sx_fieldAddr rfl tyF86_8 (by first | (simp only [Nat.reduceAdd, Nat.add_zero, Nat.zero_add]; first | done | rfl) | rfl) rfl ?_
  refine sx_store1 1 rfl rfl rfl tyS5 rfl (by first | (simp only [List.length_cons, List.length_nil, Nat.reduceAdd, Nat.zero_add, Nat.add_zero]; first | done | rfl) | rfl) (by first | (simp only [List.set_cons_succ, List.set_cons_zero, Nat.reduceAdd, Nat.add_zero, Nat.zero_add]; first | done | rfl) | rfl) (by first | (simp only [List.set_cons_succ, List.set_cons_zero]; first | done | rfl) | rfl) ?_
  refine sx_fieldAddr rfl tyF86_9 (by first | (simp only [Nat.reduceAdd, Nat.add_zero, Nat.zero_add]; first | done | rfl) | rfl) rfl ?_
  refine sx_store1 1 rfl rfl rfl tyS5 rfl (by first | (simp only [List.length_cons, List.length_nil, Nat.reduceAdd, Nat.zero_add, Nat.add_zero]; first | done | rfl) | rfl) (by first | (simp only [List.set_cons_succ, List.set_cons_zero, Nat.reduceAdd, Nat.add_zero, Nat.zero_add]; first | done | rfl) | rfl) (by first | (simp only [List.set_cons_succ, List.set_cons_zero]; first | done | rfl) | rfl) ?_
  refine sx_fieldAddr rfl tyF86_10 (by first | (simp only [Nat.reduceAdd, Nat.add_zero, Nat.zero_add]; first | done | rfl) | rfl) rfl ?_
  refine sx_store1 1 rfl rfl rfl tyS5 rfl (by first | (simp only [List.length_cons, List.length_nil, Nat.reduceAdd, Nat.zero_add, Nat.add_zero]; first | done | rfl) | rfl) (by first | (simp only [List.set_cons_succ, List.set_cons_zero, Nat.reduceAdd, Nat.add_zero, Nat.zero_add]; first | done | rfl) | rfl) (by first | (simp only [List.set_cons_succ, List.set_cons_zero]; first | done | rfl) | rfl) ?_
  refine sx_nil (hZ _ _ ?_)
  refine awp_forget [(2, _), (4, _), (5, _)] (Kn.cons rfl (Kn.cons rfl (Kn.cons rfl (Kn.nil)))) ?_
  refine awp_seq_region (fun Z hZ => ?_)
  refine sx_move rfl rfl ?_
  refine sx_callK [0] [1, 2] (tnum_fn _ l 100 1 (by omega) (by omega) hl) rfl rfl (by simp) rfl ?_
  rintro v H' ⟨rfl, rfl⟩
  refine sx_norm (by simp only [List.filter_cons, List.filter_nil, Ent.wr, if_true, List.cons_append, List.nil_append, pick, List.filterMap_cons, List.filterMap_nil, List.getElem?_cons_succ, List.getElem?_cons_zero]; first | done | rfl) ?_
  refine sx_conv Tryz.underlying38 Tryz.underlying3 rfl _ (hi 100) rfl ?_
  refine sx_move rfl rfl ?_
  refine sx_callK [0] [1, 2] (tnum_fn _ l 101 1 (by omega) (by omega) hl) rfl rfl (by simp) rfl ?_
  rintro v H' ⟨rfl, rfl⟩
  refine sx_norm (by simp only [List.filter_cons, List.filter_nil, Ent.wr, if_true, List.cons_append, List.nil_append, pick, List.filterMap_cons, List.filterMap_nil, List.getElem?_cons_succ, List.getElem?_cons_zero]; first | done | rfl) ?_
  refine sx_conv Tryz.underlying38 Tryz.underlying3 rfl _ (hi 101) rfl ?_
  refine sx_fieldAddr rfl tyF86_11 (by first | (simp only [Nat.reduceAdd, Nat.add_zero, Nat.zero_add]; first | done | rfl) | rfl) rfl ?_
  refine sx_store1 1 rfl rfl rfl tyS3 rfl (by first | (simp only [List.length_cons, List.length_nil, Nat.reduceAdd, Nat.zero_add, Nat.add_zero]; first | done | rfl) | rfl) (by first | (simp only [List.set_cons_succ, List.set_cons_zero, Nat.reduceAdd, Nat.add_zero, Nat.zero_add]; first | done | rfl) | rfl) (by first | (simp only [List.set_cons_succ, List.set_cons_zero]; first | done | rfl) | rfl) ?_
  refine sx_fieldAddr rfl tyF86_12 (by first | (simp only [Nat.reduceAdd, Nat.add_zero, Nat.zero_add]; first | done | rfl) | rfl) rfl ?_
  refine sx_store1 1 rfl rfl rfl tyS3 rfl (by first | (simp only [List.length_cons, List.length_nil, Nat.reduceAdd, Nat.zero_add, Nat.add_zero]; first | done | rfl) | rfl) (by first | (simp only [List.set_cons_succ, List.set_cons_zero, Nat.reduceAdd, Nat.add_zero, Nat.zero_add]; first | done | rfl) | rfl) (by first | (simp only [List.set_cons_succ, List.set_cons_zero]; first | done | rfl) | rfl) ?_
  refine sx_nil (hZ _ _ ?_)
  refine awp_forget [(2, _), (4, _), (5, _)] (Kn.cons rfl (Kn.cons rfl (Kn.cons rfl (Kn.nil)))) ?_
  refine awp_seq_region (fun Z hZ => ?_)
  refine sx_move rfl rfl ?_
  refine sx_callK [0] [1, 2] (tdegree_fn _ l 102 (by omega) hl) rfl rfl (by simp) rfl ?_
  rintro v H' ⟨rfl, rfl⟩
  refine sx_norm (by simp only [List.filter_cons, List.filter_nil, Ent.wr, if_true, List.cons_append, List.nil_append, pick, List.filterMap_cons, List.filterMap_nil, List.getElem?_cons_succ, List.getElem?_cons_zero]; first | done | rfl) ?_
  refine sx_move rfl rfl ?_
  refine sx_callK [0] [1, 2] (tdegree_fn _ l 106 (by omega) hl) rfl rfl (by simp) rfl ?_
  rintro v H' ⟨rfl, rfl⟩
  refine sx_norm (by simp only [List.filter_cons, List.filter_nil, Ent.wr, if_true, List.cons_append, List.nil_append, pick, List.filterMap_cons, List.filterMap_nil, List.getElem?_cons_succ, List.getElem?_cons_zero]; first | done | rfl) ?_
  refine sx_move rfl rfl ?_
  refine sx_callK [0] [1, 2] (tdegree_fn _ l 110 (by omega) hl) rfl rfl (by simp) rfl ?_
  rintro v H' ⟨rfl, rfl⟩
  refine sx_norm (by simp only [List.filter_cons, List.filter_nil, Ent.wr, if_true, List.cons_append, List.nil_append, pick, List.filterMap_cons, List.filterMap_nil, List.getElem?_cons_succ, List.getElem?_cons_zero]; first | done | rfl) ?_
  refine sx_move rfl rfl ?_
  refine sx_callK [0] [1, 2] (tdegree_fn _ l 114 (by omega) hl) rfl rfl (by simp) rfl ?_
  rintro v H' ⟨rfl, rfl⟩
  refine sx_norm (by simp only [List.filter_cons, List.filter_nil, Ent.wr, if_true, List.cons_append, List.nil_append, pick, List.filterMap_cons, List.filterMap_nil, List.getElem?_cons_succ, List.getElem?_cons_zero]; first | done | rfl) ?_
  refine sx_fieldAddr rfl tyF86_13 (by first | (simp only [Nat.reduceAdd, Nat.add_zero, Nat.zero_add]; first | done | rfl) | rfl) rfl ?_
  refine sx_store1 1 rfl rfl rfl tyS3 rfl (by first | (simp only [List.length_cons, List.length_nil, Nat.reduceAdd, Nat.zero_add, Nat.add_zero]; first | done | rfl) | rfl) (by first | (simp only [List.set_cons_succ, List.set_cons_zero, Nat.reduceAdd, Nat.add_zero, Nat.zero_add]; first | done | rfl) | rfl) (by first | (simp only [List.set_cons_succ, List.set_cons_zero]; first | done | rfl) | rfl) ?_
  refine sx_fieldAddr rfl tyF86_14 (by first | (simp only [Nat.reduceAdd, Nat.add_zero, Nat.zero_add]; first | done | rfl) | rfl) rfl ?_
  refine sx_store1 1 rfl rfl rfl tyS3 rfl (by first | (simp only [List.length_cons, List.length_nil, Nat.reduceAdd, Nat.zero_add, Nat.add_zero]; first | done | rfl) | rfl) (by first | (simp only [List.set_cons_succ, List.set_cons_zero, Nat.reduceAdd, Nat.add_zero, Nat.zero_add]; first | done | rfl) | rfl) (by first | (simp only [List.set_cons_succ, List.set_cons_zero]; first | done | rfl) | rfl) ?_
  refine sx_fieldAddr rfl tyF86_15 (by first | (simp only [Nat.reduceAdd, Nat.add_zero, Nat.zero_add]; first | done | rfl) | rfl) rfl ?_
  refine sx_store1 1 rfl rfl rfl tyS3 rfl (by first | (simp only [List.length_cons, List.length_nil, Nat.reduceAdd, Nat.zero_add, Nat.add_zero]; first | done | rfl) | rfl) (by first | (simp only [List.set_cons_succ, List.set_cons_zero, Nat.reduceAdd, Nat.add_zero, Nat.zero_add]; first | done | rfl) | rfl) (by first | (simp only [List.set_cons_succ, List.set_cons_zero]; first | done | rfl) | rfl) ?_
  refine sx_fieldAddr rfl tyF86_16 (by first | (simp only [Nat.reduceAdd, Nat.add_zero, Nat.zero_add]; first | done | rfl) | rfl) rfl ?_
  refine sx_store1 1 rfl rfl rfl tyS3 rfl (by first | (simp only [List.length_cons, List.length_nil, Nat.reduceAdd, Nat.zero_add, Nat.add_zero]; first | done | rfl) | rfl) (by first | (simp only [List.set_cons_succ, List.set_cons_zero, Nat.reduceAdd, Nat.add_zero, Nat.zero_add]; first | done | rfl) | rfl) (by first | (simp only [List.set_cons_succ, List.set_cons_zero]; first | done | rfl) | rfl) ?_
  refine sx_nil (hZ _ _ ?_)
  refine awp_forget [(2, _), (4, _), (5, _)] (Kn.cons rfl (Kn.cons rfl (Kn.cons rfl (Kn.nil)))) ?_
  refine awp_seq_region (fun Z hZ => ?_)
  refine sx_move rfl rfl ?_
  refine sx_callK [0] [1, 2] (tnum_fn _ l 118 1 (by omega) (by omega) hl) rfl rfl (by simp) rfl ?_
  rintro v H' ⟨rfl, rfl⟩
  refine sx_norm (by simp only [List.filter_cons, List.filter_nil, Ent.wr, if_true, List.cons_append, List.nil_append, pick, List.filterMap_cons, List.filterMap_nil, List.getElem?_cons_succ, List.getElem?_cons_zero]; first | done | rfl) ?_
  refine sx_conv Tryz.underlying38 Tryz.underlying3 rfl _ (hi 118) rfl ?_
  refine sx_move rfl rfl ?_
  refine sx_callK [0] [1, 2] (tdegree_fn _ l 119 (by omega) hl) rfl rfl (by simp) rfl ?_
  rintro v H' ⟨rfl, rfl⟩
  refine sx_norm (by simp only [List.filter_cons, List.filter_nil, Ent.wr, if_true, List.cons_append, List.nil_append, pick, List.filterMap_cons, List.filterMap_nil, List.getElem?_cons_succ, List.getElem?_cons_zero]; first | done | rfl) ?_
  refine sx_move rfl rfl ?_
  refine sx_callK [0] [1, 2] (tdegree_fn _ l 123 (by omega) hl) rfl rfl (by simp) rfl ?_
  rintro v H' ⟨rfl, rfl⟩
  refine sx_norm (by simp only [List.filter_cons, List.filter_nil, Ent.wr, if_true, List.cons_append, List.nil_append, pick, List.filterMap_cons, List.filterMap_nil, List.getElem?_cons_succ, List.getElem?_cons_zero]; first | done | rfl) ?_
  refine sx_fieldAddr rfl tyF86_17 (by first | (simp only [Nat.reduceAdd, Nat.add_zero, Nat.zero_add]; first | done | rfl) | rfl) rfl ?_
  refine sx_store1 1 rfl rfl rfl tyS3 rfl (by first | (simp only [List.length_cons, List.length_nil, Nat.reduceAdd, Nat.zero_add, Nat.add_zero]; first | done | rfl) | rfl) (by first | (simp only [List.set_cons_succ, List.set_cons_zero, Nat.reduceAdd, Nat.add_zero, Nat.zero_add]; first | done | rfl) | rfl) (by first | (simp only [List.set_cons_succ, List.set_cons_zero]; first | done | rfl) | rfl) ?_
  refine sx_fieldAddr rfl tyF86_18 (by first | (simp only [Nat.reduceAdd, Nat.add_zero, Nat.zero_add]; first | done | rfl) | rfl) rfl ?_
  refine sx_store1 1 rfl rfl rfl tyS3 rfl (by first | (simp only [List.length_cons, List.length_nil, Nat.reduceAdd, Nat.zero_add, Nat.add_zero]; first | done | rfl) | rfl) (by first | (simp only [List.set_cons_succ, List.set_cons_zero, Nat.reduceAdd, Nat.add_zero, Nat.zero_add]; first | done | rfl) | rfl) (by first | (simp only [List.set_cons_succ, List.set_cons_zero]; first | done | rfl) | rfl) ?_
  refine sx_fieldAddr rfl tyF86_19 (by first | (simp only [Nat.reduceAdd, Nat.add_zero, Nat.zero_add]; first | done | rfl) | rfl) rfl ?_
  refine sx_store1 1 rfl rfl rfl tyS3 rfl (by first | (simp only [List.length_cons, List.length_nil, Nat.reduceAdd, Nat.zero_add, Nat.add_zero]; first | done | rfl) | rfl) (by first | (simp only [List.set_cons_succ, List.set_cons_zero, Nat.reduceAdd, Nat.add_zero, Nat.zero_add]; first | done | rfl) | rfl) (by first | (simp only [List.set_cons_succ, List.set_cons_zero]; first | done | rfl) | rfl) ?_
  refine sx_nil (hZ _ _ ?_)
  refine awp_forget [(2, _), (5, _)] (Kn.cons rfl (Kn.cons rfl (Kn.nil))) ?_
  refine awp_heap [.own g3 86 (decH l).cells, .own g1 86 zeroH.cells] (HLe.pick [1, 2] (by simp) rfl) ?_

  refine awp_seq ?_
  refine awp_seq_region (fun Z hZ => ?_)
  refine sx_loadA 0 rfl rfl tyA86 tyS86 (by first | (simp only [List.length_cons, List.length_nil, Nat.reduceAdd, Nat.zero_add, Nat.add_zero]; first | done | rfl) | rfl) (by first | (simp only [List.take_succ_cons, List.take_zero, List.drop_succ_cons, List.drop_zero, List.cons_append, List.nil_append, List.append_nil, List.length_cons, List.length_nil, Nat.reduceAdd, Nat.zero_add, Nat.add_zero, Value.cells, wrV]; first | done | rfl) | rfl) rfl ?_
  refine sx_callP (hcheck_fn (decH l)) rfl rfl ?_
  refine sx_assign rfl rfl ?_
  refine sx_nil (hZ _ _ ?_)
  refine awp_forget [(2, _), (5, _), (7, _)] (Kn.cons rfl (Kn.cons rfl (Kn.cons rfl (Kn.nil)))) ?_
  refine awp_seq_region (fun Z hZ => ?_)
  refine sx_move rfl rfl ?_
  refine sx_neq rfl rfl rfl ?_
  refine sx_nil (hZ _ _ ?_)
  refine awp_forget [(2, _), (5, _), (7, _), (101, _)] (Kn.cons rfl (Kn.cons rfl (Kn.cons rfl (Kn.cons rfl (Kn.nil))))) ?_
  have hE : decE l = checkV (decH l) := by unfold decE; rw [if_neg (by omega), if_neg (by simp [h7]), if_neg (by simp [h3]), if_neg h96]
  refine awp_cond rfl (fun h101 => ?_) (fun h101 => ?_)
  · refine awp_seq_region (fun Z hZ => ?_)
    refine sx_build tyZ86 tyP86 rfl rfl (by first | (simp only [List.take_succ_cons, List.take_zero, List.drop_succ_cons, List.drop_zero, List.cons_append, List.nil_append, List.append_nil, List.length_cons, List.length_nil, Nat.reduceAdd, Nat.zero_add, Nat.add_zero, Value.cells, wrV, zrep_one, List.replicate_succ, List.replicate_zero, Nat.reduceMul, Nat.zero_mul]; first | done | rfl) | rfl) rfl ?_
    refine sx_move rfl rfl ?_
    refine sx_store 1 rfl rfl rfl tyS86 (by first | (simp only [Value.cells]; first | done | rfl) | rfl) rfl rfl (by first | (simp only [List.length_cons, List.length_nil, Nat.reduceAdd, Nat.zero_add, Nat.add_zero]; first | done | rfl) | rfl) (by first | (simp only [List.take_succ_cons, List.take_zero, List.drop_succ_cons, List.drop_zero, List.cons_append, List.nil_append, List.append_nil, List.length_cons, List.length_nil, Nat.reduceAdd, Nat.zero_add, Nat.add_zero, Value.cells, wrV]; first | done | rfl) | rfl) (by first | (simp only [List.set_cons_succ, List.set_cons_zero]; first | done | rfl) | rfl) ?_
    refine sx_assign rfl rfl ?_
    refine sx_nil (hZ _ _ ?_)
    refine awp_ret ?_
    repeat (with_reducible refine nx_then_ret ?_)
    have hne : ¬ checkV (decH l) = 0 := by simpa using h101
    exact nx_ret2 rfl (ResOk.cell 1 rfl rfl tyA86 tyS86 rfl) rfl (hz _ hE hne)
  refine awp_skip ?_
  with_reducible refine nx_normal ?_
  have hc0 : checkV (decH l) = 0 := by simpa using h101
  refine awp_seq_region (fun Z hZ => ?_)
  refine sx_loadA 0 rfl rfl tyA86 tyS86 (by first | (simp only [List.length_cons, List.length_nil, Nat.reduceAdd, Nat.zero_add, Nat.add_zero]; first | done | rfl) | rfl) (by first | (simp only [List.take_succ_cons, List.take_zero, List.drop_succ_cons, List.drop_zero, List.cons_append, List.nil_append, List.append_nil, List.length_cons, List.length_nil, Nat.reduceAdd, Nat.zero_add, Nat.add_zero, Value.cells, wrV]; first | done | rfl) | rfl) rfl ?_
  refine sx_store 1 rfl rfl rfl tyS86 (by first | (simp only [Value.cells]; first | done | rfl) | rfl) rfl rfl (by first | (simp only [List.length_cons, List.length_nil, Nat.reduceAdd, Nat.zero_add, Nat.add_zero]; first | done | rfl) | rfl) (by first | (simp only [List.take_succ_cons, List.take_zero, List.drop_succ_cons, List.drop_zero, List.cons_append, List.nil_append, List.append_nil, List.length_cons, List.length_nil, Nat.reduceAdd, Nat.zero_add, Nat.add_zero, Value.cells, wrV]; first | done | rfl) | rfl) (by first | (simp only [List.set_cons_succ, List.set_cons_zero]; first | done | rfl) | rfl) ?_
  refine sx_assign rfl rfl ?_
  refine sx_nil (hZ _ _ ?_)
  refine awp_ret ?_
  refine nx_ret2 rfl (ResOk.cell 1 rfl rfl tyA86 tyS86 rfl) rfl ?_
  have : decV l = decH l := by unfold decV; rw [hE, if_pos hc0]
  rw [this, hE, hc0]
  rfl
end Go.Proofs.YtahmhcmfeloclaaGreat.Y

namespace Go.Proofs.YtahmhcmfeloclaaGreat.Y
open Go.RowKit
set_option linter.unusedVariables false
set_option linter.unusedSimpArgs false
theorem enter_number : Enters Tryz.prog 108 := Enters.mk Tryz.func108 (by kernel_rfl) (by kernel_rfl)
theorem number_fn (l : List UInt8) (hl : l.length ≤ 8) : Fn Tryz.prog 108 [.string (str l)] [] fun v _ => v = uq (numL l) :=
  Fn.of_same enter_number fun w => number_any (str l) w (by rw [str_size]; exact hl)
theorem rat_fn (l : List UInt8) (i n : Nat) (hn : 1 ≤ n ∧ n ≤ 8) (hi : i + n ≤ l.length) (hl : l.length ≤ 9223372036854775807) : Fn Tryz.prog 94 [.string (str l), .int .i64 (i : Int), .int .i64 (n : Int)] [] fun v _ => v = uq (atL l i n) := by
  refine Fn.enter (N := 14) Tryz.func94 rfl (by kernel_rfl) rfl (fun w0 => ?_)
  refine awp_seq_region (fun Z hZ => ?_)
  refine sx_assign rfl rfl ?_
  refine sx_nil (hZ _ _ ?_)
  refine awp_forget [(0, _), (1, _), (2, _)] (Kn.cons rfl (Kn.cons rfl (Kn.cons rfl (Kn.nil)))) ?_
  refine awp_seq_region (fun Z hZ => ?_)
  refine sx_move rfl rfl ?_
  refine sx_move rfl rfl ?_
  refine sx_move rfl rfl ?_
  refine sx_move rfl rfl ?_
  refine sx_add rfl rfl ((i + n : Nat) : Int) (by rw [IntWalk.i64_in _ (by omega)]; omega) rfl ?_
  refine sx_sliceS ((l.drop i).take n) Tryz.underlying9 rfl rfl rfl (by omega) (by omega) (by omega) (by rw [Int.toNat_natCast, Int.toNat_natCast, show i + n - i = n by omega]) rfl ?_
  refine sx_callP (number_fn _ (by simp; omega)) rfl rfl ?_
  refine sx_assign rfl rfl ?_
  refine sx_nil (hZ _ _ ?_)
  refine awp_forget [(6, _)] (Kn.cons rfl (Kn.nil)) ?_
  refine awp_ret ?_
  exact nx_ret1 rfl rfl rfl
theorem rpart_fn (l : List UInt8) (i : Nat) (hi : i + 16 ≤ l.length) (hl : l.length ≤ 9223372036854775807) : Fn Tryz.prog 93 [.string (str l), .int .i64 (i : Int)] [] fun v _ => v = .agg #[uq (atL l i 8), uq (atL l (i + 8) 8)] := by
  refine Fn.enter (N := 13) Tryz.func93 rfl (by kernel_rfl) rfl (fun w0 => ?_)

  refine awp_seq_region (fun Z hZ => ?_)
  refine sx_alloc tyZ99 rfl (fun g1 => ?_)
  refine sx_nil (hZ _ _ ?_)
  refine awp_forget [(0, _), (1, _), (4, _)] (Kn.cons rfl (Kn.cons rfl (Kn.cons rfl (Kn.nil)))) ?_
  refine awp_seq_region (fun Z hZ => ?_)
  refine sx_move rfl rfl ?_
  refine sx_move rfl rfl ?_
  refine sx_callP (rat_fn l i 8 (by omega) (by omega) hl) rfl rfl ?_
  refine sx_move rfl rfl ?_
  refine sx_move rfl rfl ?_
  refine sx_add rfl rfl ((i + 8 : Nat) : Int) (by rw [IntWalk.i64_in _ (by omega)]; omega) rfl ?_
  refine sx_callP (rat_fn l (i + 8) 8 (by omega) (by omega) hl) rfl rfl ?_
  refine sx_build tyZ99 tyP99 rfl rfl (by first | (simp only [List.take_succ_cons, List.take_zero, List.drop_succ_cons, List.drop_zero, List.cons_append, List.nil_append, List.append_nil, List.length_cons, List.length_nil, Nat.reduceAdd, Nat.zero_add, Nat.add_zero, Value.cells, wrV, zrep_one, List.replicate_succ, List.replicate_zero, Nat.reduceMul, Nat.zero_mul]; first | done | rfl) | rfl) rfl ?_
  first | refine sx_store 0 rfl rfl rfl tyS99 (by first | (simp only [Value.cells]; first | done | rfl) | rfl) rfl rfl (by first | (simp only [List.length_cons, List.length_nil, Nat.reduceAdd, Nat.zero_add, Nat.add_zero]; first | done | rfl) | rfl) (by first | (simp only [List.take_succ_cons, List.take_zero, List.drop_succ_cons, List.drop_zero, List.cons_append, List.nil_append, List.append_nil, List.length_cons, List.length_nil, Nat.reduceAdd, Nat.zero_add, Nat.add_zero, Value.cells, wrV]; first | done | rfl) | rfl) (by first | (simp only [List.set_cons_succ, List.set_cons_zero]; first | done | rfl) | rfl) ?_
  refine sx_nil (hZ _ _ ?_)
  refine awp_ret ?_
  exact nx_ret1 rfl (ResOk.cell 0 rfl rfl tyA99 tyS99 rfl) rfl
theorem enter_rsgn : Enters Tryz.prog 109 := Enters.mk Tryz.func109 (by kernel_rfl) (by kernel_rfl)
theorem rsgn_fn (x n : Int) (hx : 0 ≤ x ∧ x < 18446744073709551616) : Fn Tryz.prog 109 [.int .u64 x, .int .i64 n] [] fun u _ => u = .tuple #[.int .i64 (sgnV x n), .int .i64 (sgnE n)] :=
  Fn.of_same enter_rsgn fun w => refSigned_any x n w hx
theorem rdegree_fn (l : List UInt8) (i : Nat) (hi : i + 4 ≤ l.length) (hl : l.length ≤ 9223372036854775807) : Fn Tryz.prog 95 [.string (str l), .int .i64 (i : Int)] [] fun v _ => v = iq (dgL l i) := by
  have hb := atL_lt l i 4 (by omega)
  refine Fn.enter (N := 15) Tryz.func95 rfl (by kernel_rfl) rfl (fun w0 => ?_)
  refine awp_seq_region (fun Z hZ => ?_)
  refine sx_assign rfl rfl ?_
  refine sx_nil (hZ _ _ ?_)
  refine awp_forget [(0, _), (1, _)] (Kn.cons rfl (Kn.cons rfl (Kn.nil))) ?_
  refine awp_seq_region (fun Z hZ => ?_)
  refine sx_move rfl rfl ?_
  refine sx_move rfl rfl ?_
  refine sx_callP (rat_fn l i 4 (by omega) (by omega) hl) rfl rfl ?_
  refine sx_callP (rsgn_fn (atL l i 4) 4 (by omega)) rfl rfl ?_
  refine sx_move rfl rfl ?_
  refine sx_extract rfl rfl rfl ?_
  refine sx_extract rfl rfl rfl ?_
  refine sx_assign rfl rfl ?_
  refine sx_assign rfl rfl ?_
  refine sx_nil (hZ _ _ ?_)
  refine awp_forget [(5, _)] (Kn.cons rfl (Kn.nil)) ?_
  refine awp_seq_region (fun Z hZ => ?_)
  refine sx_move rfl rfl ?_
  refine sx_assign rfl rfl ?_
  refine sx_nil (hZ _ _ ?_)
  refine awp_forget [(4, _)] (Kn.cons rfl (Kn.nil)) ?_
  refine awp_ret ?_
  exact nx_ret1 rfl rfl rfl
set_option maxHeartbeats 1000000 in
theorem rdecode_fn (l : List UInt8) (hl : l.length ≤ 9223372036854775807) : Fn Tryz.prog 67 [.string (str l)] [] fun v _ => v = .tuple #[(decV l).val, .int .i64 (decE l)] := by
  have hz : ∀ e : Int, decE l = e → e ≠ 0 → (Value.tuple #[zeroH.val, .int .i64 e] : Value) = .tuple #[(decV l).val, .int .i64 (decE l)] := fun e he h0 => by
    have : decV l = zeroH := by unfold decV; rw [if_neg (by omega)]
    rw [this, he]
  refine Fn.enter (N := 90) Tryz.func67 rfl (by kernel_rfl) rfl (fun w0 => ?_)

  refine awp_seq_region (fun Z hZ => ?_)
  refine sx_alloc tyZ101 rfl (fun g1 => ?_)
  refine sx_assign rfl rfl ?_
  refine sx_nil (hZ _ _ ?_)
  refine awp_forget [(0, _), (2, _)] (Kn.cons rfl (Kn.cons rfl (Kn.nil))) ?_
  refine awp_seq ?_
  refine awp_seq_region (fun Z hZ => ?_)
  refine sx_move rfl rfl ?_
  refine sx_lenS Tryz.underlying9 rfl rfl ?_
  refine sx_lss rfl rfl rfl ?_
  refine sx_nil (hZ _ _ ?_)
  refine awp_forget [(0, _), (2, _), (8, _)] (Kn.cons rfl (Kn.cons rfl (Kn.cons rfl (Kn.nil)))) ?_
  refine awp_cond rfl (fun h8 => ?_) (fun h8 => ?_)
  · refine awp_seq_region (fun Z hZ => ?_)
    refine sx_build tyZ101 tyP101 rfl rfl (by first | (simp only [List.take_succ_cons, List.take_zero, List.drop_succ_cons, List.drop_zero, List.cons_append, List.nil_append, List.append_nil, List.length_cons, List.length_nil, Nat.reduceAdd, Nat.zero_add, Nat.add_zero, Value.cells, wrV, zrep_one, List.replicate_succ, List.replicate_zero, Nat.reduceMul, Nat.zero_mul]; first | done | rfl) | rfl) rfl ?_
    first | refine sx_store 0 rfl rfl rfl tyS101 (by first | (simp only [Value.cells]; first | done | rfl) | rfl) rfl rfl (by first | (simp only [List.length_cons, List.length_nil, Nat.reduceAdd, Nat.zero_add, Nat.add_zero]; first | done | rfl) | rfl) (by first | (simp only [List.take_succ_cons, List.take_zero, List.drop_succ_cons, List.drop_zero, List.cons_append, List.nil_append, List.append_nil, List.length_cons, List.length_nil, Nat.reduceAdd, Nat.zero_add, Nat.add_zero, Value.cells, wrV]; first | done | rfl) | rfl) (by first | (simp only [List.set_cons_succ, List.set_cons_zero]; first | done | rfl) | rfl) ?_
    refine sx_assign rfl rfl ?_
    refine sx_nil (hZ _ _ ?_)
    refine awp_ret ?_
    repeat (with_reducible refine nx_then_ret ?_)
    exact nx_ret2 rfl (ResOk.cell 0 rfl rfl tyA101 tyS101 rfl) rfl (hz 3 (by simp at h8; unfold decE; rw [if_pos (by omega)]) (by omega))
  have h127 : 127 ≤ l.length := by simp at h8; omega
  refine awp_skip ?_
  with_reducible refine nx_normal ?_

  refine awp_seq ?_
  refine awp_seq_region (fun Z hZ => ?_)
  refine sx_move rfl rfl ?_
  refine sx_sliceS (l.take 7) Tryz.underlying9 rfl rfl rfl (by omega) (by omega) (by omega) (by simp) rfl ?_
  refine sx_sneq rfl rfl rfl ?_
  refine sx_nil (hZ _ _ ?_)
  refine awp_forget [(0, _), (2, _), (12, _)] (Kn.cons rfl (Kn.cons rfl (Kn.cons rfl (Kn.nil)))) ?_
  refine awp_cond rfl (fun h12 => ?_) (fun h12 => ?_)
  · refine awp_seq_region (fun Z hZ => ?_)
    refine sx_build tyZ101 tyP101 rfl rfl (by first | (simp only [List.take_succ_cons, List.take_zero, List.drop_succ_cons, List.drop_zero, List.cons_append, List.nil_append, List.append_nil, List.length_cons, List.length_nil, Nat.reduceAdd, Nat.zero_add, Nat.add_zero, Value.cells, wrV, zrep_one, List.replicate_succ, List.replicate_zero, Nat.reduceMul, Nat.zero_mul]; first | done | rfl) | rfl) rfl ?_
    first | refine sx_store 0 rfl rfl rfl tyS101 (by first | (simp only [Value.cells]; first | done | rfl) | rfl) rfl rfl (by first | (simp only [List.length_cons, List.length_nil, Nat.reduceAdd, Nat.zero_add, Nat.add_zero]; first | done | rfl) | rfl) (by first | (simp only [List.take_succ_cons, List.take_zero, List.drop_succ_cons, List.drop_zero, List.cons_append, List.nil_append, List.append_nil, List.length_cons, List.length_nil, Nat.reduceAdd, Nat.zero_add, Nat.add_zero, Value.cells, wrV]; first | done | rfl) | rfl) (by first | (simp only [List.set_cons_succ, List.set_cons_zero]; first | done | rfl) | rfl) ?_
    refine sx_assign rfl rfl ?_
    refine sx_nil (hZ _ _ ?_)
    refine awp_ret ?_
    repeat (with_reducible refine nx_then_ret ?_)
    exact nx_ret2 rfl (ResOk.cell 0 rfl rfl tyA101 tyS101 rfl) rfl (hz 12 (by
      have h7 : l.take 7 ≠ magic7 := by simpa [magic7] using h12
      unfold decE; rw [if_neg (by omega), if_pos h7]) (by omega))
  have h7 : l.take 7 = magic7 := by simpa [magic7] using h12
  have hb : ∀ i, i < l.length → l[i]? = some (l.getD i 0) := fun i hi => by simp [hi]
  have hq : ∀ i, i < l.length → ((l.getD i 0).toNat : Int) = (atL l i 1 : Int) := fun i hi => by rw [atL_one l i _ (hb i hi)]
  have hi : ∀ i, IntKind.i64.wrap ((atL l i 1 : Nat) : Int) = ((atL l i 1 : Nat) : Int) := fun i => IntWalk.i64_in _ (by have := atL_byte l i; omega)
  refine awp_skip ?_
  with_reducible refine nx_normal ?_

  refine awp_seq ?_
  refine awp_seq_region (fun Z hZ => ?_)
  refine sx_move rfl rfl ?_
  refine sx_indexS Tryz.underlying9 rfl rfl (by omega) (hb 7 (by omega)) rfl ?_
  refine sx_neq rfl rfl rfl ?_
  refine sx_nil (hZ _ _ ?_)
  refine awp_forget [(0, _), (2, _), (16, _)] (Kn.cons rfl (Kn.cons rfl (Kn.cons rfl (Kn.nil)))) ?_
  refine awp_cond rfl (fun h16 => ?_) (fun h16 => ?_)
  · refine awp_seq_region (fun Z hZ => ?_)
    refine sx_build tyZ101 tyP101 rfl rfl (by first | (simp only [List.take_succ_cons, List.take_zero, List.drop_succ_cons, List.drop_zero, List.cons_append, List.nil_append, List.append_nil, List.length_cons, List.length_nil, Nat.reduceAdd, Nat.zero_add, Nat.add_zero, Value.cells, wrV, zrep_one, List.replicate_succ, List.replicate_zero, Nat.reduceMul, Nat.zero_mul]; first | done | rfl) | rfl) rfl ?_
    first | refine sx_store 0 rfl rfl rfl tyS101 (by first | (simp only [Value.cells]; first | done | rfl) | rfl) rfl rfl (by first | (simp only [List.length_cons, List.length_nil, Nat.reduceAdd, Nat.zero_add, Nat.add_zero]; first | done | rfl) | rfl) (by first | (simp only [List.take_succ_cons, List.take_zero, List.drop_succ_cons, List.drop_zero, List.cons_append, List.nil_append, List.append_nil, List.length_cons, List.length_nil, Nat.reduceAdd, Nat.zero_add, Nat.add_zero, Value.cells, wrV]; first | done | rfl) | rfl) (by first | (simp only [List.set_cons_succ, List.set_cons_zero]; first | done | rfl) | rfl) ?_
    refine sx_assign rfl rfl ?_
    refine sx_nil (hZ _ _ ?_)
    refine awp_ret ?_
    repeat (with_reducible refine nx_then_ret ?_)
    exact nx_ret2 rfl (ResOk.cell 0 rfl rfl tyA101 tyS101 rfl) rfl (hz 13 (by
      have h3 : l[7]? ≠ some 3 := by rw [hb 7 (by omega)]; intro e; have := Option.some.inj e; rw [this] at h16; simp at h16
      unfold decE; rw [if_neg (by omega), if_neg (by simp [h7]), if_pos h3]) (by omega))
  have h3 : l[7]? = some 3 := by
    rw [hb 7 (by omega)]
    have : ((l.getD 7 0).toNat : Int) = 3 := by simpa using h16
    exact congrArg some (UInt8.toNat_inj.1 (by simp at this ⊢; omega))
  refine awp_skip ?_
  with_reducible refine nx_normal ?_

  refine awp_seq ?_
  refine awp_seq_region (fun Z hZ => ?_)
  refine sx_move rfl rfl ?_
  refine sx_indexS Tryz.underlying9 rfl rfl (by omega) (hb 96 (by omega)) rfl ?_
  rw [hq 96 (by omega)]
  refine sx_gtr rfl rfl rfl ?_
  refine sx_nil (hZ _ _ ?_)
  refine awp_forget [(0, _), (2, _), (20, _)] (Kn.cons rfl (Kn.cons rfl (Kn.cons rfl (Kn.nil)))) ?_
  refine awp_cond rfl (fun h20 => ?_) (fun h20 => ?_)
  · refine awp_seq_region (fun Z hZ => ?_)
    refine sx_build tyZ101 tyP101 rfl rfl (by first | (simp only [List.take_succ_cons, List.take_zero, List.drop_succ_cons, List.drop_zero, List.cons_append, List.nil_append, List.append_nil, List.length_cons, List.length_nil, Nat.reduceAdd, Nat.zero_add, Nat.add_zero, Value.cells, wrV, zrep_one, List.replicate_succ, List.replicate_zero, Nat.reduceMul, Nat.zero_mul]; first | done | rfl) | rfl) rfl ?_
    first | refine sx_store 0 rfl rfl rfl tyS101 (by first | (simp only [Value.cells]; first | done | rfl) | rfl) rfl rfl (by first | (simp only [List.length_cons, List.length_nil, Nat.reduceAdd, Nat.zero_add, Nat.add_zero]; first | done | rfl) | rfl) (by first | (simp only [List.take_succ_cons, List.take_zero, List.drop_succ_cons, List.drop_zero, List.cons_append, List.nil_append, List.append_nil, List.length_cons, List.length_nil, Nat.reduceAdd, Nat.zero_add, Nat.add_zero, Value.cells, wrV]; first | done | rfl) | rfl) (by first | (simp only [List.set_cons_succ, List.set_cons_zero]; first | done | rfl) | rfl) ?_
    refine sx_assign rfl rfl ?_
    refine sx_nil (hZ _ _ ?_)
    refine awp_ret ?_
    repeat (with_reducible refine nx_then_ret ?_)
    exact nx_ret2 rfl (ResOk.cell 0 rfl rfl tyA101 tyS101 rfl) rfl (hz 4 (by
      have : 1 < atL l 96 1 := by simp at h20; omega
      unfold decE; rw [if_neg (by omega), if_neg (by simp [h7]), if_neg (by simp [h3]), if_pos this]) (by omega))
  have h96 : ¬ 1 < atL l 96 1 := by simp at h20; omega
  have hcl : ((atL l 96 1 : Int) == 1) = (decH l).cl := by rw [Bool.eq_iff_iff]; simp [decH]; omega
  refine awp_skip ?_
  with_reducible refine nx_normal ?_

  refine awp_seq_region (fun Z hZ => ?_)
  refine sx_move rfl rfl ?_
  refine sx_callP (rpart_fn l 8 (by omega) hl) rfl rfl ?_
  refine sx_move rfl rfl ?_
  refine sx_callP (rpart_fn l 24 (by omega) hl) rfl rfl ?_
  refine sx_move rfl rfl ?_
  refine sx_callP (rpart_fn l 40 (by omega) hl) rfl rfl ?_
  refine sx_move rfl rfl ?_
  refine sx_callP (rpart_fn l 56 (by omega) hl) rfl rfl ?_
  refine sx_build tyZ101 tyP101 rfl rfl (by first | (simp only [List.take_succ_cons, List.take_zero, List.drop_succ_cons, List.drop_zero, List.cons_append, List.nil_append, List.append_nil, List.length_cons, List.length_nil, Nat.reduceAdd, Nat.zero_add, Nat.add_zero, Value.cells, wrV, zrep_one, List.replicate_succ, List.replicate_zero, Nat.reduceMul, Nat.zero_mul]; first | done | rfl) | rfl) rfl ?_
  refine sx_alloc tyZ101 rfl (fun g2 => ?_)
  refine sx_store 0 rfl rfl rfl tyS101 (by first | (simp only [Value.cells]; first | done | rfl) | rfl) rfl rfl (by first | (simp only [List.length_cons, List.length_nil, Nat.reduceAdd, Nat.zero_add, Nat.add_zero]; first | done | rfl) | rfl) (by first | (simp only [List.take_succ_cons, List.take_zero, List.drop_succ_cons, List.drop_zero, List.cons_append, List.nil_append, List.append_nil, List.length_cons, List.length_nil, Nat.reduceAdd, Nat.zero_add, Nat.add_zero, Value.cells, wrV]; first | done | rfl) | rfl) (by first | (simp only [List.set_cons_succ, List.set_cons_zero]; first | done | rfl) | rfl) ?_
  refine sx_nil (hZ _ _ ?_)
  refine awp_forget [(0, _), (2, _), (4, _)] (Kn.cons rfl (Kn.cons rfl (Kn.cons rfl (Kn.nil)))) ?_
  refine awt_seq_region [(0, true), (1, false), (2, true), (3, false), (4, true), (5, false), (6, true), (7, true), (8, true), (9, true)] [(10, false), (11, true), (12, false), (13, true), (14, false), (15, true), (16, false)] mixed (by kernel_rfl) (fun Z hZ => ?_)
  refine tq_p rfl ?_
  refine sp_move rfl rfl ?_
  refine sp_nil ?_
  refine tq_q rfl ?_
  refine sq_callP (rat_fn l 72 8 (by omega) (by omega) hl) rfl rfl ?_
  refine sq_nil ?_
  refine tq_p rfl ?_
  refine sp_move rfl rfl ?_
  refine sp_nil ?_
  refine tq_q rfl ?_
  refine sq_callP (rat_fn l 80 8 (by omega) (by omega) hl) rfl rfl ?_
  refine sq_nil ?_
  refine tq_p rfl ?_
  refine sp_move rfl rfl ?_
  refine sp_nil ?_
  refine tq_q rfl ?_
  refine sq_callP (rat_fn l 88 8 (by omega) (by omega) hl) rfl rfl ?_
  refine sq_nil ?_
  refine tq_p rfl ?_
  refine sp_move rfl rfl ?_
  refine sp_nil ?_
  refine tq_p rfl ?_
  refine sp_indexS Tryz.underlying9 rfl rfl (by omega) (hb 96 (by omega)) rfl ?_
  rw [hq 96 (by omega)]
  refine sp_nil ?_
  refine tq_p rfl ?_
  refine sp_eql rfl rfl rfl ?_
  rw [hcl]
  refine sp_nil ?_
  refine tq_p rfl ?_
  refine sp_fieldAddr rfl tyF101_4 (by first | (simp only [Nat.reduceAdd, Nat.add_zero, Nat.zero_add]; first | done | rfl) | rfl) rfl ?_
  refine sp_nil ?_
  refine tq_nil ?_
  refine tg_g rfl ?_
  refine sx_store1 0 rfl rfl rfl tyS38 rfl (by first | (simp only [List.length_cons, List.length_nil, Nat.reduceAdd, Nat.zero_add, Nat.add_zero]; first | done | rfl) | rfl) (by first | (simp only [List.set_cons_succ, List.set_cons_zero, Nat.reduceAdd, Nat.add_zero, Nat.zero_add]; first | done | rfl) | rfl) (by first | (simp only [List.set_cons_succ, List.set_cons_zero]; first | done | rfl) | rfl) ?_
  refine sx_nil ?_
  refine tg_p rfl ?_
  refine sp_fieldAddr rfl tyF101_5 (by first | (simp only [Nat.reduceAdd, Nat.add_zero, Nat.zero_add]; first | done | rfl) | rfl) rfl ?_
  refine sp_nil ?_
  refine tg_g rfl ?_
  refine sx_store1 0 rfl rfl rfl tyS38 rfl (by first | (simp only [List.length_cons, List.length_nil, Nat.reduceAdd, Nat.zero_add, Nat.add_zero]; first | done | rfl) | rfl) (by first | (simp only [List.set_cons_succ, List.set_cons_zero, Nat.reduceAdd, Nat.add_zero, Nat.zero_add]; first | done | rfl) | rfl) (by first | (simp only [List.set_cons_succ, List.set_cons_zero]; first | done | rfl) | rfl) ?_
  refine sx_nil ?_
  refine tg_p rfl ?_
  refine sp_fieldAddr rfl tyF101_6 (by first | (simp only [Nat.reduceAdd, Nat.add_zero, Nat.zero_add]; first | done | rfl) | rfl) rfl ?_
  refine sp_nil ?_
  refine tg_g rfl ?_
  refine sx_store1 0 rfl rfl rfl tyS38 rfl (by first | (simp only [List.length_cons, List.length_nil, Nat.reduceAdd, Nat.zero_add, Nat.add_zero]; first | done | rfl) | rfl) (by first | (simp only [List.set_cons_succ, List.set_cons_zero, Nat.reduceAdd, Nat.add_zero, Nat.zero_add]; first | done | rfl) | rfl) (by first | (simp only [List.set_cons_succ, List.set_cons_zero]; first | done | rfl) | rfl) ?_
  refine sx_nil ?_
  refine tg_p rfl ?_
  refine sp_fieldAddr rfl tyF101_7 (by first | (simp only [Nat.reduceAdd, Nat.add_zero, Nat.zero_add]; first | done | rfl) | rfl) rfl ?_
  refine sp_nil ?_
  refine tg_g rfl ?_
  refine sx_store1 0 rfl rfl rfl tyS4 rfl (by first | (simp only [List.length_cons, List.length_nil, Nat.reduceAdd, Nat.zero_add, Nat.add_zero]; first | done | rfl) | rfl) (by first | (simp only [List.set_cons_succ, List.set_cons_zero, Nat.reduceAdd, Nat.add_zero, Nat.zero_add]; first | done | rfl) | rfl) (by first | (simp only [List.set_cons_succ, List.set_cons_zero]; first | done | rfl) | rfl) ?_
  refine sx_nil ?_
  refine tg_nil (hZ _ _ ?_)
  refine awp_forget [(0, _), (2, _), (4, _)] (Kn.cons rfl (Kn.cons rfl (Kn.cons rfl (Kn.nil)))) ?_
  refine awt_seq_region [(0, true), (1, true), (2, true), (3, true), (4, true), (5, true), (6, true), (7, true), (8, true), (9, true), (10, true), (11, true), (12, true)] [(13, false), (14, true), (15, false), (16, true), (17, false), (18, true), (19, false), (20, true), (21, false)] mixed (by kernel_rfl) (fun Z hZ => ?_)
  refine tq_p rfl ?_
  refine sp_move rfl rfl ?_
  refine sp_nil ?_
  refine tq_p rfl ?_
  refine sp_indexS Tryz.underlying9 rfl rfl (by omega) (hb 97 (by omega)) rfl ?_
  rw [hq 97 (by omega)]
  refine sp_nil ?_
  refine tq_p rfl ?_
  refine sp_move rfl rfl ?_
  refine sp_nil ?_
  refine tq_p rfl ?_
  refine sp_indexS Tryz.underlying9 rfl rfl (by omega) (hb 98 (by omega)) rfl ?_
  rw [hq 98 (by omega)]
  refine sp_nil ?_
  refine tq_p rfl ?_
  refine sp_move rfl rfl ?_
  refine sp_nil ?_
  refine tq_p rfl ?_
  refine sp_indexS Tryz.underlying9 rfl rfl (by omega) (hb 99 (by omega)) rfl ?_
  rw [hq 99 (by omega)]
  refine sp_nil ?_
  refine tq_p rfl ?_
  refine sp_move rfl rfl ?_
  refine sp_nil ?_
  refine tq_p rfl ?_
  refine sp_indexS Tryz.underlying9 rfl rfl (by omega) (hb 100 (by omega)) rfl ?_
  rw [hq 100 (by omega)]
  refine sp_nil ?_
  refine tq_p rfl ?_
  refine sp_conv Tryz.underlying5 Tryz.underlying3 rfl _ (hi 100) rfl ?_
  refine sp_nil ?_
  refine tq_p rfl ?_
  refine sp_move rfl rfl ?_
  refine sp_nil ?_
  refine tq_p rfl ?_
  refine sp_indexS Tryz.underlying9 rfl rfl (by omega) (hb 101 (by omega)) rfl ?_
  rw [hq 101 (by omega)]
  refine sp_nil ?_
  refine tq_p rfl ?_
  refine sp_conv Tryz.underlying5 Tryz.underlying3 rfl _ (hi 101) rfl ?_
  refine sp_nil ?_
  refine tq_p rfl ?_
  refine sp_fieldAddr rfl tyF101_8 (by first | (simp only [Nat.reduceAdd, Nat.add_zero, Nat.zero_add]; first | done | rfl) | rfl) rfl ?_
  refine sp_nil ?_
  refine tq_nil ?_
  refine tg_g rfl ?_
  refine sx_store1 0 rfl rfl rfl tyS5 rfl (by first | (simp only [List.length_cons, List.length_nil, Nat.reduceAdd, Nat.zero_add, Nat.add_zero]; first | done | rfl) | rfl) (by first | (simp only [List.set_cons_succ, List.set_cons_zero, Nat.reduceAdd, Nat.add_zero, Nat.zero_add]; first | done | rfl) | rfl) (by first | (simp only [List.set_cons_succ, List.set_cons_zero]; first | done | rfl) | rfl) ?_
  refine sx_nil ?_
  refine tg_p rfl ?_
  refine sp_fieldAddr rfl tyF101_9 (by first | (simp only [Nat.reduceAdd, Nat.add_zero, Nat.zero_add]; first | done | rfl) | rfl) rfl ?_
  refine sp_nil ?_
  refine tg_g rfl ?_
  refine sx_store1 0 rfl rfl rfl tyS5 rfl (by first | (simp only [List.length_cons, List.length_nil, Nat.reduceAdd, Nat.zero_add, Nat.add_zero]; first | done | rfl) | rfl) (by first | (simp only [List.set_cons_succ, List.set_cons_zero, Nat.reduceAdd, Nat.add_zero, Nat.zero_add]; first | done | rfl) | rfl) (by first | (simp only [List.set_cons_succ, List.set_cons_zero]; first | done | rfl) | rfl) ?_
  refine sx_nil ?_
  refine tg_p rfl ?_
  refine sp_fieldAddr rfl tyF101_10 (by first | (simp only [Nat.reduceAdd, Nat.add_zero, Nat.zero_add]; first | done | rfl) | rfl) rfl ?_
  refine sp_nil ?_
  refine tg_g rfl ?_
  refine sx_store1 0 rfl rfl rfl tyS5 rfl (by first | (simp only [List.length_cons, List.length_nil, Nat.reduceAdd, Nat.zero_add, Nat.add_zero]; first | done | rfl) | rfl) (by first | (simp only [List.set_cons_succ, List.set_cons_zero, Nat.reduceAdd, Nat.add_zero, Nat.zero_add]; first | done | rfl) | rfl) (by first | (simp only [List.set_cons_succ, List.set_cons_zero]; first | done | rfl) | rfl) ?_
  refine sx_nil ?_
  refine tg_p rfl ?_
  refine sp_fieldAddr rfl tyF101_11 (by first | (simp only [Nat.reduceAdd, Nat.add_zero, Nat.zero_add]; first | done | rfl) | rfl) rfl ?_
  refine sp_nil ?_
  refine tg_g rfl ?_
  refine sx_store1 0 rfl rfl rfl tyS3 rfl (by first | (simp only [List.length_cons, List.length_nil, Nat.reduceAdd, Nat.zero_add, Nat.add_zero]; first | done | rfl) | rfl) (by first | (simp only [List.set_cons_succ, List.set_cons_zero, Nat.reduceAdd, Nat.add_zero, Nat.zero_add]; first | done | rfl) | rfl) (by first | (simp only [List.set_cons_succ, List.set_cons_zero]; first | done | rfl) | rfl) ?_
  refine sx_nil ?_
  refine tg_p rfl ?_
  refine sp_fieldAddr rfl tyF101_12 (by first | (simp only [Nat.reduceAdd, Nat.add_zero, Nat.zero_add]; first | done | rfl) | rfl) rfl ?_
  refine sp_nil ?_
  refine tg_g rfl ?_
  refine sx_store1 0 rfl rfl rfl tyS3 rfl (by first | (simp only [List.length_cons, List.length_nil, Nat.reduceAdd, Nat.zero_add, Nat.add_zero]; first | done | rfl) | rfl) (by first | (simp only [List.set_cons_succ, List.set_cons_zero, Nat.reduceAdd, Nat.add_zero, Nat.zero_add]; first | done | rfl) | rfl) (by first | (simp only [List.set_cons_succ, List.set_cons_zero]; first | done | rfl) | rfl) ?_
  refine sx_nil ?_
  refine tg_nil (hZ _ _ ?_)
  refine awp_forget [(0, _), (2, _), (4, _)] (Kn.cons rfl (Kn.cons rfl (Kn.cons rfl (Kn.nil)))) ?_
  refine awp_seq_region (fun Z hZ => ?_)
  refine sx_move rfl rfl ?_
  refine sx_callP (rdegree_fn l 102 (by omega) hl) rfl rfl ?_
  refine sx_move rfl rfl ?_
  refine sx_callP (rdegree_fn l 106 (by omega) hl) rfl rfl ?_
  refine sx_move rfl rfl ?_
  refine sx_callP (rdegree_fn l 110 (by omega) hl) rfl rfl ?_
  refine sx_move rfl rfl ?_
  refine sx_callP (rdegree_fn l 114 (by omega) hl) rfl rfl ?_
  refine sx_fieldAddr rfl tyF101_13 (by first | (simp only [Nat.reduceAdd, Nat.add_zero, Nat.zero_add]; first | done | rfl) | rfl) rfl ?_
  refine sx_store1 0 rfl rfl rfl tyS3 rfl (by first | (simp only [List.length_cons, List.length_nil, Nat.reduceAdd, Nat.zero_add, Nat.add_zero]; first | done | rfl) | rfl) (by first | (simp only [List.set_cons_succ, List.set_cons_zero, Nat.reduceAdd, Nat.add_zero, Nat.zero_add]; first | done | rfl) | rfl) (by first | (simp only [List.set_cons_succ, List.set_cons_zero]; first | done | rfl) | rfl) ?_
  refine sx_fieldAddr rfl tyF101_14 (by first | (simp only [Nat.reduceAdd, Nat.add_zero, Nat.zero_add]; first | done | rfl) | rfl) rfl ?_
  refine sx_store1 0 rfl rfl rfl tyS3 rfl (by first | (simp only [List.length_cons, List.length_nil, Nat.reduceAdd, Nat.zero_add, Nat.add_zero]; first | done | rfl) | rfl) (by first | (simp only [List.set_cons_succ, List.set_cons_zero, Nat.reduceAdd, Nat.add_zero, Nat.zero_add]; first | done | rfl) | rfl) (by first | (simp only [List.set_cons_succ, List.set_cons_zero]; first | done | rfl) | rfl) ?_
  refine sx_fieldAddr rfl tyF101_15 (by first | (simp only [Nat.reduceAdd, Nat.add_zero, Nat.zero_add]; first | done | rfl) | rfl) rfl ?_
  refine sx_store1 0 rfl rfl rfl tyS3 rfl (by first | (simp only [List.length_cons, List.length_nil, Nat.reduceAdd, Nat.zero_add, Nat.add_zero]; first | done | rfl) | rfl) (by first | (simp only [List.set_cons_succ, List.set_cons_zero, Nat.reduceAdd, Nat.add_zero, Nat.zero_add]; first | done | rfl) | rfl) (by first | (simp only [List.set_cons_succ, List.set_cons_zero]; first | done | rfl) | rfl) ?_
  refine sx_fieldAddr rfl tyF101_16 (by first | (simp only [Nat.reduceAdd, Nat.add_zero, Nat.zero_add]; first | done | rfl) | rfl) rfl ?_
  refine sx_store1 0 rfl rfl rfl tyS3 rfl (by first | (simp only [List.length_cons, List.length_nil, Nat.reduceAdd, Nat.zero_add, Nat.add_zero]; first | done | rfl) | rfl) (by first | (simp only [List.set_cons_succ, List.set_cons_zero, Nat.reduceAdd, Nat.add_zero, Nat.zero_add]; first | done | rfl) | rfl) (by first | (simp only [List.set_cons_succ, List.set_cons_zero]; first | done | rfl) | rfl) ?_
  refine sx_nil (hZ _ _ ?_)
  refine awp_forget [(0, _), (2, _), (4, _)] (Kn.cons rfl (Kn.cons rfl (Kn.cons rfl (Kn.nil)))) ?_
  refine awh_seq_region [0, 1, 2, 3, 4, 5, 6, 7] [8, 9, 10, 11, 12] mixed (by kernel_rfl) rfl rfl (fun Z hZ => ?_)
  refine sq_move rfl rfl ?_
  refine sq_indexS Tryz.underlying9 rfl rfl (by omega) (hb 118 (by omega)) rfl ?_
  rw [hq 118 (by omega)]
  refine sq_conv Tryz.underlying5 Tryz.underlying3 rfl _ (hi 118) rfl ?_
  refine sq_move rfl rfl ?_
  refine sq_callP (rdegree_fn l 119 (by omega) hl) rfl rfl ?_
  refine sq_move rfl rfl ?_
  refine sq_callP (rdegree_fn l 123 (by omega) hl) rfl rfl ?_
  refine sq_fieldAddr rfl tyF101_17 (by first | (simp only [Nat.reduceAdd, Nat.add_zero, Nat.zero_add]; first | done | rfl) | rfl) rfl ?_
  refine sq_nil ?_
  refine sx_store1 0 rfl rfl rfl tyS3 rfl (by first | (simp only [List.length_cons, List.length_nil, Nat.reduceAdd, Nat.zero_add, Nat.add_zero]; first | done | rfl) | rfl) (by first | (simp only [List.set_cons_succ, List.set_cons_zero, Nat.reduceAdd, Nat.add_zero, Nat.zero_add]; first | done | rfl) | rfl) (by first | (simp only [List.set_cons_succ, List.set_cons_zero]; first | done | rfl) | rfl) ?_
  refine sx_fieldAddr rfl tyF101_18 (by first | (simp only [Nat.reduceAdd, Nat.add_zero, Nat.zero_add]; first | done | rfl) | rfl) rfl ?_
  refine sx_store1 0 rfl rfl rfl tyS3 rfl (by first | (simp only [List.length_cons, List.length_nil, Nat.reduceAdd, Nat.zero_add, Nat.add_zero]; first | done | rfl) | rfl) (by first | (simp only [List.set_cons_succ, List.set_cons_zero, Nat.reduceAdd, Nat.add_zero, Nat.zero_add]; first | done | rfl) | rfl) (by first | (simp only [List.set_cons_succ, List.set_cons_zero]; first | done | rfl) | rfl) ?_
  refine sx_fieldAddr rfl tyF101_19 (by first | (simp only [Nat.reduceAdd, Nat.add_zero, Nat.zero_add]; first | done | rfl) | rfl) rfl ?_
  refine sx_store1 0 rfl rfl rfl tyS3 rfl (by first | (simp only [List.length_cons, List.length_nil, Nat.reduceAdd, Nat.zero_add, Nat.add_zero]; first | done | rfl) | rfl) (by first | (simp only [List.set_cons_succ, List.set_cons_zero, Nat.reduceAdd, Nat.add_zero, Nat.zero_add]; first | done | rfl) | rfl) (by first | (simp only [List.set_cons_succ, List.set_cons_zero]; first | done | rfl) | rfl) ?_
  refine sx_nil (hZ _ _ ?_)
  refine awp_forget [(2, _), (4, _)] (Kn.cons rfl (Kn.cons rfl (Kn.nil))) ?_
  refine awp_heap [.own _ 101 (decH l).cells, .own g1 101 zeroH.cells] (HLe.pick [0, 1] (by simp) rfl) ?_

  refine awp_seq ?_
  refine awp_seq_region (fun Z hZ => ?_)
  refine sx_loadA 0 rfl rfl tyA101 tyS101 (by first | (simp only [List.length_cons, List.length_nil, Nat.reduceAdd, Nat.zero_add, Nat.add_zero]; first | done | rfl) | rfl) (by first | (simp only [List.take_succ_cons, List.take_zero, List.drop_succ_cons, List.drop_zero, List.cons_append, List.nil_append, List.append_nil, List.length_cons, List.length_nil, Nat.reduceAdd, Nat.zero_add, Nat.add_zero, Value.cells, wrV]; first | done | rfl) | rfl) rfl ?_
  refine sx_callP (rcheck_fn (decH l)) rfl rfl ?_
  refine sx_assign rfl rfl ?_
  refine sx_nil (hZ _ _ ?_)
  refine awp_forget [(2, _), (4, _), (5, _)] (Kn.cons rfl (Kn.cons rfl (Kn.cons rfl (Kn.nil)))) ?_
  refine awp_seq_region (fun Z hZ => ?_)
  refine sx_move rfl rfl ?_
  refine sx_neq rfl rfl rfl ?_
  refine sx_nil (hZ _ _ ?_)
  refine awp_forget [(2, _), (4, _), (5, _), (86, _)] (Kn.cons rfl (Kn.cons rfl (Kn.cons rfl (Kn.cons rfl (Kn.nil))))) ?_
  have hE : decE l = checkV (decH l) := by unfold decE; rw [if_neg (by omega), if_neg (by simp [h7]), if_neg (by simp [h3]), if_neg h96]
  refine awp_cond rfl (fun h86 => ?_) (fun h86 => ?_)
  · refine awp_seq_region (fun Z hZ => ?_)
    refine sx_build tyZ101 tyP101 rfl rfl (by first | (simp only [List.take_succ_cons, List.take_zero, List.drop_succ_cons, List.drop_zero, List.cons_append, List.nil_append, List.append_nil, List.length_cons, List.length_nil, Nat.reduceAdd, Nat.zero_add, Nat.add_zero, Value.cells, wrV, zrep_one, List.replicate_succ, List.replicate_zero, Nat.reduceMul, Nat.zero_mul]; first | done | rfl) | rfl) rfl ?_
    refine sx_move rfl rfl ?_
    refine sx_store 1 rfl rfl rfl tyS101 (by first | (simp only [Value.cells]; first | done | rfl) | rfl) rfl rfl (by first | (simp only [List.length_cons, List.length_nil, Nat.reduceAdd, Nat.zero_add, Nat.add_zero]; first | done | rfl) | rfl) (by first | (simp only [List.take_succ_cons, List.take_zero, List.drop_succ_cons, List.drop_zero, List.cons_append, List.nil_append, List.append_nil, List.length_cons, List.length_nil, Nat.reduceAdd, Nat.zero_add, Nat.add_zero, Value.cells, wrV]; first | done | rfl) | rfl) (by first | (simp only [List.set_cons_succ, List.set_cons_zero]; first | done | rfl) | rfl) ?_
    refine sx_assign rfl rfl ?_
    refine sx_nil (hZ _ _ ?_)
    refine awp_ret ?_
    repeat (with_reducible refine nx_then_ret ?_)
    have hne : ¬ checkV (decH l) = 0 := by simpa using h86
    exact nx_ret2 rfl (ResOk.cell 1 rfl rfl tyA101 tyS101 rfl) rfl (hz _ hE hne)
  refine awp_skip ?_
  with_reducible refine nx_normal ?_
  have hc0 : checkV (decH l) = 0 := by simpa using h86
  refine awp_seq_region (fun Z hZ => ?_)
  refine sx_loadA 0 rfl rfl tyA101 tyS101 (by first | (simp only [List.length_cons, List.length_nil, Nat.reduceAdd, Nat.zero_add, Nat.add_zero]; first | done | rfl) | rfl) (by first | (simp only [List.take_succ_cons, List.take_zero, List.drop_succ_cons, List.drop_zero, List.cons_append, List.nil_append, List.append_nil, List.length_cons, List.length_nil, Nat.reduceAdd, Nat.zero_add, Nat.add_zero, Value.cells, wrV]; first | done | rfl) | rfl) rfl ?_
  refine sx_store 1 rfl rfl rfl tyS101 (by first | (simp only [Value.cells]; first | done | rfl) | rfl) rfl rfl (by first | (simp only [List.length_cons, List.length_nil, Nat.reduceAdd, Nat.zero_add, Nat.add_zero]; first | done | rfl) | rfl) (by first | (simp only [List.take_succ_cons, List.take_zero, List.drop_succ_cons, List.drop_zero, List.cons_append, List.nil_append, List.append_nil, List.length_cons, List.length_nil, Nat.reduceAdd, Nat.zero_add, Nat.add_zero, Value.cells, wrV]; first | done | rfl) | rfl) (by first | (simp only [List.set_cons_succ, List.set_cons_zero]; first | done | rfl) | rfl) ?_
  refine sx_assign rfl rfl ?_
  refine sx_nil (hZ _ _ ?_)
  refine awp_ret ?_
  refine nx_ret2 rfl (ResOk.cell 1 rfl rfl tyA101 tyS101 rfl) rfl ?_
  have : decV l = decH l := by unfold decV; rw [hE, if_pos hc0]
  rw [this, hE, hc0]
  rfl
end Go.Proofs.YtahmhcmfeloclaaGreat.Y
