/- Calls that the laws of shelf are given: their rows as arguments, over. Conditions: the lists are not too long. -/
import Derived.Test.YtjelakmndcecoaaSh8
import Derived.Test.YtjelakmndcecoaaGop2
namespace Go.Proofs.Ytjelakmndcecoaa
open Go.RowKit
set_option linter.unusedVariables false
set_option linter.unusedSimpArgs false
set_option maxRecDepth 100000
structure Opn where
  d : Nat
  k : Ky
  v : List UInt8
def ocell (o : Opn) : List Value := [.int .u8 (o.d : Int), uq o.k.1, uq o.k.2, .string (str o.v)]
theorem ocell_len (o : Opn) : (ocell o).length = 4 := rfl
def ocells (L : List Opn) : List Value := L.flatMap ocell
theorem ocells_v {L : List Opn} {i : Nat} {x : Opn} (h : L[i]? = some x) : rdV false 1 (ocells L) (i * 4 + 3) = some (.string (str x.v)) := fm_rd1 ocell_len h rfl
theorem ocells_all {L : List Opn} {i : Nat} {x : Opn} (h : L[i]? = some x) : rdV true 4 (ocells L) (i * 4) = some (.agg #[.int .u8 (x.d : Int), uq x.k.1, uq x.k.2, .string (str x.v)]) := fm_rd ocell_len h
def overV (L : List Opn) (most : Nat) : Bool := (L.any fun x => decide (400 < x.v.length)) || decide (most < L.length)
theorem over_fn (A : Option Addr) (c : Nat) (L : List Opn) (most : Nat) (hA : ArgOk A L.length) (hL : L.length ≤ maxLen) (T : Heap) (hT : 0 < L.length → T = roE A (ocells L)) : Fn Try.prog 9 [.slice A L.length c, iq most] T fun v _ => v = .bool (overV L most) := by
  have hL' : L.length ≤ 9223372036854775807 := hL
  refine Fn.enter (N := 23) Try.func9 rfl (by kernel_rfl) rfl (fun w0 => ?_)

  refine awp_seq_region (fun Z hZ => ?_)
  refine sx_assign rfl rfl ?_
  refine sx_nil (hZ _ _ ?_)
  refine awp_forget [(0, _), (1, _)] (Kn.cons rfl (Kn.cons rfl (Kn.nil))) ?_
  refine awp_seq ?_
  refine awp_seq_region (fun Z hZ => ?_)
  refine sx_assign rfl rfl ?_
  refine sx_nil (hZ _ _ ?_)
  refine awp_forget [(0, _), (1, _), (5, _)] (Kn.cons rfl (Kn.cons rfl (Kn.cons rfl (Kn.nil)))) ?_
  refine awp_block ?_
  refine awp_loop (ι := Nat) (fun i => [(0, .slice A L.length c), (1, iq most), (5, iq (i : Nat))]) (fun i => T)
    (fun i => i ≤ L.length ∧ ∀ (j : Nat) (y : Opn), j < i → L[j]? = some y → y.v.length ≤ 400) (fun i => L.length - i) 0 ⟨by omega, fun j y h => by omega⟩ (Kn.cons rfl (Kn.cons rfl (Kn.cons rfl Kn.nil))) (HLe.refl _) ?_
  rintro i ⟨hi, hno⟩
  refine awp_seq ?_
  refine awp_seq_region (fun Z hZ => ?_)
  refine sx_move rfl rfl ?_
  refine sx_move rfl rfl ?_
  first | refine sx_len Try.underlying22 rfl rfl ?_ | refine sx_lenS Try.underlying22 rfl rfl ?_
  first | refine sx_lss rfl rfl rfl ?_ | refine sx_slss rfl rfl rfl ?_
  refine sx_nil (hZ _ _ ?_)
  refine awp_forget [(0, _), (1, _), (5, _), (9, _)] (Kn.cons rfl (Kn.cons rfl (Kn.cons rfl (Kn.cons rfl (Kn.nil))))) ?_
  first | refine awp_cond rfl (fun h => ?_) (fun h => ?_) | refine awp_seq (awp_cond rfl (fun h => ?_) (fun h => ?_))
  · have hlt : i < L.length := by simpa using h
    obtain ⟨x, hx⟩ : ∃ x, L[i]? = some x := ⟨_, List.getElem?_eq_getElem hlt⟩
    obtain ⟨g, o, rfl⟩ := hA (by omega)
    obtain rfl := hT (by omega)
    refine awp_skip ?_
    repeat (with_reducible (first | refine nx_block_normal ?_ | refine nx_scope_normal ?_))
    with_reducible first | refine nx_normal ?_ | refine nx_normalM ?_
    refine awp_seq (awp_block ?_)

    refine awp_seq_region (fun Z hZ => ?_)
    refine sx_move rfl rfl ?_
    refine sx_move rfl rfl ?_
    refine sx_indexAddr (o + i * 4) Try.underlying22 tyS39 rfl rfl (by omega) (by simp) rfl ?_
    refine sx_fieldAddr rfl tyF39_2 (by first | (simp only [Nat.reduceAdd, Nat.add_zero, Nat.zero_add]; first | done | rfl) | rfl) rfl ?_
    refine sx_loadRo 0 rfl rfl (i * 4 + 3) rfl tyA9 tyS9 (ocells_v hx) rfl ?_
    first | refine sx_len Try.underlying9 rfl rfl ?_ | refine sx_lenS Try.underlying9 rfl rfl ?_
    first | refine sx_gtr rfl rfl rfl ?_ | refine sx_sgtr rfl rfl rfl ?_
    refine sx_nil (hZ _ _ ?_)
    refine awp_forget [(0, _), (1, _), (5, _), (18, _)] (Kn.cons rfl (Kn.cons rfl (Kn.cons rfl (Kn.cons rfl (Kn.nil))))) ?_
    first | refine awp_cond rfl (fun he => ?_) (fun he => ?_) | refine awp_seq (awp_cond rfl (fun he => ?_) (fun he => ?_))
    · have hlong : 400 < x.v.length := by simp at he; omega
      refine awp_seq_region (fun Z hZ => ?_)
      refine sx_assign rfl rfl ?_
      refine sx_nil (hZ _ _ ?_)
      refine awp_forget [(4, _)] (Kn.cons rfl (Kn.nil)) ?_
      refine awp_ret ?_
      repeat (with_reducible (first | refine nx_then_ret ?_ | refine nx_block_ret ?_ | refine nx_scope_ret ?_))
      refine nx_ret1 rfl rfl (congrArg Value.bool ?_)
      have : (L.any fun x => decide (400 < x.v.length)) = true := List.any_eq_true.2 ⟨x, List.mem_of_getElem? hx, decide_eq_true hlong⟩
      simp [overV, this]
    refine awp_skip ?_
    repeat (with_reducible (first | refine nx_block_normal ?_ | refine nx_scope_normal ?_))
    with_reducible first | refine nx_normal ?_ | refine nx_normalM ?_
    have hsh : x.v.length ≤ 400 := by simp at he; omega
    refine awp_region (fun Z hZ => ?_)
    refine sx_move rfl rfl ?_
    refine sx_add rfl rfl ((i + 1 : Nat) : Int) (by rw [IntWalk.i64_in _ (by omega)]; omega) rfl ?_
    refine sx_assign rfl rfl ?_
    refine sx_nil (hZ _ _ ?_)
    refine nx_forget [(0, _), (1, _), (5, _)] (Kn.cons rfl (Kn.cons rfl (Kn.cons rfl (Kn.nil)))) ?_
    refine nx_round (i + 1) ⟨by omega, fun j y hj hy => ?_⟩ (by omega) (Kn.cons rfl (Kn.cons rfl (Kn.cons rfl Kn.nil))) (HLe.refl _)
    rcases Nat.lt_or_ge j i with hj' | hj'
    · exact hno j y hj' hy
    · obtain rfl : j = i := by omega
      rw [hx] at hy
      rw [← Option.some.inj hy]
      exact hsh
  · refine awp_exit ?_
    repeat (with_reducible (first | refine nx_then_exit ?_ | refine nx_block_other (by decide) ?_ | refine nx_scope_exit ?_))
    with_reducible refine nx_block_exit ?_
    repeat (with_reducible (first | refine nx_block_normal ?_ | refine nx_scope_normal ?_))
    with_reducible first | refine nx_normal ?_ | refine nx_normalM ?_
    have hke : i = L.length := by simp at h; omega
    subst hke
    refine awp_seq_region (fun Z hZ => ?_)
    refine sx_move rfl rfl ?_
    first | refine sx_len Try.underlying22 rfl rfl ?_ | refine sx_lenS Try.underlying22 rfl rfl ?_
    refine sx_move rfl rfl ?_
    first | refine sx_gtr rfl rfl rfl ?_ | refine sx_sgtr rfl rfl rfl ?_
    refine sx_assign rfl rfl ?_
    refine sx_nil (hZ _ _ ?_)
    refine awp_forget [(4, _)] (Kn.cons rfl (Kn.nil)) ?_
    refine awp_ret ?_
    repeat (with_reducible (first | refine nx_then_ret ?_ | refine nx_block_ret ?_ | refine nx_scope_ret ?_))
    refine nx_ret1 rfl rfl (congrArg Value.bool ?_)
    have : (L.any fun x => decide (400 < x.v.length)) = false := by
      rw [List.any_eq_false]
      intro x hx
      obtain ⟨j, hj⟩ := List.mem_iff_getElem?.1 hx
      have := hno j x (List.getElem?_eq_some_iff.1 hj).1 hj
      simp; omega
    rw [overV, this]
    simp
theorem leaves_op : leaves Try.prog 5 39 = some [.int .u8, .int .u64, .int .u64, .string] := by kernel_rfl
theorem op_of (r : List Value) (h : Alike [.int .u8, .int .u64, .int .u64, .string] r) : ∃ x : Opn, x.d < 256 ∧ r = ocell x := by
  obtain ⟨d, c, rfl, hd, a1⟩ := alike_u8 h
  obtain ⟨k1, c, rfl, _, a2⟩ := alike_u64 a1
  obtain ⟨k2, c, rfl, _, a3⟩ := alike_u64 a2
  cases a3 with
  | cons hs ht =>
    cases ht
    obtain ⟨l, rfl, _⟩ := hs
    exact ⟨⟨d, (k1, k2), l⟩, hd, rfl⟩
theorem open_ops {H : Type} {enc : TypeId × Value → H} {w : World} {b0 : Nat} {r : Reach} {v : Value} {d : DataW H} {p : List MemPlace}
    (hv : Value.okWide Try.prog w r b0 22 v) (h : DataW.Trod enc Try.prog w 0 (fun _ => true) true 22 v d p) :
    ∃ A c, ∃ OL : List Opn, ∃ T : Heap, v = .slice A OL.length c ∧ ArgOk A OL.length ∧ OL.length ≤ maxLen ∧ (∀ x ∈ OL, x.d < 256) ∧ (0 < OL.length → T = roE A (ocells OL)) ∧ Ro T ∧ Sat w [] T w := by
  obtain ⟨A, n, c, rows, rfl, h1, h2, h3, h4⟩ := open_rows 5 Try.underlying22 leaves_op (by kernel_rfl) (by decide) hv h
  obtain ⟨OL, h5, h6, h7⟩ := rows_as (f := ocell) (ok := fun x => x.d < 256) op_of rows h3
  have hn : OL.length = n := by omega
  subst hn
  rw [h5] at h4
  by_cases h0 : 0 < OL.length
  · exact ⟨A, c, OL, roE A (ocells OL), rfl, arg_ok h4, h2, h7, fun _ => rfl, Ro.roE _ _, arg_sat h4 h0⟩
  · exact ⟨A, c, OL, [], rfl, arg_ok h4, h2, h7, fun h => absurd h h0, Ro.nil, Sat.nil w⟩
end Go.Proofs.Ytjelakmndcecoaa
