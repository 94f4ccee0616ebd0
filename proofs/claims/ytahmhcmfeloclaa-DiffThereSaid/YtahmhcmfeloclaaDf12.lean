/- Whether changes are too many; changes as arguments. No conditions. -/
import Derived.Test.YtahmhcmfeloclaaDf11
namespace Go.Proofs.Ytahmhcmfeloclaa
open Go.RowKit
set_option linter.unusedVariables false
set_option linter.unusedSimpArgs false
set_option maxRecDepth 100000
def govQ : Int → List Chg → Bool
  | _, [] => false
  | z, x :: r => if IntKind.i64.wrap (IntKind.i64.wrap (z - (x.old.length : Nat)) - (x.new.length : Nat)) < 0 then true else govQ (IntKind.i64.wrap (IntKind.i64.wrap (z - (x.old.length : Nat)) - (x.new.length : Nat))) r
def govB (L : List Chg) : Bool := govQ 3000 L || decide (60 < L.length)
theorem govB_len {L : List Chg} (h : govB L = false) : L.length ≤ 60 := by
  unfold govB at h
  simp at h
  exact h.2
theorem gover_fn2 (A : Option Addr) (c : Nat) (L : List Chg) (T : Heap) (hA : ArgOk A L.length) (hT : 0 < L.length → T = roE A (gcells L)) (hro : Ro T) (hL : L.length ≤ maxLen) :
    Fn Try.prog 7 [.slice A L.length c, iq 60] T fun v _ => v = .bool (govB L) := by
  have hL' : L.length ≤ 9223372036854775807 := hL
  refine Fn.enter (N := 34) Try.func7 rfl (by kernel_rfl) rfl (fun w0 => ?_)

  refine awp_seq_region (fun Z hZ => ?_)
  refine sx_assign rfl rfl ?_
  refine sx_nil (hZ _ _ ?_)
  refine awp_forget [(0, _), (1, _)] (Kn.cons rfl (Kn.cons rfl (Kn.nil))) ?_
  refine awp_seq_region (fun Z hZ => ?_)
  refine sx_assign rfl rfl ?_
  refine sx_nil (hZ _ _ ?_)
  refine awp_forget [(0, _), (1, _), (5, _)] (Kn.cons rfl (Kn.cons rfl (Kn.cons rfl (Kn.nil)))) ?_
  refine awp_seq ?_
  refine awp_seq_region (fun Z hZ => ?_)
  refine sx_assign rfl rfl ?_
  refine sx_nil (hZ _ _ ?_)
  refine awp_forget [(0, _), (1, _), (5, _), (6, _)] (Kn.cons rfl (Kn.cons rfl (Kn.cons rfl (Kn.cons rfl (Kn.nil))))) ?_
  refine awp_block ?_
  refine awp_loop (ι := Nat × Int) (fun k => [(0, .slice A L.length c), (1, iq 60), (5, iq k.2), (6, iq (k.1 : Nat))]) (fun _ => T)
    (fun k => k.1 ≤ L.length ∧ govQ k.2 (L.drop k.1) = govQ 3000 L) (fun k => L.length - k.1) (0, 3000) ⟨by simp, rfl⟩ (Kn.cons rfl (Kn.cons rfl (Kn.cons rfl (Kn.cons rfl Kn.nil)))) (HLe.refl _) ?_
  rintro ⟨k, z⟩ ⟨hk, hq⟩
  simp only at hk hq

  refine awp_seq ?_
  refine awp_seq_region (fun Z hZ => ?_)
  refine sx_move rfl rfl ?_
  refine sx_move rfl rfl ?_
  first | refine sx_len Try.underlying23 rfl rfl ?_ | refine sx_lenS Try.underlying23 rfl rfl ?_
  first | refine sx_lss rfl rfl rfl ?_ | refine sx_slss rfl rfl rfl ?_
  refine sx_nil (hZ _ _ ?_)
  refine awp_forget [(0, _), (1, _), (5, _), (6, _), (10, _)] (Kn.cons rfl (Kn.cons rfl (Kn.cons rfl (Kn.cons rfl (Kn.cons rfl (Kn.nil)))))) ?_
  first | refine awp_cond rfl (fun h => ?_) (fun h => ?_) | refine awp_seq (awp_cond rfl (fun h => ?_) (fun h => ?_))
  · have hlt : k < L.length := by simpa using h
    have hx := chAt_at hlt
    obtain ⟨x, hxe⟩ : ∃ x, chAt L k = x := ⟨_, rfl⟩
    rw [hxe] at hx
    have hdr : L.drop k = x :: L.drop (k + 1) := by rw [List.drop_eq_getElem_cons hlt]; congr 1; exact (List.getElem?_eq_some_iff.1 hx).2
    rw [hdr, govQ] at hq
    obtain ⟨z1, hz1⟩ : ∃ z1, IntKind.i64.wrap (z - (x.old.length : Nat)) = z1 := ⟨_, rfl⟩
    obtain ⟨z2, hz2⟩ : ∃ z2, IntKind.i64.wrap (z1 - (x.new.length : Nat)) = z2 := ⟨_, rfl⟩
    rw [hz1, hz2] at hq
    obtain ⟨g, o, rfl⟩ := hA (by omega)
    obtain rfl := hT (by omega)
    refine awp_skip ?_
    repeat (with_reducible (first | refine nx_block_normal ?_ | refine nx_scope_normal ?_))
    with_reducible first | refine nx_normal ?_ | refine nx_normalM ?_
    refine awp_seq (awp_block ?_)

    refine awq_seq_region mixed (by kernel_rfl) (fun Z hZ => ?_)
    refine sq_move rfl rfl ?_
    refine sq_move rfl rfl ?_
    refine sq_move rfl rfl ?_
    refine sq_indexAddr (o + k * 3) Try.underlying23 tyS55 rfl rfl (by omega) (by simp) rfl ?_
    refine sq_fieldAddr rfl tyF55_1 (by first | (simp only [Nat.reduceAdd, Nat.add_zero, Nat.zero_add]; first | done | rfl) | rfl) rfl ?_
    refine sq_loadRo 0 rfl rfl (k * 3 + 1) rfl tyA9 tyS9 (gcells_old hx) rfl ?_
    first | refine sq_len Try.underlying9 rfl rfl ?_ | refine sq_lenS Try.underlying9 rfl rfl ?_
    refine sq_sub rfl rfl z1 hz1 rfl ?_
    refine sq_move rfl rfl ?_
    refine sq_move rfl rfl ?_
    refine sq_indexAddr (o + k * 3) Try.underlying23 tyS55 rfl rfl (by omega) (by simp) rfl ?_
    refine sq_fieldAddr rfl tyF55_2 (by first | (simp only [Nat.reduceAdd, Nat.add_zero, Nat.zero_add]; first | done | rfl) | rfl) rfl ?_
    refine sq_loadRo 0 rfl rfl (k * 3 + 2) rfl tyA9 tyS9 (gcells_new hx) rfl ?_
    first | refine sq_len Try.underlying9 rfl rfl ?_ | refine sq_lenS Try.underlying9 rfl rfl ?_
    refine sq_sub rfl rfl z2 hz2 rfl ?_
    refine sq_assign rfl rfl ?_
    refine sq_nil (hZ _ _ ?_)
    refine awp_forget [(0, _), (1, _), (5, _), (6, _)] (Kn.cons rfl (Kn.cons rfl (Kn.cons rfl (Kn.cons rfl (Kn.nil))))) ?_
    refine awp_seq_region (fun Z hZ => ?_)
    refine sx_move rfl rfl ?_
    first | refine sx_lss rfl rfl rfl ?_ | refine sx_slss rfl rfl rfl ?_
    refine sx_nil (hZ _ _ ?_)
    refine awp_forget [(0, _), (1, _), (5, _), (6, _), (29, _)] (Kn.cons rfl (Kn.cons rfl (Kn.cons rfl (Kn.cons rfl (Kn.cons rfl (Kn.nil)))))) ?_
    first | refine awp_cond rfl (fun h2 => ?_) (fun h2 => ?_) | refine awp_seq (awp_cond rfl (fun h2 => ?_) (fun h2 => ?_))
    · have h2' : z2 < 0 := by simpa using h2
      rw [if_pos h2'] at hq
      have hg : govB L = true := by unfold govB; rw [← hq]; rfl
      rw [hg]
      refine awp_seq_region (fun Z hZ => ?_)
      refine sx_assign rfl rfl ?_
      refine sx_nil (hZ _ _ ?_)
      refine awp_forget [(4, _)] (Kn.cons rfl (Kn.nil)) ?_
      refine awp_ret ?_
      repeat (with_reducible (first | refine nx_then_ret ?_ | refine nx_block_ret ?_ | refine nx_scope_ret ?_))
      exact nx_ret1 rfl rfl rfl
    have h2' : ¬ z2 < 0 := by simpa using h2
    rw [if_neg h2'] at hq
    refine awp_skip ?_
    repeat (with_reducible (first | refine nx_block_normal ?_ | refine nx_scope_normal ?_))
    with_reducible first | refine nx_normal ?_ | refine nx_normalM ?_
    refine awp_region (fun Z hZ => ?_)
    refine sx_move rfl rfl ?_
    refine sx_add rfl rfl ((k + 1 : Nat) : Int) (by rw [IntWalk.i64_in _ (by omega)]; omega) rfl ?_
    refine sx_assign rfl rfl ?_
    refine sx_nil (hZ _ _ ?_)
    refine nx_forget [(0, _), (1, _), (5, _), (6, _)] (Kn.cons rfl (Kn.cons rfl (Kn.cons rfl (Kn.cons rfl (Kn.nil))))) ?_
    exact nx_round (k + 1, z2) ⟨hlt, hq⟩ (by simp; omega) (Kn.cons rfl (Kn.cons rfl (Kn.cons rfl (Kn.cons rfl Kn.nil)))) (HLe.refl _)
  · refine awp_exit ?_
    repeat (with_reducible (first | refine nx_then_exit ?_ | refine nx_block_other (by decide) ?_ | refine nx_scope_exit ?_))
    with_reducible refine nx_block_exit ?_
    repeat (with_reducible (first | refine nx_block_normal ?_ | refine nx_scope_normal ?_))
    with_reducible first | refine nx_normal ?_ | refine nx_normalM ?_
    have hke : k = L.length := by simp at h; omega
    subst hke
    rw [List.drop_length, govQ] at hq
    have hg : govB L = decide ((60 : Int) < (L.length : Int)) := by
      unfold govB
      rw [← hq, Bool.false_or, Bool.eq_iff_iff]
      simp
      omega
    rw [hg]
    refine awp_seq_region (fun Z hZ => ?_)
    refine sx_move rfl rfl ?_
    first | refine sx_len Try.underlying23 rfl rfl ?_ | refine sx_lenS Try.underlying23 rfl rfl ?_
    refine sx_move rfl rfl ?_
    first | refine sx_gtr rfl rfl rfl ?_ | refine sx_sgtr rfl rfl rfl ?_
    refine sx_assign rfl rfl ?_
    refine sx_nil (hZ _ _ ?_)
    refine awp_forget [(4, _)] (Kn.cons rfl (Kn.nil)) ?_
    refine awp_ret ?_
    repeat (with_reducible (first | refine nx_then_ret ?_ | refine nx_block_ret ?_ | refine nx_scope_ret ?_))
    exact nx_ret1 rfl rfl rfl
theorem leaves_chg : leaves Try.prog 5 55 = some [.int .u64, .string, .string] := by kernel_rfl
theorem chg_of (r : List Value) (h : Alike [.int .u64, .string, .string] r) : ∃ x : Chg, True ∧ r = x.cells := by
  obtain ⟨a, c, rfl, _, a1⟩ := alike_u64 h
  obtain ⟨s, c, rfl, _, a2⟩ := alike_str a1
  obtain ⟨t, c, rfl, _, a3⟩ := alike_str a2
  cases a3
  exact ⟨⟨a, s, t⟩, trivial, rfl⟩
theorem open_chgs {H : Type} {enc : TypeId × Value → H} {w : World} {b0 : Nat} {r : Reach} {v : Value} {d : DataW H} {p : List MemPlace}
    (hv : Value.okWide Try.prog w r b0 23 v) (h : DataW.Trod enc Try.prog w 0 (fun _ => true) true 23 v d p) :
    ∃ A c, ∃ L : List Chg, ∃ T : Heap, v = .slice A L.length c ∧ ArgOk A L.length ∧ L.length ≤ maxLen ∧ (0 < L.length → T = roE A (gcells L)) ∧ Ro T ∧ Sat w [] T w := by
  obtain ⟨A, n, c, rows, hv2, h1, h2, h3, h4⟩ := open_rows 5 Try.underlying23 leaves_chg (by kernel_rfl) (Nat.succ_pos _) hv h
  subst hv2
  obtain ⟨L, h5, h6, _⟩ := rows_as (f := Chg.cells) (ok := fun _ => True) chg_of rows h3
  have hn : L.length = n := by omega
  subst hn
  rw [h5] at h4
  by_cases h0 : 0 < L.length
  · exact ⟨A, c, L, roE A (gcells L), rfl, arg_ok h4, h2, fun _ => rfl, Ro.roE _ _, arg_sat h4 h0⟩
  · exact ⟨A, c, L, [], rfl, arg_ok h4, h2, fun h => absurd h h0, Ro.nil, Sat.nil w⟩
section
variable {N : Frm} {w0 w : World} {Wr : List Nat} {ops : Array Oper} {rest : List Oper} {fr : Fr} {H : Heap} {Z : Fr → Heap → Prop} {d ty : Nat} {pos : String} {after : Array Edge} {xs : List Operand} {ts : Array TypeId} {A B : Option Addr} {c c2 : Nat}
theorem sx_gturnT (L : List Chg) (hA : SlIn A L.length c) (hS : (roE A (gcells L)).Sublist H) (hL : L.length ≤ 100000) (hx : evs fr xs = some [.slice A L.length c]) (hN : Nat.ble (d + 1) N.n = true)
    (h : ∀ A' c', SlIn A' (turnQ L).length c' → sx Try.prog N w0 Wr ops rest ((d, .slice A' (turnQ L).length c') :: fr) (H ++ roE A' (gcells (turnQ L))) Z) : sx Try.prog N w0 Wr ops ((⟨some d, .call { callee := .value (.func 17), args := xs.toArray, argTypes := ts }, ty, pos, after, none⟩ : Oper) :: rest) fr H Z :=
  sx_gturnE L hA hS hL hx hN fun A' c' hA' => by
    have := h A' c' (by rw [turn_len]; exact hA')
    rwa [turn_len] at this
theorem sx_rturnT (L : List Chg) (T : Heap) (hA : ArgOk A L.length) (hT : 0 < L.length → T = roE A (gcells L)) (hro : Ro T) (hS : T.Sublist H) (hL : L.length ≤ 100000) (hx : evs fr xs = some [.slice A L.length c]) (hN : Nat.ble (d + 1) N.n = true)
    (h : ∀ A' c', SlIn A' (turnQ L).length c' → sx Try.prog N w0 Wr ops rest ((d, .slice A' (turnQ L).length c') :: fr) (H ++ roE A' (gcells (turnQ L))) Z) : sx Try.prog N w0 Wr ops ((⟨some d, .call { callee := .value (.func 18), args := xs.toArray, argTypes := ts }, ty, pos, after, none⟩ : Oper) :: rest) fr H Z :=
  sx_rturnE L T hA hT hro hS hL hx hN fun A' c' hA' => by
    have := h A' c' (by rw [turn_len]; exact hA')
    rwa [turn_len] at this
end
end Go.Proofs.Ytahmhcmfeloclaa
