/- The law's own helpers for charts: Back, Over, Own. Conditions: the lists are not too long. -/
import Derived.Test.YtahmhcmfeloclaaCh11
import Derived.Test.YtahmhcmfeloclaaCh12
import Derived.Test.YtahmhcmfeloclaaCh13
namespace Go.Proofs.Ytahmhcmfeloclaa
open Go.RowKit
set_option linter.unusedVariables false
set_option linter.unusedSimpArgs false
section
variable {P : Program} {N : Frm} {w0 w : World} {Wr : List Nat} {ops : Array Oper} {rest : List Oper} {fr : Fr} {H : Heap} {Z : Fr → Heap → Prop} {d ty : Nat} {pos : String} {after : Array Edge}
theorem row_none {A : Option Addr} {n c : Nat} (hv : RowOk (.slice A n c) n) : A = none → c = 0 := fun ha => by
  rcases hv with ⟨h1, _⟩ | ⟨g, c', h1⟩
  · injection h1
  · injection h1 with h2 _ _; rw [ha] at h2; cases h2
/-- A call that reads a row of one's own, and hands back a new one, if p, or this. -/
theorem sx_callRowW {f : FuncId} {xs : List Operand} {vs : List Value} {ts : Array TypeId} {e : TypeId} {size n n1 n2 c : Nat} {A : Option Addr} {xs0 ys zs : List Value} {p : Prop} (mk : Value → Value) (X : Heap) (hv : RowOk (.slice A n1 c) n1) (hH : HLe (X ++ rowE (.slice A n1 c) e size xs0) H)
    (hc : SlIn A n1 c → Fn P f vs (roE A xs0) fun v H' => ∃ u, v = mk u ∧ ((p ∧ RowOk u n ∧ H' = rowE u e size ys) ∨ (¬ p ∧ u = .slice A n1 c ∧ H' = []))) (hx : evs fr xs = some vs) (hN : Nat.ble (d + 1) N.n = true)
    (hnew : p → n = n2 ∧ ys = zs) (hold : ¬ p → n1 = n2 ∧ xs0 = zs)
    (h : ∀ u, RowOk u n2 → (¬ p → u = .slice A n1 c) → sx P N w0 Wr ops rest ((d, mk u) :: fr) (X ++ rowE u e size zs) Z) :
    sx P N w0 Wr ops (⟨some d, .call { callee := .value (.func f), args := xs.toArray, argTypes := ts }, ty, pos, after, none⟩ :: rest) fr H Z := by
  refine sx_heap _ hH ?_
  refine sx_pure (fun w hw => row_cap hv (fun x hx => List.mem_append_right _ hx) hw) (fun hcap => ?_)
  obtain ⟨A2, c2, he, hA, hle⟩ := hv.ro
  injection he with e1 _ e3
  subst e1 e3
  refine sx_callVU (roE A xs0) (hc ⟨hA, hcap.1, row_none hv⟩) hx (row_view hle X _ _ _) (Ro.roE _ _) hN ?_
  rintro v H' ⟨u, rfl, ⟨hp, hu, rfl⟩ | ⟨hp, rfl, rfl⟩⟩
  · obtain ⟨rfl, rfl⟩ := hnew hp
    rw [rowE_flt]
    exact sx_heap (X ++ rowE u e size ys) ((HLe.swap _ _).trans (HLe.sub (List.Sublist.append_left (List.sublist_append_left _ _) _))) (h u hu (fun hn => absurd hp hn))
  · obtain ⟨rfl, rfl⟩ := hold hp
    exact h _ hv (fun _ => rfl)
end
theorem iback_fn (A : Option Addr) (c : Nat) (L : List It) (T : Heap) (hA : ArgOk A L.length) (hT : 0 < L.length → T = roE A (icells L)) (hro : Ro T) (hL : L.length ≤ 100000) :
    Fn Try.prog 20 [.slice A L.length c] T fun v H' => RowOk v L.length ∧ H' = rowE v 58 2 (icells L) := by
  refine Fn.enter (N := 19) Try.func20 rfl (by kernel_rfl) rfl (fun w0 => ?_)

  refine awp_seq_region (fun Z hZ => ?_)
  refine sx_assign rfl rfl ?_
  refine sx_nil (hZ _ _ ?_)
  refine awp_forget [(0, _)] (Kn.cons rfl (Kn.nil)) ?_
  refine awp_seq_region (fun Z hZ => ?_)
  refine sx_assign rfl rfl ?_
  refine sx_nil (hZ _ _ ?_)
  refine awp_forget [(0, _), (3, _)] (Kn.cons rfl (Kn.cons rfl (Kn.nil))) ?_
  refine awp_seq ?_
  refine awp_seq_region (fun Z hZ => ?_)
  refine sx_assign rfl rfl ?_
  refine sx_nil (hZ _ _ ?_)
  refine awp_forget [(0, _), (3, _), (4, _)] (Kn.cons rfl (Kn.cons rfl (Kn.cons rfl (Kn.nil)))) ?_
  refine awp_block ?_
  refine awp_loop (ι := Nat × Value) (fun i => [(0, .slice A L.length c), (3, i.2), (4, iq (i.1 : Nat))]) (fun i => T ++ rowE i.2 58 2 (icells (L.take i.1)))
    (fun i => i.1 ≤ L.length ∧ RowOk i.2 i.1) (fun i => L.length - i.1) (0, .slice none 0 0) ⟨by simp, RowOk.nil⟩ (Kn.cons rfl (Kn.cons rfl (Kn.cons rfl Kn.nil))) (by simp [rowE]; exact HLe.refl _) ?_
  rintro ⟨i, v⟩ ⟨hi, hv⟩
  simp only at hi hv
  refine awp_seq ?_
  refine awp_seq_region (fun Z hZ => ?_)
  refine sx_move rfl rfl ?_
  refine sx_move rfl rfl ?_
  first | refine sx_len Try.underlying27 rfl rfl ?_ | refine sx_lenS Try.underlying27 rfl rfl ?_
  first | refine sx_lss rfl rfl rfl ?_ | refine sx_slss rfl rfl rfl ?_
  refine sx_nil (hZ _ _ ?_)
  refine awp_forget [(0, _), (3, _), (4, _), (8, _)] (Kn.cons rfl (Kn.cons rfl (Kn.cons rfl (Kn.cons rfl (Kn.nil))))) ?_
  first | refine awp_cond rfl (fun h => ?_) (fun h => ?_) | refine awp_seq (awp_cond rfl (fun h => ?_) (fun h => ?_))
  · have hlt : i < L.length := by simpa using h
    have hx := itAt_at hlt
    obtain ⟨x, hxe⟩ : ∃ x, itAt L i = x := ⟨_, rfl⟩
    rw [hxe] at hx
    obtain ⟨g, o, rfl⟩ := hA (by omega)
    obtain rfl := hT (by omega)
    refine awp_heap (.ro g o (icells L) :: rowE v 58 2 (icells (L.take i))) (HLe.refl _) ?_
    refine awp_skip ?_
    repeat (with_reducible (first | refine nx_block_normal ?_ | refine nx_scope_normal ?_))
    with_reducible first | refine nx_normal ?_ | refine nx_normalM ?_
    refine awp_seq (awp_block ?_)

    refine awp_region (fun Z hZ => ?_)
    refine sx_move rfl rfl ?_
    refine sx_move rfl rfl ?_
    refine sx_move rfl rfl ?_
    refine sx_indexAddr (o + i * 2) Try.underlying27 tyS60 rfl rfl (by omega) (by simp) rfl ?_
    refine sx_loadRo 0 rfl rfl (i * 2) rfl tyA60 tyS60 (icells_all hx) rfl ?_
    refine sx_buildSlice Try.underlying22 tyS58 tyZ58 rfl rfl rfl rfl (by first | (simp only [List.take_succ_cons, List.take_zero, List.drop_succ_cons, List.drop_zero, List.cons_append, List.nil_append, List.append_nil, List.length_cons, List.length_nil, Nat.reduceAdd, Nat.zero_add, Nat.add_zero, Value.cells, wrV, zrep_one, List.replicate_succ, List.replicate_zero, Nat.reduceMul, Nat.zero_mul]; first | done | rfl) | rfl) rfl (fun g1 => ?_)
    refine sx_appendE [_, _] elemItR rfl hv (by rw [icells_len, List.length_take]; omega) rfl (fun w hw => rd_own (i := 0) (xs := x.cells) rfl rfl hw) rfl (by show _ ≤ 9223372036854775807; omega) (by omega) (HLe.refl _) rfl (fun v2 hv2 => ?_)
    refine sx_assign rfl rfl ?_
    refine sx_nil (hZ _ _ ?_)
    refine nx_forget [(0, _), (3, _), (4, _)] (Kn.cons rfl (Kn.cons rfl (Kn.cons rfl (Kn.nil)))) ?_
    repeat (with_reducible (first | refine nx_block_normal ?_ | refine nx_scope_normal ?_))
    with_reducible first | refine nx_normal ?_ | refine nx_normalM ?_
    refine awp_region (fun Z hZ => ?_)
    refine sx_move rfl rfl ?_
    refine sx_add rfl rfl ((i + 1 : Nat) : Int) (by rw [IntWalk.i64_in _ (by omega)]; omega) rfl ?_
    refine sx_assign rfl rfl ?_
    refine sx_nil (hZ _ _ ?_)
    refine nx_forget [(0, _), (3, _), (4, _)] (Kn.cons rfl (Kn.cons rfl (Kn.cons rfl (Kn.nil)))) ?_
    refine nx_round (i + 1, v2) ⟨by show i + 1 ≤ _; omega, hv2⟩ (by simp; omega) (Kn.cons rfl (Kn.cons rfl (Kn.cons rfl Kn.nil))) ?_
    simp only
    rw [icells_take hx]
    exact HLe.drop 1 rfl
  · refine awp_exit ?_
    repeat (with_reducible (first | refine nx_then_exit ?_ | refine nx_block_other (by decide) ?_ | refine nx_scope_exit ?_))
    with_reducible refine nx_block_exit ?_
    repeat (with_reducible (first | refine nx_block_normal ?_ | refine nx_scope_normal ?_))
    with_reducible first | refine nx_normal ?_ | refine nx_normalM ?_
    have hke : i = L.length := by simp at h; omega
    subst hke
    rw [List.take_length]
    refine awp_seq_region (fun Z hZ => ?_)
    refine sx_move rfl rfl ?_
    refine sx_assign rfl rfl ?_
    refine sx_nil (hZ _ _ ?_)
    refine awp_forget [(2, _)] (Kn.cons rfl (Kn.nil)) ?_
    refine awp_ret ?_
    repeat (with_reducible (first | refine nx_then_ret ?_ | refine nx_block_ret ?_ | refine nx_scope_ret ?_))
    exact nx_ret1h _ rfl rfl (HLe.sub (List.sublist_append_right _ _)) ⟨hv, rfl⟩
/-- What an argument's items are. -/
def ItsTx (L : List It) : Prop := ∀ e ∈ L, e.id < 18446744073709551616 ∧ e.tx.length ≤ maxLen
theorem over_fn (A : Option Addr) (c : Nat) (L : List It) (T : Heap) (hA : ArgOk A L.length) (hT : 0 < L.length → T = roE A (icells L)) (hro : Ro T) (hL : L.length ≤ maxLen) (hE : ItsTx L) (m b : Nat) (hm : m ≤ maxLen) (hb : b ≤ maxLen) :
    Fn Try.prog 6 [.slice A L.length c, iq m, iq b] T fun v _ => v = .bool (decide (b < cBytes L ∨ m < L.length)) := by
  have hL' : L.length ≤ 9223372036854775807 := hL
  have hm' : m ≤ 9223372036854775807 := hm
  have hb' : b ≤ 9223372036854775807 := hb
  refine Fn.enter (N := 28) Try.func6 rfl (by kernel_rfl) rfl (fun w0 => ?_)

  refine awp_seq_region (fun Z hZ => ?_)
  refine sx_assign rfl rfl ?_
  refine sx_nil (hZ _ _ ?_)
  refine awp_forget [(0, _), (1, _), (2, _)] (Kn.cons rfl (Kn.cons rfl (Kn.cons rfl (Kn.nil)))) ?_
  refine awp_seq ?_
  refine awp_seq_region (fun Z hZ => ?_)
  refine sx_assign rfl rfl ?_
  refine sx_nil (hZ _ _ ?_)
  refine awp_forget [(0, _), (1, _), (2, _), (7, _)] (Kn.cons rfl (Kn.cons rfl (Kn.cons rfl (Kn.cons rfl (Kn.nil))))) ?_
  refine awp_block ?_
  refine awp_loop (ι := Nat) (fun k => [(0, .slice A L.length c), (1, iq (m : Nat)), (2, iq ((b - cBytes (L.take k) : Nat) : Nat)), (7, iq (k : Nat))]) (fun _ => T)
    (fun k => k ≤ L.length ∧ cBytes (L.take k) ≤ b) (fun k => L.length - k) 0 ⟨by simp, by simp [cBytes]⟩ (Kn.cons rfl (Kn.cons rfl (Kn.cons (by simp [cBytes, lk, Nat.beq]) (Kn.cons rfl Kn.nil)))) (HLe.refl _) ?_
  rintro k ⟨hk, hq⟩

  refine awp_seq ?_
  refine awp_seq_region (fun Z hZ => ?_)
  refine sx_move rfl rfl ?_
  refine sx_move rfl rfl ?_
  first | refine sx_len Try.underlying22 rfl rfl ?_ | refine sx_lenS Try.underlying22 rfl rfl ?_
  first | refine sx_lss rfl rfl rfl ?_ | refine sx_slss rfl rfl rfl ?_
  refine sx_nil (hZ _ _ ?_)
  refine awp_forget [(0, _), (1, _), (2, _), (7, _), (11, _)] (Kn.cons rfl (Kn.cons rfl (Kn.cons rfl (Kn.cons rfl (Kn.cons rfl (Kn.nil)))))) ?_
  first | refine awp_cond rfl (fun h => ?_) (fun h => ?_) | refine awp_seq (awp_cond rfl (fun h => ?_) (fun h => ?_))
  · have hlt : k < L.length := by simpa using h
    have hx := itAt_at hlt
    have hs := cBytes_snoc hx
    have hl := cBytes_le L (k + 1)
    obtain ⟨x, hxe⟩ : ∃ x, itAt L k = x := ⟨_, rfl⟩
    rw [hxe] at hx hs
    have htl : x.tx.length ≤ 9223372036854775807 := (hE x (List.mem_of_getElem? hx)).2
    obtain ⟨g, o, rfl⟩ := hA (by omega)
    obtain rfl := hT (by omega)
    refine awp_skip ?_
    repeat (with_reducible (first | refine nx_block_normal ?_ | refine nx_scope_normal ?_))
    with_reducible first | refine nx_normal ?_ | refine nx_normalM ?_
    refine awp_seq (awp_block ?_)

    refine awp_seq_region (fun Z hZ => ?_)
    refine sx_move rfl rfl ?_
    refine sx_move rfl rfl ?_
    refine sx_move rfl rfl ?_
    refine sx_indexAddr (o + k * 2) Try.underlying22 tyS58 rfl rfl (by omega) (by simp) rfl ?_
    refine sx_fieldAddr rfl tyF58_1 (by first | (simp only [Nat.reduceAdd, Nat.add_zero, Nat.zero_add]; first | done | rfl) | rfl) rfl ?_
    refine sx_loadRo 0 rfl rfl (k * 2 + 1) rfl tyA9 tyS9 (icells_tx hx) rfl ?_
    first | refine sx_len Try.underlying9 rfl rfl ?_ | refine sx_lenS Try.underlying9 rfl rfl ?_
    refine sx_sub rfl rfl (((b - cBytes (L.take k) : Nat) : Int) - (x.tx.length : Nat)) (by rw [IntWalk.i64_in _ (by omega)]) rfl ?_
    refine sx_assign rfl rfl ?_
    refine sx_nil (hZ _ _ ?_)
    refine awp_forget [(0, _), (1, _), (2, _), (7, _)] (Kn.cons rfl (Kn.cons rfl (Kn.cons rfl (Kn.cons rfl (Kn.nil))))) ?_
    refine awp_seq_region (fun Z hZ => ?_)
    refine sx_move rfl rfl ?_
    first | refine sx_lss rfl rfl rfl ?_ | refine sx_slss rfl rfl rfl ?_
    refine sx_nil (hZ _ _ ?_)
    refine awp_forget [(0, _), (1, _), (2, _), (7, _), (23, _)] (Kn.cons rfl (Kn.cons rfl (Kn.cons rfl (Kn.cons rfl (Kn.cons rfl (Kn.nil)))))) ?_
    first | refine awp_cond rfl (fun h2 => ?_) (fun h2 => ?_) | refine awp_seq (awp_cond rfl (fun h2 => ?_) (fun h2 => ?_))
    · have h2' : b < cBytes L := by simp at h2; omega
      rw [decide_eq_true (p := b < cBytes L ∨ m < L.length) (.inl h2')]
      refine awp_seq_region (fun Z hZ => ?_)
      refine sx_assign rfl rfl ?_
      refine sx_nil (hZ _ _ ?_)
      refine awp_forget [(6, _)] (Kn.cons rfl (Kn.nil)) ?_
      refine awp_ret ?_
      repeat (with_reducible (first | refine nx_then_ret ?_ | refine nx_block_ret ?_ | refine nx_scope_ret ?_))
      exact nx_ret1 rfl rfl rfl
    have h2' : cBytes (L.take (k + 1)) ≤ b := by simp at h2; omega
    have h3 : ((b - cBytes (L.take k) : Nat) : Int) - (x.tx.length : Nat) = ((b - cBytes (L.take (k + 1)) : Nat) : Int) := by omega
    rw [h3]
    refine awp_skip ?_
    repeat (with_reducible (first | refine nx_block_normal ?_ | refine nx_scope_normal ?_))
    with_reducible first | refine nx_normal ?_ | refine nx_normalM ?_
    refine awp_region (fun Z hZ => ?_)
    refine sx_move rfl rfl ?_
    refine sx_add rfl rfl ((k + 1 : Nat) : Int) (by rw [IntWalk.i64_in _ (by omega)]; omega) rfl ?_
    refine sx_assign rfl rfl ?_
    refine sx_nil (hZ _ _ ?_)
    refine nx_forget [(0, _), (1, _), (2, _), (7, _)] (Kn.cons rfl (Kn.cons rfl (Kn.cons rfl (Kn.cons rfl (Kn.nil))))) ?_
    exact nx_round (k + 1) ⟨by omega, h2'⟩ (by omega) (Kn.cons rfl (Kn.cons rfl (Kn.cons rfl (Kn.cons rfl Kn.nil)))) (HLe.refl _)
  · refine awp_exit ?_
    repeat (with_reducible (first | refine nx_then_exit ?_ | refine nx_block_other (by decide) ?_ | refine nx_scope_exit ?_))
    with_reducible refine nx_block_exit ?_
    repeat (with_reducible (first | refine nx_block_normal ?_ | refine nx_scope_normal ?_))
    with_reducible first | refine nx_normal ?_ | refine nx_normalM ?_
    have hke : k = L.length := by simp at h; omega
    subst hke
    rw [List.take_length] at hq
    have hd : decide (b < cBytes L ∨ m < L.length) = decide ((m : Int) < (L.length : Int)) := by
      rw [Bool.eq_iff_iff]
      simp
      omega
    rw [hd]
    refine awp_seq_region (fun Z hZ => ?_)
    refine sx_move rfl rfl ?_
    first | refine sx_len Try.underlying22 rfl rfl ?_ | refine sx_lenS Try.underlying22 rfl rfl ?_
    refine sx_move rfl rfl ?_
    first | refine sx_gtr rfl rfl rfl ?_ | refine sx_sgtr rfl rfl rfl ?_
    refine sx_assign rfl rfl ?_
    refine sx_nil (hZ _ _ ?_)
    refine awp_forget [(6, _)] (Kn.cons rfl (Kn.nil)) ?_
    refine awp_ret ?_
    repeat (with_reducible (first | refine nx_then_ret ?_ | refine nx_block_ret ?_ | refine nx_scope_ret ?_))
    exact nx_ret1 rfl rfl rfl
/-- Items that are put, as far as they may be. -/
def ownQ (L : List It) : List It := L.foldl (fun acc e => putQ e.id e.tx acc) []
theorem ownQ_snoc (L : List It) (x : It) : ownQ (L ++ [x]) = putQ x.id x.tx (ownQ L) := by simp [ownQ]
theorem ownQ_ok (L : List It) : ChOk (ownQ L) := by
  have h : ∀ (L acc : List It), ChOk acc → ChOk (L.foldl (fun acc e => putQ e.id e.tx acc) acc) := by
    intro L
    induction L with
    | nil => exact fun _ h => h
    | cons e r ih => exact fun acc h => ih _ (h.putQ _ _)
  exact h L [] ChOk.nil
theorem own_fn (A : Option Addr) (c : Nat) (L : List It) (T : Heap) (hA : ArgOk A L.length) (hT : 0 < L.length → T = roE A (icells L)) (hro : Ro T) (hL : L.length ≤ 100000) :
    Fn Try.prog 9 [.slice A L.length c] T fun v H' => ∃ u1 u2, v = .tuple #[.agg #[u1], u2] ∧ RowOk u1 (ownQ L).length ∧ RowOk u2 (ownQ L).length ∧ H' = rowE u1 60 2 (icells (ownQ L)) ++ rowE u2 58 2 (icells (ownQ L)) := by
  refine Fn.enter (N := 55) Try.func9 rfl (by kernel_rfl) rfl (fun w0 => ?_)

  refine awp_seq_region (fun Z hZ => ?_)
  refine sx_alloc tyZ29 rfl (fun g1 => ?_)
  refine sx_assign rfl rfl ?_
  refine sx_nil (hZ _ _ ?_)
  refine awp_forget [(0, _), (2, _)] (Kn.cons rfl (Kn.cons rfl (Kn.nil))) ?_
  refine awp_seq_region (fun Z hZ => ?_)
  refine sx_alloc tyZ29 rfl (fun g2 => ?_)
  refine sx_nil (hZ _ _ ?_)
  refine awp_forget [(0, _), (2, _), (4, _)] (Kn.cons rfl (Kn.cons rfl (Kn.cons rfl (Kn.nil)))) ?_
  refine awp_seq_region (fun Z hZ => ?_)
  refine sx_assign rfl rfl ?_
  refine sx_nil (hZ _ _ ?_)
  refine awp_forget [(0, _), (2, _), (4, _), (5, _)] (Kn.cons rfl (Kn.cons rfl (Kn.cons rfl (Kn.cons rfl (Kn.nil))))) ?_
  refine awp_seq ?_
  refine awp_seq_region (fun Z hZ => ?_)
  refine sx_assign rfl rfl ?_
  refine sx_nil (hZ _ _ ?_)
  refine awp_forget [(0, _), (2, _), (4, _), (5, _), (6, _)] (Kn.cons rfl (Kn.cons rfl (Kn.cons rfl (Kn.cons rfl (Kn.cons rfl (Kn.nil)))))) ?_
  refine awp_block ?_
  refine awp_loop (ι := Nat × Value × Value) (fun i => [(0, .slice A L.length c), (2, ptr g1 0), (4, ptr g2 0), (5, i.2.2), (6, iq (i.1 : Nat))])
    (fun i => .own g2 29 [i.2.1] :: .own g1 29 [.slice none 0 0] :: (T ++ (rowE i.2.1 60 2 (icells (ownQ (L.take i.1))) ++ rowE i.2.2 58 2 (icells (ownQ (L.take i.1))))))
    (fun i => i.1 ≤ L.length ∧ RowOk i.2.1 (ownQ (L.take i.1)).length ∧ RowOk i.2.2 (ownQ (L.take i.1)).length) (fun i => L.length - i.1) (0, .slice none 0 0, .slice none 0 0) ⟨by simp, RowOk.nil, RowOk.nil⟩ (Kn.cons rfl (Kn.cons rfl (Kn.cons rfl (Kn.cons rfl (Kn.cons rfl Kn.nil))))) (by simp [rowE]; exact HLe.refl _) ?_
  rintro ⟨i, u1, u2⟩ ⟨hi, hu1, hu2⟩
  simp only at hi hu1 hu2

  refine awp_seq ?_
  refine awp_seq_region (fun Z hZ => ?_)
  refine sx_move rfl rfl ?_
  refine sx_move rfl rfl ?_
  first | refine sx_len Try.underlying22 rfl rfl ?_ | refine sx_lenS Try.underlying22 rfl rfl ?_
  first | refine sx_lss rfl rfl rfl ?_ | refine sx_slss rfl rfl rfl ?_
  refine sx_nil (hZ _ _ ?_)
  refine awp_forget [(0, _), (2, _), (4, _), (5, _), (6, _), (14, _)] (Kn.cons rfl (Kn.cons rfl (Kn.cons rfl (Kn.cons rfl (Kn.cons rfl (Kn.cons rfl (Kn.nil))))))) ?_
  first | refine awp_cond rfl (fun h => ?_) (fun h => ?_) | refine awp_seq (awp_cond rfl (fun h => ?_) (fun h => ?_))
  · have hlt : i < L.length := by simpa using h
    have hx := itAt_at hlt
    obtain ⟨x, hxe⟩ : ∃ x, itAt L i = x := ⟨_, rfl⟩
    rw [hxe] at hx
    have htk : L.take (i + 1) = L.take i ++ [x] := by rw [List.take_add_one, hx]; rfl
    have hok := ownQ_ok (L.take i)
    have hsn := ownQ_snoc (L.take i) x
    rw [← htk] at hsn
    obtain ⟨O, hO⟩ : ∃ O, ownQ (L.take i) = O := ⟨_, rfl⟩
    obtain ⟨e, he⟩ : ∃ e, putE x.id x.tx O = e := ⟨_, rfl⟩
    have hll := hok.len
    rw [hO] at hok hsn hu1 hu2 hll ⊢
    have hput := fun A c (hA : SlIn A O.length c) => put_fn2 A c O (roE A (icells O)) hA (fun _ => rfl) (Ro.roE _ _) (by omega) hok.rise x.id x.tx
    have hputR := fun A c (hA : SlIn A O.length c) => rput_fn2 A c O (roE A (icells O)) hA.arg (fun _ => rfl) (Ro.roE _ _) (by omega) hok.rise x.id x.tx
    have hq1 : putE x.id x.tx O = 0 → (cPut x.id x.tx O).length = (putQ x.id x.tx O).length ∧ icells (cPut x.id x.tx O) = icells (putQ x.id x.tx O) := fun hp => by rw [putQ_new hp]; exact ⟨rfl, rfl⟩
    have hq2 : ¬ putE x.id x.tx O = 0 → O.length = (putQ x.id x.tx O).length ∧ icells O = icells (putQ x.id x.tx O) := fun hp => by rw [putQ_old hp]; exact ⟨rfl, rfl⟩
    rw [he] at hput hputR hq1 hq2
    rw [← hsn] at hq1 hq2
    obtain ⟨g, o, rfl⟩ := hA (by omega)
    obtain rfl := hT (by omega)
    obtain ⟨A1, c1, rfl, hA1⟩ := hu1.form
    obtain ⟨A2, c2, rfl, hA2⟩ := hu2.form
    refine awp_heap (.own g2 29 [.slice A1 O.length c1] :: .ro g o (icells L) :: .own g1 29 [.slice none 0 0] :: (rowE (.slice A1 O.length c1) 60 2 (icells O) ++ rowE (.slice A2 O.length c2) 58 2 (icells O))) (fun _ _ _ hw => hw.perm (List.Perm.cons _ (List.Perm.swap _ _ _))) ?_
    refine awp_skip ?_
    repeat (with_reducible (first | refine nx_block_normal ?_ | refine nx_scope_normal ?_))
    with_reducible first | refine nx_normal ?_ | refine nx_normalM ?_
    refine awp_seq (awp_block ?_)

    refine awk_seq_region (fun j : Value × Nat => [(0, .slice (some ⟨g, o, none⟩) L.length c), (2, ptr g1 0), (4, ptr g2 0), (5, .slice A2 O.length c2), (6, iq (i : Nat)), (7, ptr j.2 0), (8, iq (e : Nat))]) (fun j => .own j.2 29 [j.1] :: .ro g o (icells L) :: .own g2 29 [.slice A1 O.length c1] :: .own g1 29 [.slice none 0 0] :: (rowE j.1 60 2 (icells (ownQ (L.take (i + 1)))) ++ rowE (.slice A2 O.length c2) 58 2 (icells O))) (fun j => RowOk j.1 (ownQ (L.take (i + 1))).length ∧ (¬ e = 0 → j.1 = .slice A1 O.length c1)) _ [11, 15, 16] [(0, true), (1, true), (2, true), (3, true), (4, true), (5, true), (6, true), (7, true), (8, true), (9, true), (10, true), (11, false), (12, true), (13, true), (14, true), (15, false), (16, false), (17, true)] [(0, true), (1, true), (2, true), (3, true), (4, true), (5, true), (6, true), (7, true), (8, true), (9, true), (10, true), (15, false), (11, false), (12, true), (13, true), (14, true), (16, false), (17, true)] mixed (by kernel_rfl) (HLe.pick [0, 1] (by simp) (by simp only [pick, List.filterMap_cons, List.filterMap_nil, List.getElem?_cons_succ, List.getElem?_cons_zero]; rfl)) ?_ ?_ ?_
    · refine tw_p rfl ?_
      first | refine sv_loadA 0 rfl rfl tyA29 tyS29 (by first | (simp only [List.length_cons, List.length_nil, Nat.reduceAdd, Nat.zero_add, Nat.add_zero]; first | done | rfl) | rfl) (by first | (simp only [List.take_succ_cons, List.take_zero, List.drop_succ_cons, List.drop_zero, List.cons_append, List.nil_append, List.append_nil, List.length_cons, List.length_nil, Nat.reduceAdd, Nat.zero_add, Nat.add_zero, Value.cells, wrV]; first | done | rfl) | rfl) rfl ?_ | refine sv_loadA 1 rfl rfl tyA29 tyS29 (by first | (simp only [List.length_cons, List.length_nil, Nat.reduceAdd, Nat.zero_add, Nat.add_zero]; first | done | rfl) | rfl) (by first | (simp only [List.take_succ_cons, List.take_zero, List.drop_succ_cons, List.drop_zero, List.cons_append, List.nil_append, List.append_nil, List.length_cons, List.length_nil, Nat.reduceAdd, Nat.zero_add, Nat.add_zero, Value.cells, wrV]; first | done | rfl) | rfl) rfl ?_
      refine sv_nil ?_
      refine tw_p rfl ?_
      refine sv_move rfl rfl ?_
      refine sv_nil ?_
      refine tw_p rfl ?_
      refine sv_move rfl rfl ?_
      refine sv_nil ?_
      refine tw_p rfl ?_
      refine sv_indexAddr (o + i * 2) Try.underlying22 tyS58 rfl rfl (by omega) (by simp) rfl ?_
      refine sv_nil ?_
      refine tw_p rfl ?_
      refine sv_fieldAddr rfl tyF58_0 (by first | (simp only [Nat.reduceAdd, Nat.add_zero, Nat.zero_add]; first | done | rfl) | rfl) rfl ?_
      refine sv_nil ?_
      refine tw_p rfl ?_
      refine sv_loadRo 1 rfl rfl (i * 2) rfl tyA51 tyS51 (icells_id hx) rfl ?_
      refine sv_nil ?_
      refine tw_p rfl ?_
      refine sv_move rfl rfl ?_
      refine sv_nil ?_
      refine tw_p rfl ?_
      refine sv_move rfl rfl ?_
      refine sv_nil ?_
      refine tw_p rfl ?_
      refine sv_indexAddr (o + i * 2) Try.underlying22 tyS58 rfl rfl (by omega) (by simp) rfl ?_
      refine sv_nil ?_
      refine tw_p rfl ?_
      refine sv_fieldAddr rfl tyF58_1 (by first | (simp only [Nat.reduceAdd, Nat.add_zero, Nat.zero_add]; first | done | rfl) | rfl) rfl ?_
      refine sv_nil ?_
      refine tw_p rfl ?_
      refine sv_loadRo 1 rfl rfl (i * 2 + 1) rfl tyA9 tyS9 (icells_tx hx) rfl ?_
      refine sv_nil ?_
      refine tw_g rfl ?_
      first | refine sx_callRowW (fun u => .tuple #[.agg #[u], iq e]) _ hu1 (HLe.toEnd [_, _, _] _ _) (hput A1 c1) rfl rfl hq1 hq2 (fun u3 hu3 hs3 => ?_) | refine sx_callRowW (fun u => .tuple #[.agg #[u], iq e]) _ hu1 (HLe.toEnd [_, _, _, _] _ _) (hput A1 c1) rfl rfl hq1 hq2 (fun u3 hu3 hs3 => ?_)
      obtain ⟨A3, c3, rfl, _⟩ := hu3.form
      refine sx_nil ⟨HLe.pick [0, 1] (by simp) rfl, ?_⟩
      refine tw_p rfl ?_
      refine sv_move rfl rfl ?_
      refine sv_nil ?_
      refine tw_p rfl ?_
      refine sv_extract rfl rfl rfl ?_
      refine sv_nil ?_
      refine tw_p rfl ?_
      refine sv_extract rfl rfl rfl ?_
      refine sv_nil ?_
      refine tw_g rfl ?_
      refine sx_alloc tyZ29 rfl (fun g3 => ?_)
      refine sx_nil ⟨HLe.pick [1, 2] (by simp) rfl, ?_⟩
      refine tw_g rfl ?_
      first | refine sx_store 0 rfl rfl rfl tyS29 (by first | (simp only [Value.cells]; first | done | rfl) | rfl) rfl rfl (by first | (simp only [List.length_cons, List.length_nil, Nat.reduceAdd, Nat.zero_add, Nat.add_zero]; first | done | rfl) | rfl) (by first | (simp only [List.take_succ_cons, List.take_zero, List.drop_succ_cons, List.drop_zero, List.cons_append, List.nil_append, List.append_nil, List.length_cons, List.length_nil, Nat.reduceAdd, Nat.zero_add, Nat.add_zero, Value.cells, wrV]; first | done | rfl) | rfl) (by first | (simp only [List.set_cons_succ, List.set_cons_zero]; first | done | rfl) | rfl) ?_ | refine sx_store 1 rfl rfl rfl tyS29 (by first | (simp only [Value.cells]; first | done | rfl) | rfl) rfl rfl (by first | (simp only [List.length_cons, List.length_nil, Nat.reduceAdd, Nat.zero_add, Nat.add_zero]; first | done | rfl) | rfl) (by first | (simp only [List.take_succ_cons, List.take_zero, List.drop_succ_cons, List.drop_zero, List.cons_append, List.nil_append, List.append_nil, List.length_cons, List.length_nil, Nat.reduceAdd, Nat.zero_add, Nat.add_zero, Value.cells, wrV]; first | done | rfl) | rfl) (by first | (simp only [List.set_cons_succ, List.set_cons_zero]; first | done | rfl) | rfl) ?_ | refine sx_store 2 rfl rfl rfl tyS29 (by first | (simp only [Value.cells]; first | done | rfl) | rfl) rfl rfl (by first | (simp only [List.length_cons, List.length_nil, Nat.reduceAdd, Nat.zero_add, Nat.add_zero]; first | done | rfl) | rfl) (by first | (simp only [List.take_succ_cons, List.take_zero, List.drop_succ_cons, List.drop_zero, List.cons_append, List.nil_append, List.append_nil, List.length_cons, List.length_nil, Nat.reduceAdd, Nat.zero_add, Nat.add_zero, Value.cells, wrV]; first | done | rfl) | rfl) (by first | (simp only [List.set_cons_succ, List.set_cons_zero]; first | done | rfl) | rfl) ?_ | refine sx_store 3 rfl rfl rfl tyS29 (by first | (simp only [Value.cells]; first | done | rfl) | rfl) rfl rfl (by first | (simp only [List.length_cons, List.length_nil, Nat.reduceAdd, Nat.zero_add, Nat.add_zero]; first | done | rfl) | rfl) (by first | (simp only [List.take_succ_cons, List.take_zero, List.drop_succ_cons, List.drop_zero, List.cons_append, List.nil_append, List.append_nil, List.length_cons, List.length_nil, Nat.reduceAdd, Nat.zero_add, Nat.add_zero, Value.cells, wrV]; first | done | rfl) | rfl) (by first | (simp only [List.set_cons_succ, List.set_cons_zero]; first | done | rfl) | rfl) ?_
      refine sx_nil ⟨HLe.pick [1, 2] (by simp) rfl, ?_⟩
      refine tw_p rfl ?_
      refine sv_assign rfl rfl ?_
      refine sv_nil ?_
      refine tw_nil ?_
      exact ⟨(_, g3), ⟨hu3, hs3⟩, Kn.cons rfl (Kn.cons rfl (Kn.cons rfl (Kn.cons rfl (Kn.cons rfl (Kn.cons rfl (Kn.cons rfl Kn.nil)))))), fun _ _ _ hw => hw.perm (.cons _ ((List.Perm.swap _ _ _).trans (.cons _ (.cons _ (.cons _ List.perm_append_comm)))))⟩
    · refine tw_p rfl ?_
      first | refine sv_loadA 0 rfl rfl tyA29 tyS29 (by first | (simp only [List.length_cons, List.length_nil, Nat.reduceAdd, Nat.zero_add, Nat.add_zero]; first | done | rfl) | rfl) (by first | (simp only [List.take_succ_cons, List.take_zero, List.drop_succ_cons, List.drop_zero, List.cons_append, List.nil_append, List.append_nil, List.length_cons, List.length_nil, Nat.reduceAdd, Nat.zero_add, Nat.add_zero, Value.cells, wrV]; first | done | rfl) | rfl) rfl ?_ | refine sv_loadA 1 rfl rfl tyA29 tyS29 (by first | (simp only [List.length_cons, List.length_nil, Nat.reduceAdd, Nat.zero_add, Nat.add_zero]; first | done | rfl) | rfl) (by first | (simp only [List.take_succ_cons, List.take_zero, List.drop_succ_cons, List.drop_zero, List.cons_append, List.nil_append, List.append_nil, List.length_cons, List.length_nil, Nat.reduceAdd, Nat.zero_add, Nat.add_zero, Value.cells, wrV]; first | done | rfl) | rfl) rfl ?_
      refine sv_nil ?_
      refine tw_p rfl ?_
      refine sv_move rfl rfl ?_
      refine sv_nil ?_
      refine tw_p rfl ?_
      refine sv_move rfl rfl ?_
      refine sv_nil ?_
      refine tw_p rfl ?_
      refine sv_indexAddr (o + i * 2) Try.underlying22 tyS58 rfl rfl (by omega) (by simp) rfl ?_
      refine sv_nil ?_
      refine tw_p rfl ?_
      refine sv_fieldAddr rfl tyF58_0 (by first | (simp only [Nat.reduceAdd, Nat.add_zero, Nat.zero_add]; first | done | rfl) | rfl) rfl ?_
      refine sv_nil ?_
      refine tw_p rfl ?_
      refine sv_loadRo 1 rfl rfl (i * 2) rfl tyA51 tyS51 (icells_id hx) rfl ?_
      refine sv_nil ?_
      refine tw_p rfl ?_
      refine sv_move rfl rfl ?_
      refine sv_nil ?_
      refine tw_p rfl ?_
      refine sv_move rfl rfl ?_
      refine sv_nil ?_
      refine tw_p rfl ?_
      refine sv_indexAddr (o + i * 2) Try.underlying22 tyS58 rfl rfl (by omega) (by simp) rfl ?_
      refine sv_nil ?_
      refine tw_p rfl ?_
      refine sv_fieldAddr rfl tyF58_1 (by first | (simp only [Nat.reduceAdd, Nat.add_zero, Nat.zero_add]; first | done | rfl) | rfl) rfl ?_
      refine sv_nil ?_
      refine tw_p rfl ?_
      refine sv_loadRo 1 rfl rfl (i * 2 + 1) rfl tyA9 tyS9 (icells_tx hx) rfl ?_
      refine sv_nil ?_
      refine tw_g rfl ?_
      refine sx_alloc tyZ29 rfl (fun g3 => ?_)
      refine sx_nil ⟨HLe.pick [1, 2] (by simp) rfl, ?_⟩
      refine tw_g rfl ?_
      first | refine sx_callRowW (fun u => .tuple #[.agg #[u], iq e]) _ hu1 (HLe.toEnd [_, _, _] _ _) (hput A1 c1) rfl rfl hq1 hq2 (fun u3 hu3 hs3 => ?_) | refine sx_callRowW (fun u => .tuple #[.agg #[u], iq e]) _ hu1 (HLe.toEnd [_, _, _, _] _ _) (hput A1 c1) rfl rfl hq1 hq2 (fun u3 hu3 hs3 => ?_)
      obtain ⟨A3, c3, rfl, _⟩ := hu3.form
      refine sx_nil ⟨HLe.pick [1, 2] (by simp) rfl, ?_⟩
      refine tw_p rfl ?_
      refine sv_move rfl rfl ?_
      refine sv_nil ?_
      refine tw_p rfl ?_
      refine sv_extract rfl rfl rfl ?_
      refine sv_nil ?_
      refine tw_p rfl ?_
      refine sv_extract rfl rfl rfl ?_
      refine sv_nil ?_
      refine tw_g rfl ?_
      first | refine sx_store 0 rfl rfl rfl tyS29 (by first | (simp only [Value.cells]; first | done | rfl) | rfl) rfl rfl (by first | (simp only [List.length_cons, List.length_nil, Nat.reduceAdd, Nat.zero_add, Nat.add_zero]; first | done | rfl) | rfl) (by first | (simp only [List.take_succ_cons, List.take_zero, List.drop_succ_cons, List.drop_zero, List.cons_append, List.nil_append, List.append_nil, List.length_cons, List.length_nil, Nat.reduceAdd, Nat.zero_add, Nat.add_zero, Value.cells, wrV]; first | done | rfl) | rfl) (by first | (simp only [List.set_cons_succ, List.set_cons_zero]; first | done | rfl) | rfl) ?_ | refine sx_store 1 rfl rfl rfl tyS29 (by first | (simp only [Value.cells]; first | done | rfl) | rfl) rfl rfl (by first | (simp only [List.length_cons, List.length_nil, Nat.reduceAdd, Nat.zero_add, Nat.add_zero]; first | done | rfl) | rfl) (by first | (simp only [List.take_succ_cons, List.take_zero, List.drop_succ_cons, List.drop_zero, List.cons_append, List.nil_append, List.append_nil, List.length_cons, List.length_nil, Nat.reduceAdd, Nat.zero_add, Nat.add_zero, Value.cells, wrV]; first | done | rfl) | rfl) (by first | (simp only [List.set_cons_succ, List.set_cons_zero]; first | done | rfl) | rfl) ?_ | refine sx_store 2 rfl rfl rfl tyS29 (by first | (simp only [Value.cells]; first | done | rfl) | rfl) rfl rfl (by first | (simp only [List.length_cons, List.length_nil, Nat.reduceAdd, Nat.zero_add, Nat.add_zero]; first | done | rfl) | rfl) (by first | (simp only [List.take_succ_cons, List.take_zero, List.drop_succ_cons, List.drop_zero, List.cons_append, List.nil_append, List.append_nil, List.length_cons, List.length_nil, Nat.reduceAdd, Nat.zero_add, Nat.add_zero, Value.cells, wrV]; first | done | rfl) | rfl) (by first | (simp only [List.set_cons_succ, List.set_cons_zero]; first | done | rfl) | rfl) ?_ | refine sx_store 3 rfl rfl rfl tyS29 (by first | (simp only [Value.cells]; first | done | rfl) | rfl) rfl rfl (by first | (simp only [List.length_cons, List.length_nil, Nat.reduceAdd, Nat.zero_add, Nat.add_zero]; first | done | rfl) | rfl) (by first | (simp only [List.take_succ_cons, List.take_zero, List.drop_succ_cons, List.drop_zero, List.cons_append, List.nil_append, List.append_nil, List.length_cons, List.length_nil, Nat.reduceAdd, Nat.zero_add, Nat.add_zero, Value.cells, wrV]; first | done | rfl) | rfl) (by first | (simp only [List.set_cons_succ, List.set_cons_zero]; first | done | rfl) | rfl) ?_
      refine sx_nil ⟨HLe.pick [1, 2] (by simp) rfl, ?_⟩
      refine tw_p rfl ?_
      refine sv_assign rfl rfl ?_
      refine sv_nil ?_
      refine tw_nil ?_
      exact ⟨(_, g3), ⟨hu3, hs3⟩, Kn.cons rfl (Kn.cons rfl (Kn.cons rfl (Kn.cons rfl (Kn.cons rfl (Kn.cons rfl (Kn.cons rfl Kn.nil)))))), fun _ _ _ hw => hw.perm (.cons _ ((List.Perm.swap _ _ _).trans (.cons _ (.cons _ (.cons _ List.perm_append_comm)))))⟩
    rintro ⟨u3, g7⟩ ⟨hu3, hs3⟩
    simp only at hu3 hs3
    obtain ⟨A3, c3, rfl, _⟩ := hu3.form
    refine awp_heap (.own g7 29 [.slice A3 (ownQ (L.take (i + 1))).length c3] :: .ro g o (icells L) :: .own g2 29 [.slice A1 O.length c1] :: .own g1 29 [.slice none 0 0] :: (rowE (.slice A3 (ownQ (L.take (i + 1))).length c3) 60 2 (icells (ownQ (L.take (i + 1)))) ++ rowE (.slice A2 O.length c2) 58 2 (icells O))) (HLe.refl _) ?_

    refine awp_cut (ι := Value) (fun u => [(0, .slice (some ⟨g, o, none⟩) L.length c), (2, ptr g1 0), (4, ptr g2 0), (5, .slice A2 O.length c2), (6, iq (i : Nat))]) (fun u => .ro g o (icells L) :: .own g2 29 [u] :: .own g1 29 [.slice none 0 0] :: (rowE u 60 2 (icells (ownQ (L.take (i + 1)))) ++ rowE (.slice A2 O.length c2) 58 2 (icells O))) (fun u => RowOk u (ownQ (L.take (i + 1))).length) ?_ ?_
    · refine awp_seq_region (fun Z hZ => ?_)
      refine sx_move rfl rfl ?_
      first | refine sx_eql rfl rfl rfl ?_ | refine sx_seql rfl rfl rfl ?_
      refine sx_nil (hZ _ _ ?_)
      refine awp_forget [(0, _), (2, _), (4, _), (5, _), (6, _), (7, _), (33, _)] (Kn.cons rfl (Kn.cons rfl (Kn.cons rfl (Kn.cons rfl (Kn.cons rfl (Kn.cons rfl (Kn.cons rfl (Kn.nil)))))))) ?_
      first | refine awp_cond rfl (fun h2 => ?_) (fun h2 => ?_) | refine awp_seq (awp_cond rfl (fun h2 => ?_) (fun h2 => ?_))
      · refine awp_region (fun Z hZ => ?_)
        first | refine sx_loadA 0 rfl rfl tyA29 tyS29 (by first | (simp only [List.length_cons, List.length_nil, Nat.reduceAdd, Nat.zero_add, Nat.add_zero]; first | done | rfl) | rfl) (by first | (simp only [List.take_succ_cons, List.take_zero, List.drop_succ_cons, List.drop_zero, List.cons_append, List.nil_append, List.append_nil, List.length_cons, List.length_nil, Nat.reduceAdd, Nat.zero_add, Nat.add_zero, Value.cells, wrV]; first | done | rfl) | rfl) rfl ?_ | refine sx_loadA 1 rfl rfl tyA29 tyS29 (by first | (simp only [List.length_cons, List.length_nil, Nat.reduceAdd, Nat.zero_add, Nat.add_zero]; first | done | rfl) | rfl) (by first | (simp only [List.take_succ_cons, List.take_zero, List.drop_succ_cons, List.drop_zero, List.cons_append, List.nil_append, List.append_nil, List.length_cons, List.length_nil, Nat.reduceAdd, Nat.zero_add, Nat.add_zero, Value.cells, wrV]; first | done | rfl) | rfl) rfl ?_ | refine sx_loadA 2 rfl rfl tyA29 tyS29 (by first | (simp only [List.length_cons, List.length_nil, Nat.reduceAdd, Nat.zero_add, Nat.add_zero]; first | done | rfl) | rfl) (by first | (simp only [List.take_succ_cons, List.take_zero, List.drop_succ_cons, List.drop_zero, List.cons_append, List.nil_append, List.append_nil, List.length_cons, List.length_nil, Nat.reduceAdd, Nat.zero_add, Nat.add_zero, Value.cells, wrV]; first | done | rfl) | rfl) rfl ?_ | refine sx_loadA 3 rfl rfl tyA29 tyS29 (by first | (simp only [List.length_cons, List.length_nil, Nat.reduceAdd, Nat.zero_add, Nat.add_zero]; first | done | rfl) | rfl) (by first | (simp only [List.take_succ_cons, List.take_zero, List.drop_succ_cons, List.drop_zero, List.cons_append, List.nil_append, List.append_nil, List.length_cons, List.length_nil, Nat.reduceAdd, Nat.zero_add, Nat.add_zero, Value.cells, wrV]; first | done | rfl) | rfl) rfl ?_
        first | refine sx_store 0 rfl rfl rfl tyS29 (by first | (simp only [Value.cells]; first | done | rfl) | rfl) rfl rfl (by first | (simp only [List.length_cons, List.length_nil, Nat.reduceAdd, Nat.zero_add, Nat.add_zero]; first | done | rfl) | rfl) (by first | (simp only [List.take_succ_cons, List.take_zero, List.drop_succ_cons, List.drop_zero, List.cons_append, List.nil_append, List.append_nil, List.length_cons, List.length_nil, Nat.reduceAdd, Nat.zero_add, Nat.add_zero, Value.cells, wrV]; first | done | rfl) | rfl) (by first | (simp only [List.set_cons_succ, List.set_cons_zero]; first | done | rfl) | rfl) ?_ | refine sx_store 1 rfl rfl rfl tyS29 (by first | (simp only [Value.cells]; first | done | rfl) | rfl) rfl rfl (by first | (simp only [List.length_cons, List.length_nil, Nat.reduceAdd, Nat.zero_add, Nat.add_zero]; first | done | rfl) | rfl) (by first | (simp only [List.take_succ_cons, List.take_zero, List.drop_succ_cons, List.drop_zero, List.cons_append, List.nil_append, List.append_nil, List.length_cons, List.length_nil, Nat.reduceAdd, Nat.zero_add, Nat.add_zero, Value.cells, wrV]; first | done | rfl) | rfl) (by first | (simp only [List.set_cons_succ, List.set_cons_zero]; first | done | rfl) | rfl) ?_ | refine sx_store 2 rfl rfl rfl tyS29 (by first | (simp only [Value.cells]; first | done | rfl) | rfl) rfl rfl (by first | (simp only [List.length_cons, List.length_nil, Nat.reduceAdd, Nat.zero_add, Nat.add_zero]; first | done | rfl) | rfl) (by first | (simp only [List.take_succ_cons, List.take_zero, List.drop_succ_cons, List.drop_zero, List.cons_append, List.nil_append, List.append_nil, List.length_cons, List.length_nil, Nat.reduceAdd, Nat.zero_add, Nat.add_zero, Value.cells, wrV]; first | done | rfl) | rfl) (by first | (simp only [List.set_cons_succ, List.set_cons_zero]; first | done | rfl) | rfl) ?_ | refine sx_store 3 rfl rfl rfl tyS29 (by first | (simp only [Value.cells]; first | done | rfl) | rfl) rfl rfl (by first | (simp only [List.length_cons, List.length_nil, Nat.reduceAdd, Nat.zero_add, Nat.add_zero]; first | done | rfl) | rfl) (by first | (simp only [List.take_succ_cons, List.take_zero, List.drop_succ_cons, List.drop_zero, List.cons_append, List.nil_append, List.append_nil, List.length_cons, List.length_nil, Nat.reduceAdd, Nat.zero_add, Nat.add_zero, Value.cells, wrV]; first | done | rfl) | rfl) (by first | (simp only [List.set_cons_succ, List.set_cons_zero]; first | done | rfl) | rfl) ?_
        refine sx_nil (hZ _ _ ?_)
        refine nx_forget [(0, _), (2, _), (4, _), (5, _), (6, _)] (Kn.cons rfl (Kn.cons rfl (Kn.cons rfl (Kn.cons rfl (Kn.cons rfl (Kn.nil)))))) ?_
        refine nx_cut _ hu3 (Kn.cons rfl (Kn.cons rfl (Kn.cons rfl (Kn.cons rfl (Kn.cons rfl Kn.nil))))) ?_
        exact HLe.drop 1 rfl
      · have he0 : ¬ e = 0 := by simp at h2; omega
        have hs4 := hs3 he0
        rw [hs4] at hu3 ⊢
        refine awp_skip ?_
        refine nx_cut _ hu3 (Kn.cons rfl (Kn.cons rfl (Kn.cons rfl (Kn.cons rfl (Kn.cons rfl Kn.nil))))) ?_
        exact HLe.drop 1 rfl
    rintro u4 hu4
    refine awp_heap (.ro g o (icells L) :: .own g2 29 [u4] :: .own g1 29 [.slice none 0 0] :: (rowE u4 60 2 (icells (ownQ (L.take (i + 1)))) ++ rowE (.slice A2 O.length c2) 58 2 (icells O))) (HLe.refl _) ?_

    refine aww_seq_region _ [(0, true), (1, true), (2, true), (3, true), (4, true), (5, true), (6, true), (7, true), (8, true), (9, true), (10, true), (11, false), (12, true), (13, true), (14, true), (15, true), (16, true)] mixed (by kernel_rfl) (HLe.pick [0] (by simp) (by simp only [pick, List.filterMap_cons, List.filterMap_nil, List.getElem?_cons_succ, List.getElem?_cons_zero]; rfl)) (fun Z hZ => ?_)
    refine tw_p rfl ?_
    refine sv_move rfl rfl ?_
    refine sv_nil ?_
    refine tw_p rfl ?_
    refine sv_move rfl rfl ?_
    refine sv_nil ?_
    refine tw_p rfl ?_
    refine sv_move rfl rfl ?_
    refine sv_nil ?_
    refine tw_p rfl ?_
    refine sv_indexAddr (o + i * 2) Try.underlying22 tyS58 rfl rfl (by omega) (by simp) rfl ?_
    refine sv_nil ?_
    refine tw_p rfl ?_
    refine sv_fieldAddr rfl tyF58_0 (by first | (simp only [Nat.reduceAdd, Nat.add_zero, Nat.zero_add]; first | done | rfl) | rfl) rfl ?_
    refine sv_nil ?_
    refine tw_p rfl ?_
    refine sv_loadRo 0 rfl rfl (i * 2) rfl tyA51 tyS51 (icells_id hx) rfl ?_
    refine sv_nil ?_
    refine tw_p rfl ?_
    refine sv_move rfl rfl ?_
    refine sv_nil ?_
    refine tw_p rfl ?_
    refine sv_move rfl rfl ?_
    refine sv_nil ?_
    refine tw_p rfl ?_
    refine sv_indexAddr (o + i * 2) Try.underlying22 tyS58 rfl rfl (by omega) (by simp) rfl ?_
    refine sv_nil ?_
    refine tw_p rfl ?_
    refine sv_fieldAddr rfl tyF58_1 (by first | (simp only [Nat.reduceAdd, Nat.add_zero, Nat.zero_add]; first | done | rfl) | rfl) rfl ?_
    refine sv_nil ?_
    refine tw_p rfl ?_
    refine sv_loadRo 0 rfl rfl (i * 2 + 1) rfl tyA9 tyS9 (icells_tx hx) rfl ?_
    refine sv_nil ?_
    refine tw_g rfl ?_
    refine sx_callRowW (fun u => .tuple #[u, iq e]) (.ro g o (icells L) :: .own g2 29 [u4] :: .own g1 29 [.slice none 0 0] :: rowE u4 60 2 (icells (ownQ (L.take (i + 1))))) hu2 (HLe.refl _) (hputR A2 c2) rfl rfl hq1 hq2 (fun u5 hu5 hs5 => ?_)
    refine sx_nil ⟨HLe.pick [0] (by simp) rfl, ?_⟩
    refine tw_p rfl ?_
    refine sv_move rfl rfl ?_
    refine sv_nil ?_
    refine tw_p rfl ?_
    refine sv_extract rfl rfl rfl ?_
    refine sv_nil ?_
    refine tw_p rfl ?_
    refine sv_extract rfl rfl rfl ?_
    refine sv_nil ?_
    refine tw_p rfl ?_
    refine sv_assign rfl rfl ?_
    refine sv_nil ?_
    refine tw_p rfl ?_
    refine sv_assign rfl rfl ?_
    refine sv_nil ?_
    refine tw_nil (hZ _ _ ?_)
    refine awp_forget [(0, _), (2, _), (4, _), (5, _), (6, _), (9, _), (10, _)] (Kn.cons rfl (Kn.cons rfl (Kn.cons rfl (Kn.cons rfl (Kn.cons rfl (Kn.cons rfl (Kn.cons rfl (Kn.nil)))))))) ?_
    refine awp_seq_region (fun Z hZ => ?_)
    refine sx_move rfl rfl ?_
    first | refine sx_eql rfl rfl rfl ?_ | refine sx_seql rfl rfl rfl ?_
    refine sx_nil (hZ _ _ ?_)
    refine awp_forget [(0, _), (2, _), (4, _), (5, _), (6, _), (9, _), (51, _)] (Kn.cons rfl (Kn.cons rfl (Kn.cons rfl (Kn.cons rfl (Kn.cons rfl (Kn.cons rfl (Kn.cons rfl (Kn.nil)))))))) ?_

    first | refine awp_cond rfl (fun h2 => ?_) (fun h2 => ?_) | refine awp_seq (awp_cond rfl (fun h2 => ?_) (fun h2 => ?_))
    · refine awp_region (fun Z hZ => ?_)
      refine sx_move rfl rfl ?_
      refine sx_assign rfl rfl ?_
      refine sx_nil (hZ _ _ ?_)
      refine nx_forget [(0, _), (2, _), (4, _), (5, _), (6, _)] (Kn.cons rfl (Kn.cons rfl (Kn.cons rfl (Kn.cons rfl (Kn.cons rfl (Kn.nil)))))) ?_
      repeat (with_reducible (first | refine nx_block_normal ?_ | refine nx_scope_normal ?_))
      with_reducible first | refine nx_normal ?_ | refine nx_normalM ?_
      refine awp_region (fun Z hZ => ?_)
      refine sx_move rfl rfl ?_
      refine sx_add rfl rfl ((i + 1 : Nat) : Int) (by rw [IntWalk.i64_in _ (by omega)]; omega) rfl ?_
      refine sx_assign rfl rfl ?_
      refine sx_nil (hZ _ _ ?_)
      refine nx_forget [(0, _), (2, _), (4, _), (5, _), (6, _)] (Kn.cons rfl (Kn.cons rfl (Kn.cons rfl (Kn.cons rfl (Kn.cons rfl (Kn.nil)))))) ?_
      exact nx_round (i + 1, u4, u5) ⟨by show i + 1 ≤ _; omega, hu4, hu5⟩ (by simp; omega) (Kn.cons rfl (Kn.cons rfl (Kn.cons rfl (Kn.cons rfl (Kn.cons rfl Kn.nil))))) (fun _ _ _ hw => hw.perm ((List.Perm.swap _ _ _).trans (.cons _ (List.Perm.swap _ _ _))))
    · have he0 : ¬ e = 0 := by simp at h2; omega
      obtain rfl := hs5 he0
      refine awp_skip ?_
      repeat (with_reducible (first | refine nx_block_normal ?_ | refine nx_scope_normal ?_))
      with_reducible first | refine nx_normal ?_ | refine nx_normalM ?_
      refine awp_region (fun Z hZ => ?_)
      refine sx_move rfl rfl ?_
      refine sx_add rfl rfl ((i + 1 : Nat) : Int) (by rw [IntWalk.i64_in _ (by omega)]; omega) rfl ?_
      refine sx_assign rfl rfl ?_
      refine sx_nil (hZ _ _ ?_)
      refine nx_forget [(0, _), (2, _), (4, _), (5, _), (6, _)] (Kn.cons rfl (Kn.cons rfl (Kn.cons rfl (Kn.cons rfl (Kn.cons rfl (Kn.nil)))))) ?_
      exact nx_round (i + 1, u4, .slice A2 O.length c2) ⟨by show i + 1 ≤ _; omega, hu4, hu5⟩ (by simp; omega) (Kn.cons rfl (Kn.cons rfl (Kn.cons rfl (Kn.cons rfl (Kn.cons rfl Kn.nil))))) (fun _ _ _ hw => hw.perm ((List.Perm.swap _ _ _).trans (.cons _ (List.Perm.swap _ _ _))))
  · refine awp_exit ?_
    repeat (with_reducible (first | refine nx_then_exit ?_ | refine nx_block_other (by decide) ?_ | refine nx_scope_exit ?_))
    with_reducible refine nx_block_exit ?_
    repeat (with_reducible (first | refine nx_block_normal ?_ | refine nx_scope_normal ?_))
    with_reducible first | refine nx_normal ?_ | refine nx_normalM ?_
    have hke : i = L.length := by simp at h; omega
    subst hke
    rw [List.take_length] at hu1 hu2 ⊢
    obtain ⟨A1, c1, rfl, _⟩ := hu1.form

    refine awp_seq_region (fun Z hZ => ?_)
    first | refine sx_loadA 0 rfl rfl tyA29 tyS29 (by first | (simp only [List.length_cons, List.length_nil, Nat.reduceAdd, Nat.zero_add, Nat.add_zero]; first | done | rfl) | rfl) (by first | (simp only [List.take_succ_cons, List.take_zero, List.drop_succ_cons, List.drop_zero, List.cons_append, List.nil_append, List.append_nil, List.length_cons, List.length_nil, Nat.reduceAdd, Nat.zero_add, Nat.add_zero, Value.cells, wrV]; first | done | rfl) | rfl) rfl ?_ | refine sx_loadA 1 rfl rfl tyA29 tyS29 (by first | (simp only [List.length_cons, List.length_nil, Nat.reduceAdd, Nat.zero_add, Nat.add_zero]; first | done | rfl) | rfl) (by first | (simp only [List.take_succ_cons, List.take_zero, List.drop_succ_cons, List.drop_zero, List.cons_append, List.nil_append, List.append_nil, List.length_cons, List.length_nil, Nat.reduceAdd, Nat.zero_add, Nat.add_zero, Value.cells, wrV]; first | done | rfl) | rfl) rfl ?_
    refine sx_move rfl rfl ?_
    first | refine sx_store 0 rfl rfl rfl tyS29 (by first | (simp only [Value.cells]; first | done | rfl) | rfl) rfl rfl (by first | (simp only [List.length_cons, List.length_nil, Nat.reduceAdd, Nat.zero_add, Nat.add_zero]; first | done | rfl) | rfl) (by first | (simp only [List.take_succ_cons, List.take_zero, List.drop_succ_cons, List.drop_zero, List.cons_append, List.nil_append, List.append_nil, List.length_cons, List.length_nil, Nat.reduceAdd, Nat.zero_add, Nat.add_zero, Value.cells, wrV]; first | done | rfl) | rfl) (by first | (simp only [List.set_cons_succ, List.set_cons_zero]; first | done | rfl) | rfl) ?_ | refine sx_store 1 rfl rfl rfl tyS29 (by first | (simp only [Value.cells]; first | done | rfl) | rfl) rfl rfl (by first | (simp only [List.length_cons, List.length_nil, Nat.reduceAdd, Nat.zero_add, Nat.add_zero]; first | done | rfl) | rfl) (by first | (simp only [List.take_succ_cons, List.take_zero, List.drop_succ_cons, List.drop_zero, List.cons_append, List.nil_append, List.append_nil, List.length_cons, List.length_nil, Nat.reduceAdd, Nat.zero_add, Nat.add_zero, Value.cells, wrV]; first | done | rfl) | rfl) (by first | (simp only [List.set_cons_succ, List.set_cons_zero]; first | done | rfl) | rfl) ?_
    refine sx_assign rfl rfl ?_
    refine sx_nil (hZ _ _ ?_)
    refine awp_forget [(2, _), (3, _)] (Kn.cons rfl (Kn.cons rfl (Kn.nil))) ?_
    refine awp_ret ?_
    repeat (with_reducible (first | refine nx_then_ret ?_ | refine nx_block_ret ?_ | refine nx_scope_ret ?_))
    exact nx_ret2h _ rfl (ResOk.cell 1 rfl rfl tyA29 tyS29 rfl) rfl (HLe.sub ((List.sublist_append_right T _).trans (List.sublist_append_right [_, _] _))) ⟨_, _, rfl, hu1, hu2, rfl⟩
end Go.Proofs.Ytahmhcmfeloclaa
