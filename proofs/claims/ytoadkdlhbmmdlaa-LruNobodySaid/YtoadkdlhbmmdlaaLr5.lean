/- The walks of lru's reference, by lists of items. Conditions: the lists are not too long. -/
import Derived.Test.YtoadkdlhbmmdlaaLr4
namespace Go.Proofs.Ytoadkdlhbmmdlaa
open Go.RowKit
set_option linter.unusedVariables false
set_option linter.unusedSimpArgs false
def icell (x : Item) : List Value := [uq x.1.1, uq x.1.2, .string (str x.2)]
theorem icell_len (x : Item) : (icell x).length = 3 := rfl
def icells (L : List Item) : List Value := L.flatMap icell
theorem icells_len (L : List Item) : (icells L).length = L.length * 3 := fm_len icell_len L
theorem icells_one (L : List Item) : (icells L).all Value.oneCell' = true := fm_one (fun _ => rfl) L
theorem elemItem : ElemOk Try.prog 43 69 3 32 := ElemOk.mk_ (z := .agg #[.int .u64 0, .int .u64 0, .string ⟨#[]⟩]) Try.underlying43 (by kernel_rfl) rfl (by omega)
theorem icells_key {L : List Item} {i : Nat} {x : Item} (h : L[i]? = some x) : rdV true 2 (icells L) (i * 3) = some (.agg #[uq x.1.1, uq x.1.2]) := fm_rdm icell_len 0 2 h (by omega)
theorem icells_all {L : List Item} {i : Nat} {x : Item} (h : L[i]? = some x) : rdV true 3 (icells L) (i * 3) = some (.agg #[uq x.1.1, uq x.1.2, .string (str x.2)]) := fm_rd icell_len h
theorem icells_v {L : List Item} {i : Nat} {x : Item} (h : L[i]? = some x) : rdV false 1 (icells L) (i * 3 + 2) = some (.string (str x.2)) := fm_rd1 icell_len h rfl
theorem key_eqR (a b : Ky) : EqV Try.prog 10000 32 (encK a) (encK b) (keq a b) := by
  have h : EqV Try.prog 10000 32 (encK a) (encK b) _ := EqV.struct Try.underlying32 (by kernel_rfl) (.cons rfl tyA29 tyS29 rfl rfl (EqV.int Try.underlying29) (.cons rfl tyA29 tyS29 rfl rfl (EqV.int Try.underlying29) .nil))
  have e : keq a b = ((((a.1 : Int) == (b.1 : Int)) && (((a.2 : Int) == (b.2 : Int)) && true))) := by
    obtain ⟨a1, a2⟩ := a
    obtain ⟨b1, b2⟩ := b
    rw [Bool.eq_iff_iff]
    simp [keq]
    omega
  rw [e]
  exact h
theorem guard_keyR : Program.eqGuardType Try.prog Try.prog.depth 32 = false := by kernel_rfl
/-- A key's place. -/
def placeV (L : List Item) (k : Ky) : Int := match L.findIdx? fun x => decide (x.1 = k) with
  | some i => i
  | none => -1
theorem placeV_at {L : List Item} {k : Ky} {i : Nat} {x : Item} (hx : L[i]? = some x) (he : x.1 = k) (hn : ∀ j y, j < i → L[j]? = some y → y.1 ≠ k) : placeV L k = i := by
  have : L.findIdx? (fun x => decide (x.1 = k)) = some i := by
    rw [List.findIdx?_eq_some_iff_getElem]
    obtain ⟨h1, h2⟩ := List.getElem?_eq_some_iff.1 hx
    refine ⟨h1, by rw [h2]; exact decide_eq_true he, fun j hj => ?_⟩
    have := hn j L[j] hj (List.getElem?_eq_getElem (by omega))
    simpa using this
  unfold placeV
  rw [this]
theorem placeV_none {L : List Item} {k : Ky} (hn : ∀ (j : Nat) (y : Item), L[j]? = some y → y.1 ≠ k) : placeV L k = -1 := by
  have : L.findIdx? (fun x => decide (x.1 = k)) = none := by
    rw [List.findIdx?_eq_none_iff]
    intro x hx
    obtain ⟨j, hj⟩ := List.mem_iff_getElem?.1 hx
    simpa using hn j x hj
  unfold placeV
  rw [this]
theorem place_fn (A : Option Addr) (c : Nat) (L : List Item) (k : Ky) (hA : SlOk A L.length) (hL : L.length ≤ 100000) :
    Fn Try.prog 28 [.slice A L.length c, encK k] (roE A (icells L)) fun v _ => v = iq (placeV L k) := by
  refine Fn.enter (N := 20) Try.func28 rfl (by kernel_rfl) rfl (fun w0 => ?_)

  refine awp_seq_region (fun Z hZ => ?_)
  refine sx_box rfl rfl rfl (fun g1 => ?_)
  refine sx_assign rfl rfl ?_
  refine sx_nil (hZ _ _ ?_)
  refine awp_forget [(0, _), (3, _)] (Kn.cons rfl (Kn.cons rfl (Kn.nil))) ?_
  refine awp_seq ?_
  refine awp_seq_region (fun Z hZ => ?_)
  refine sx_assign rfl rfl ?_
  refine sx_nil (hZ _ _ ?_)
  refine awp_forget [(0, _), (3, _), (5, _)] (Kn.cons rfl (Kn.cons rfl (Kn.cons rfl (Kn.nil)))) ?_
  refine awp_block ?_
  refine awp_loop (ι := Nat) (fun i => [(0, .slice A L.length c), (3, ptr g1 0), (5, iq (i : Nat))]) (fun i => .own g1 32 [uq k.1, uq k.2] :: roE A (icells L))
    (fun i => i ≤ L.length ∧ ∀ (j : Nat) (y : Item), j < i → L[j]? = some y → y.1 ≠ k) (fun i => L.length - i) 0 ⟨by omega, fun j y h => by omega⟩ (Kn.cons rfl (Kn.cons rfl (Kn.cons rfl Kn.nil))) (HLe.refl _) ?_
  rintro i ⟨hi, hno⟩

  refine awp_seq ?_
  refine awp_seq_region (fun Z hZ => ?_)
  refine sx_move rfl rfl ?_
  refine sx_move rfl rfl ?_
  first | refine sx_len Try.underlying43 rfl rfl ?_ | refine sx_lenS Try.underlying43 rfl rfl ?_
  first | refine sx_lss rfl rfl rfl ?_ | refine sx_slss rfl rfl rfl ?_
  refine sx_nil (hZ _ _ ?_)
  refine awp_forget [(0, _), (3, _), (5, _), (9, _)] (Kn.cons rfl (Kn.cons rfl (Kn.cons rfl (Kn.cons rfl (Kn.nil))))) ?_
  first | refine awp_cond rfl (fun h => ?_) (fun h => ?_) | refine awp_seq (awp_cond rfl (fun h => ?_) (fun h => ?_))
  · have hlt : i < L.length := by simpa using h
    obtain ⟨x, hx⟩ : ∃ x, L[i]? = some x := ⟨_, List.getElem?_eq_getElem hlt⟩
    obtain ⟨g, o, rfl⟩ := hA.some (by omega)
    refine awp_skip ?_
    repeat (with_reducible refine nx_block_normal ?_)
    with_reducible refine nx_normal ?_
    refine awp_seq (awp_block ?_)

    refine awq_seq_region mixed (by kernel_rfl) (fun Z hZ => ?_)
    refine sq_move rfl rfl ?_
    refine sq_move rfl rfl ?_
    refine sq_indexAddr (o + i * 3) Try.underlying43 tyS69 rfl rfl (by omega) (by simp) rfl ?_
    refine sq_fieldAddr rfl tyF69_0 (by first | (simp only [Nat.reduceAdd, Nat.add_zero, Nat.zero_add]; first | done | rfl) | rfl) rfl ?_
    refine sq_loadRo 1 rfl rfl (i * 3) rfl tyA32 tyS32 (icells_key hx) rfl ?_
    first | refine sq_loadA 0 rfl rfl tyA32 tyS32 (by first | (simp only [List.length_cons, List.length_nil, Nat.reduceAdd, Nat.zero_add, Nat.add_zero]; first | done | rfl) | rfl) (by first | (simp only [List.take_succ_cons, List.take_zero, List.drop_succ_cons, List.drop_zero, List.cons_append, List.nil_append, List.append_nil, List.length_cons, List.length_nil, Nat.reduceAdd, Nat.zero_add, Nat.add_zero, Value.cells, wrV]; first | done | rfl) | rfl) rfl ?_ | refine sq_loadA 1 rfl rfl tyA32 tyS32 (by first | (simp only [List.length_cons, List.length_nil, Nat.reduceAdd, Nat.zero_add, Nat.add_zero]; first | done | rfl) | rfl) (by first | (simp only [List.take_succ_cons, List.take_zero, List.drop_succ_cons, List.drop_zero, List.cons_append, List.nil_append, List.append_nil, List.length_cons, List.length_nil, Nat.reduceAdd, Nat.zero_add, Nat.add_zero, Value.cells, wrV]; first | done | rfl) | rfl) rfl ?_
    refine sq_aeql (key_eqR x.1 k) guard_keyR rfl rfl rfl ?_
    refine sq_nil (hZ _ _ ?_)
    refine awp_forget [(0, _), (3, _), (5, _), (18, _)] (Kn.cons rfl (Kn.cons rfl (Kn.cons rfl (Kn.cons rfl (Kn.nil))))) ?_
    first | refine awp_cond rfl (fun he => ?_) (fun he => ?_) | refine awp_seq (awp_cond rfl (fun he => ?_) (fun he => ?_))
    · refine awp_seq_region (fun Z hZ => ?_)
      refine sx_move rfl rfl ?_
      refine sx_assign rfl rfl ?_
      refine sx_nil (hZ _ _ ?_)
      refine awp_forget [(4, _)] (Kn.cons rfl (Kn.nil)) ?_
      refine awp_ret ?_
      repeat (with_reducible (first | refine nx_then_ret ?_ | refine nx_block_ret ?_))
      exact nx_ret1 rfl rfl (by rw [placeV_at hx (of_decide_eq_true he) (fun j y hj => hno j y hj)])
    refine awp_skip ?_
    repeat (with_reducible refine nx_block_normal ?_)
    with_reducible refine nx_normal ?_
    refine awp_region (fun Z hZ => ?_)
    refine sx_move rfl rfl ?_
    refine sx_add rfl rfl ((i + 1 : Nat) : Int) (by rw [IntWalk.i64_in _ (by omega)]; omega) rfl ?_
    refine sx_assign rfl rfl ?_
    refine sx_nil (hZ _ _ ?_)
    refine nx_forget [(0, _), (3, _), (5, _)] (Kn.cons rfl (Kn.cons rfl (Kn.cons rfl (Kn.nil)))) ?_
    refine nx_round (i + 1) ⟨by omega, fun j y hj hy => ?_⟩ (by omega) (Kn.cons rfl (Kn.cons rfl (Kn.cons rfl Kn.nil))) (HLe.refl _)
    rcases Nat.lt_or_ge j i with hj' | hj'
    · exact hno j y hj' hy
    · obtain rfl : j = i := by omega
      rw [hx] at hy
      rw [← Option.some.inj hy]
      exact of_decide_eq_false he
  · refine awp_exit ?_
    repeat (with_reducible (first | refine nx_then_exit ?_ | refine nx_block_other (by decide) ?_))
    with_reducible refine nx_block_exit ?_
    repeat (with_reducible refine nx_block_normal ?_)
    with_reducible refine nx_normal ?_
    have hke : i = L.length := by simp at h; omega
    subst hke
    refine awp_seq_region (fun Z hZ => ?_)
    refine sx_assign rfl rfl ?_
    refine sx_nil (hZ _ _ ?_)
    refine awp_forget [(4, _)] (Kn.cons rfl (Kn.nil)) ?_
    refine awp_ret ?_
    repeat (with_reducible (first | refine nx_then_ret ?_ | refine nx_block_ret ?_))
    exact nx_ret1 rfl rfl (by rw [placeV_none fun j y hy => hno j y (List.getElem?_eq_some_iff.1 hy).1 hy])
theorem rDrop_take {L : List Item} {k : Ky} {i : Nat} {x : Item} (hx : L[i]? = some x) : rDrop (L.take (i + 1)) k = if keq x.1 k then rDrop (L.take i) k else rDrop (L.take i) k ++ [x] := by
  obtain ⟨h1, h2⟩ := List.getElem?_eq_some_iff.1 hx
  unfold rDrop
  rw [List.take_succ_eq_append_getElem h1, List.filter_append, h2]
  by_cases he : x.1 = k <;> simp [keq, he]
theorem rdrop_fn (A : Option Addr) (c : Nat) (L : List Item) (k : Ky) (hA : SlOk A L.length) (hL : L.length ≤ 100000) :
    Fn Try.prog 27 [.slice A L.length c, encK k] (roE A (icells L)) fun v H' => RowOk v (rDrop L k).length ∧ H' = rowE v 69 3 (icells (rDrop L k)) := by
  refine Fn.enter (N := 28) Try.func27 rfl (by kernel_rfl) rfl (fun w0 => ?_)

  refine awp_seq_region (fun Z hZ => ?_)
  refine sx_box rfl rfl rfl (fun g1 => ?_)
  refine sx_assign rfl rfl ?_
  refine sx_nil (hZ _ _ ?_)
  refine awp_forget [(0, _), (3, _)] (Kn.cons rfl (Kn.cons rfl (Kn.nil))) ?_
  refine awp_seq_region (fun Z hZ => ?_)
  refine sx_assign rfl rfl ?_
  refine sx_nil (hZ _ _ ?_)
  refine awp_forget [(0, _), (3, _), (5, _)] (Kn.cons rfl (Kn.cons rfl (Kn.cons rfl (Kn.nil)))) ?_
  refine awp_seq ?_
  refine awp_seq_region (fun Z hZ => ?_)
  refine sx_assign rfl rfl ?_
  refine sx_nil (hZ _ _ ?_)
  refine awp_forget [(0, _), (3, _), (5, _), (6, _)] (Kn.cons rfl (Kn.cons rfl (Kn.cons rfl (Kn.cons rfl (Kn.nil))))) ?_
  refine awp_block ?_
  refine awp_loop (ι := Nat × Value) (fun i => [(0, .slice A L.length c), (3, ptr g1 0), (5, i.2), (6, iq (i.1 : Nat))]) (fun i => .own g1 32 [uq k.1, uq k.2] :: (roE A (icells L) ++ rowE i.2 69 3 (icells (rDrop (L.take i.1) k))))
    (fun i => i.1 ≤ L.length ∧ RowOk i.2 (rDrop (L.take i.1) k).length) (fun i => L.length - i.1) (0, .slice none 0 0) ⟨by simp, RowOk.nil⟩ (Kn.cons rfl (Kn.cons rfl (Kn.cons rfl (Kn.cons rfl Kn.nil)))) (by simp only [rowE, List.append_nil]; exact HLe.refl _) ?_
  rintro ⟨i, v⟩ ⟨hi, hv⟩
  simp only at hi hv

  refine awp_seq ?_
  refine awp_seq_region (fun Z hZ => ?_)
  refine sx_move rfl rfl ?_
  refine sx_move rfl rfl ?_
  first | refine sx_len Try.underlying43 rfl rfl ?_ | refine sx_lenS Try.underlying43 rfl rfl ?_
  first | refine sx_lss rfl rfl rfl ?_ | refine sx_slss rfl rfl rfl ?_
  refine sx_nil (hZ _ _ ?_)
  refine awp_forget [(0, _), (3, _), (5, _), (6, _), (10, _)] (Kn.cons rfl (Kn.cons rfl (Kn.cons rfl (Kn.cons rfl (Kn.cons rfl (Kn.nil)))))) ?_
  first | refine awp_cond rfl (fun h => ?_) (fun h => ?_) | refine awp_seq (awp_cond rfl (fun h => ?_) (fun h => ?_))
  · have hlt : i < L.length := by simpa using h
    obtain ⟨x, hx⟩ : ∃ x, L[i]? = some x := ⟨_, List.getElem?_eq_getElem hlt⟩
    obtain ⟨g, o, rfl⟩ := hA.some (by omega)
    have hdl := drop_len (L.take i) k
    rw [List.length_take] at hdl
    have htk := rDrop_take (k := k) hx
    refine awp_skip ?_
    repeat (with_reducible refine nx_block_normal ?_)
    with_reducible refine nx_normal ?_
    refine awp_seq (awp_block ?_)

    refine awq_seq_region mixed (by kernel_rfl) (fun Z hZ => ?_)
    refine sq_move rfl rfl ?_
    refine sq_move rfl rfl ?_
    refine sq_indexAddr (o + i * 3) Try.underlying43 tyS69 rfl rfl (by omega) (by simp) rfl ?_
    refine sq_fieldAddr rfl tyF69_0 (by first | (simp only [Nat.reduceAdd, Nat.add_zero, Nat.zero_add]; first | done | rfl) | rfl) rfl ?_
    refine sq_loadRo 1 rfl rfl (i * 3) rfl tyA32 tyS32 (icells_key hx) rfl ?_
    first | refine sq_loadA 0 rfl rfl tyA32 tyS32 (by first | (simp only [List.length_cons, List.length_nil, Nat.reduceAdd, Nat.zero_add, Nat.add_zero]; first | done | rfl) | rfl) (by first | (simp only [List.take_succ_cons, List.take_zero, List.drop_succ_cons, List.drop_zero, List.cons_append, List.nil_append, List.append_nil, List.length_cons, List.length_nil, Nat.reduceAdd, Nat.zero_add, Nat.add_zero, Value.cells, wrV]; first | done | rfl) | rfl) rfl ?_ | refine sq_loadA 1 rfl rfl tyA32 tyS32 (by first | (simp only [List.length_cons, List.length_nil, Nat.reduceAdd, Nat.zero_add, Nat.add_zero]; first | done | rfl) | rfl) (by first | (simp only [List.take_succ_cons, List.take_zero, List.drop_succ_cons, List.drop_zero, List.cons_append, List.nil_append, List.append_nil, List.length_cons, List.length_nil, Nat.reduceAdd, Nat.zero_add, Nat.add_zero, Value.cells, wrV]; first | done | rfl) | rfl) rfl ?_
    refine sq_aneq (key_eqR x.1 k) guard_keyR rfl rfl rfl ?_
    refine sq_nil (hZ _ _ ?_)
    refine awp_forget [(0, _), (3, _), (5, _), (6, _), (19, _)] (Kn.cons rfl (Kn.cons rfl (Kn.cons rfl (Kn.cons rfl (Kn.cons rfl (Kn.nil)))))) ?_
    refine awp_meet (ι := Value) (fun v => [(0, .slice (some ⟨g, o, none⟩) L.length c), (3, ptr g1 0), (5, v), (6, iq (i : Nat))]) (fun v => .own g1 32 [uq k.1, uq k.2] :: (roE (some ⟨g, o, none⟩) (icells L) ++ rowE v 69 3 (icells (rDrop (L.take (i + 1)) k))))
      (fun v => RowOk v (rDrop (L.take (i + 1)) k).length) ?_ ?_
    · first | refine awp_cond rfl (fun he => ?_) (fun he => ?_) | refine awp_seq (awp_cond rfl (fun he => ?_) (fun he => ?_))
      · have hk : keq x.1 k = false := by simpa using he
        rw [hk] at htk
        simp only [Bool.false_eq_true, if_false] at htk
        refine awp_region (fun Z hZ => ?_)
        refine sx_move rfl rfl ?_
        refine sx_move rfl rfl ?_
        refine sx_move rfl rfl ?_
        refine sx_indexAddr (o + i * 3) Try.underlying43 tyS69 rfl rfl (by omega) (by simp) rfl ?_
        refine sx_loadRo 1 rfl rfl (i * 3) rfl tyA69 tyS69 (icells_all hx) rfl ?_
        refine sx_buildSlice Try.underlying43 tyS69 tyZ69 rfl rfl rfl rfl (by first | (simp only [List.take_succ_cons, List.take_zero, List.drop_succ_cons, List.drop_zero, List.cons_append, List.nil_append, List.append_nil, List.length_cons, List.length_nil, Nat.reduceAdd, Nat.zero_add, Nat.add_zero, Value.cells, wrV, zrep_one, List.replicate_succ, List.replicate_zero, Nat.reduceMul, Nat.zero_mul]; first | done | rfl) | rfl) rfl (fun g2 => ?_)
        refine sx_appendE [_, _, _] elemItem rfl hv (icells_len _) rfl (fun w hw => rd_own (i := 0) (xs := icell x) rfl rfl hw) rfl (by show _ ≤ 9223372036854775807; omega) (by omega) (HLe.refl _) rfl (fun v2 hv2 => ?_)
        refine sx_assign rfl rfl ?_
        refine sx_nil (hZ _ _ ?_)
        refine nx_forget [(0, _), (3, _), (5, _), (6, _)] (Kn.cons rfl (Kn.cons rfl (Kn.cons rfl (Kn.cons rfl (Kn.nil))))) ?_
        have e : (rDrop (L.take (i + 1)) k).length = (rDrop (L.take i) k).length + 1 := by rw [htk]; simp
        refine nx_cut v2 (by rw [e]; exact hv2) (Kn.cons rfl (Kn.cons rfl (Kn.cons rfl (Kn.cons rfl Kn.nil)))) ?_
        rw [htk, show icells (rDrop (L.take i) k ++ [x]) = icells (rDrop (L.take i) k) ++ icell x from fm_snoc _ _]
        exact HLe.drop 1 rfl
      · have hk : keq x.1 k = true := by simpa using he
        rw [hk] at htk
        simp only [if_true] at htk
        refine awp_skip ?_
        exact nx_cut v (by rw [htk]; exact hv) (Kn.cons rfl (Kn.cons rfl (Kn.cons rfl (Kn.cons rfl Kn.nil)))) (by rw [htk]; exact HLe.refl _)
    intro v2 hv2
    repeat (with_reducible refine nx_block_normal ?_)
    with_reducible refine nx_normal ?_
    refine awp_region (fun Z hZ => ?_)
    refine sx_move rfl rfl ?_
    refine sx_add rfl rfl ((i + 1 : Nat) : Int) (by rw [IntWalk.i64_in _ (by omega)]; omega) rfl ?_
    refine sx_assign rfl rfl ?_
    refine sx_nil (hZ _ _ ?_)
    refine nx_forget [(0, _), (3, _), (5, _), (6, _)] (Kn.cons rfl (Kn.cons rfl (Kn.cons rfl (Kn.cons rfl (Kn.nil))))) ?_
    exact nx_round (i + 1, v2) ⟨by omega, hv2⟩ (by simp; omega) (Kn.cons rfl (Kn.cons rfl (Kn.cons rfl (Kn.cons rfl Kn.nil)))) (HLe.refl _)
  · refine awp_exit ?_
    repeat (with_reducible (first | refine nx_then_exit ?_ | refine nx_block_other (by decide) ?_))
    with_reducible refine nx_block_exit ?_
    repeat (with_reducible refine nx_block_normal ?_)
    with_reducible refine nx_normal ?_
    have hke : i = L.length := by simp at h; omega
    subst hke
    rw [List.take_length] at hv
    rw [List.take_length]
    refine awp_seq_region (fun Z hZ => ?_)
    refine sx_move rfl rfl ?_
    refine sx_assign rfl rfl ?_
    refine sx_nil (hZ _ _ ?_)
    refine awp_forget [(4, _)] (Kn.cons rfl (Kn.nil)) ?_
    refine awp_ret ?_
    repeat (with_reducible (first | refine nx_then_ret ?_ | refine nx_block_ret ?_))
    exact nx_ret1h _ rfl rfl (HLe.sub ((List.sublist_append_right _ _).cons _)) ⟨hv, rfl⟩
end Go.Proofs.Ytoadkdlhbmmdlaa
