/- The walks of lru's reference, by lists of items. Conditions: the lists are not too long. The walks of lru's reference: Put and Get. Conditions: the lists are not too long. The walk of lru's reference: Get. Conditions: the lists are not too long. The walks of the laws' helpers of lru: keys. Conditions: the lists are not too long. The walks of lru's New and of the laws' helper step. Conditions: the lists are not too long. -/
import Derived.Test.YtjelakmndcecoaaGlr1
import Derived.Test.YtjelakmndcecoaaGsx4
namespace Go.Proofs.Ytjelakmndcecoaa
open Go.RowKit
set_option linter.unusedVariables false
set_option linter.unusedSimpArgs false
def tcell (x : Item) : List Value := [uq x.1.1, uq x.1.2, .string (str x.2)]
theorem tcell_len (x : Item) : (tcell x).length = 3 := rfl
def tcells (L : List Item) : List Value := L.flatMap tcell
theorem tcells_len (L : List Item) : (tcells L).length = L.length * 3 := fm_len tcell_len L
theorem elemItem : ElemOk Try.prog 30 102 3 32 := ElemOk.mk_ (z := .agg #[.int .u64 0, .int .u64 0, .string ⟨#[]⟩]) Try.underlying30 (by kernel_rfl) rfl (by omega)
theorem tcells_key {L : List Item} {i : Nat} {x : Item} (h : L[i]? = some x) : rdV true 2 (tcells L) (i * 3) = some (.agg #[uq x.1.1, uq x.1.2]) := fm_rdm tcell_len 0 2 h (by omega)
theorem tcells_all {L : List Item} {i : Nat} {x : Item} (h : L[i]? = some x) : rdV true 3 (tcells L) (i * 3) = some (.agg #[uq x.1.1, uq x.1.2, .string (str x.2)]) := fm_rd tcell_len h
theorem key_eqR (a b : Ky) : EqV Try.prog 10000 37 (encK a) (encK b) (keq a b) := by
  have h : EqV Try.prog 10000 37 (encK a) (encK b) _ := EqV.struct Try.underlying37 (by kernel_rfl) (.cons rfl tyA35 tyS35 rfl rfl (EqV.int Try.underlying35) (.cons rfl tyA35 tyS35 rfl rfl (EqV.int Try.underlying35) .nil))
  have e : keq a b = ((((a.1 : Int) == (b.1 : Int)) && (((a.2 : Int) == (b.2 : Int)) && true))) := by
    obtain ⟨a1, a2⟩ := a
    obtain ⟨b1, b2⟩ := b
    rw [Bool.eq_iff_iff]
    simp [keq]
    omega
  rw [e]
  exact h
theorem guard_keyR : Program.eqGuardType Try.prog Try.prog.depth 37 = false := by kernel_rfl
/-- A key's place. -/
def placeV (L : List Item) (k : Ky) : Int := match L.findIdx? fun x => decide (x.1 = k) with
  | some i => i
  | none => -1
theorem placeV_at {L : List Item} {k : Ky} {i : Nat} {x : Item} (hx : L[i]? = some x) (he : x.1 = k) (hn : ∀ j y, j < i → L[j]? = some y → y.1 ≠ k) : placeV L k = i := by
  have : L.findIdx? (fun x => decide (x.1 = k)) = some i := by
    rw [List.findIdx?_eq_some_iff_getElem]
    obtain ⟨h1, h2⟩ := List.getElem?_eq_some_iff.1 hx
    refine ⟨h1, by rw [h2]; exact decide_eq_true he, fun j hj => ?_⟩
    have := hn j L[j] hj (List.getElem?_eq_getElem (by omega))
    simpa using this
  unfold placeV
  rw [this]
theorem placeV_none {L : List Item} {k : Ky} (hn : ∀ (j : Nat) (y : Item), L[j]? = some y → y.1 ≠ k) : placeV L k = -1 := by
  have : L.findIdx? (fun x => decide (x.1 = k)) = none := by
    rw [List.findIdx?_eq_none_iff]
    intro x hx
    obtain ⟨j, hj⟩ := List.mem_iff_getElem?.1 hx
    simpa using hn j x hj
  unfold placeV
  rw [this]
theorem lplace_fn (A : Option Addr) (c : Nat) (L : List Item) (k : Ky) (hA : SlOk A L.length) (hL : L.length ≤ 100000) :
    Fn Try.prog 59 [.slice A L.length c, encK k] (roE A (tcells L)) fun v _ => v = iq (placeV L k) := by
  refine Fn.enter (N := 20) Try.func59 rfl (by kernel_rfl) rfl (fun w0 => ?_)

  refine awp_seq_region (fun Z hZ => ?_)
  refine sx_box rfl rfl rfl (fun g1 => ?_)
  refine sx_assign rfl rfl ?_
  refine sx_nil (hZ _ _ ?_)
  refine awp_forget [(0, _), (3, _)] (Kn.cons rfl (Kn.cons rfl (Kn.nil))) ?_
  refine awp_seq ?_
  refine awp_seq_region (fun Z hZ => ?_)
  refine sx_assign rfl rfl ?_
  refine sx_nil (hZ _ _ ?_)
  refine awp_forget [(0, _), (3, _), (5, _)] (Kn.cons rfl (Kn.cons rfl (Kn.cons rfl (Kn.nil)))) ?_
  refine awp_block ?_
  refine awp_loop (ι := Nat) (fun i => [(0, .slice A L.length c), (3, ptr g1 0), (5, iq (i : Nat))]) (fun i => .own g1 37 [uq k.1, uq k.2] :: roE A (tcells L))
    (fun i => i ≤ L.length ∧ ∀ (j : Nat) (y : Item), j < i → L[j]? = some y → y.1 ≠ k) (fun i => L.length - i) 0 ⟨by omega, fun j y h => by omega⟩ (Kn.cons rfl (Kn.cons rfl (Kn.cons rfl Kn.nil))) (HLe.refl _) ?_
  rintro i ⟨hi, hno⟩

  refine awp_seq ?_
  refine awp_seq_region (fun Z hZ => ?_)
  refine sx_move rfl rfl ?_
  refine sx_move rfl rfl ?_
  refine sx_len Try.underlying30 rfl rfl ?_
  refine sx_lss rfl rfl rfl ?_
  refine sx_nil (hZ _ _ ?_)
  refine awp_forget [(0, _), (3, _), (5, _), (9, _)] (Kn.cons rfl (Kn.cons rfl (Kn.cons rfl (Kn.cons rfl (Kn.nil))))) ?_
  refine awp_cond rfl (fun h => ?_) (fun h => ?_)
  · have hlt : i < L.length := by simpa using h
    obtain ⟨x, hx⟩ : ∃ x, L[i]? = some x := ⟨_, List.getElem?_eq_getElem hlt⟩
    obtain ⟨g, o, rfl⟩ := hA.some (by omega)
    refine awp_skip ?_
    with_reducible refine nx_normal ?_
    refine awp_seq (awp_block ?_)

    refine awq_seq_region mixed (by kernel_rfl) (fun Z hZ => ?_)
    refine sq_move rfl rfl ?_
    refine sq_move rfl rfl ?_
    refine sq_indexAddr (o + i * 3) Try.underlying30 tyS102 rfl rfl (by omega) (by simp) rfl ?_
    refine sq_fieldAddr rfl tyF102_0 (by first | (simp only [Nat.reduceAdd, Nat.add_zero, Nat.zero_add]; first | done | rfl) | rfl) rfl ?_
    refine sq_loadRo 1 rfl rfl (i * 3) rfl tyA37 tyS37 (tcells_key hx) rfl ?_
    refine sq_loadA 0 rfl rfl tyA37 tyS37 (by first | (simp only [List.length_cons, List.length_nil, Nat.reduceAdd, Nat.zero_add, Nat.add_zero]; first | done | rfl) | rfl) (by first | (simp only [List.take_succ_cons, List.take_zero, List.drop_succ_cons, List.drop_zero, List.cons_append, List.nil_append, List.append_nil, List.length_cons, List.length_nil, Nat.reduceAdd, Nat.zero_add, Nat.add_zero, Value.cells, wrV]; first | done | rfl) | rfl) rfl ?_
    refine sq_aeql (key_eqR x.1 k) guard_keyR rfl rfl rfl ?_
    refine sq_nil (hZ _ _ ?_)
    refine awp_forget [(0, _), (3, _), (5, _), (18, _)] (Kn.cons rfl (Kn.cons rfl (Kn.cons rfl (Kn.cons rfl (Kn.nil))))) ?_
    refine awp_cond rfl (fun he => ?_) (fun he => ?_)
    · refine awp_seq_region (fun Z hZ => ?_)
      refine sx_move rfl rfl ?_
      refine sx_assign rfl rfl ?_
      refine sx_nil (hZ _ _ ?_)
      refine awp_forget [(4, _)] (Kn.cons rfl (Kn.nil)) ?_
      refine awp_ret ?_
      repeat (with_reducible (first | refine nx_then_ret ?_ | refine nx_block_ret ?_))
      exact nx_ret1 rfl rfl (by rw [placeV_at hx (of_decide_eq_true he) (fun j y hj => hno j y hj)])
    refine awp_skip ?_
    repeat (with_reducible refine nx_block_normal ?_)
    with_reducible refine nx_normal ?_
    refine awp_region (fun Z hZ => ?_)
    refine sx_move rfl rfl ?_
    refine sx_add rfl rfl ((i + 1 : Nat) : Int) (by rw [IntWalk.i64_in _ (by omega)]; omega) rfl ?_
    refine sx_assign rfl rfl ?_
    refine sx_nil (hZ _ _ ?_)
    refine nx_forget [(0, _), (3, _), (5, _)] (Kn.cons rfl (Kn.cons rfl (Kn.cons rfl (Kn.nil)))) ?_
    refine nx_round (i + 1) ⟨by omega, fun j y hj hy => ?_⟩ (by omega) (Kn.cons rfl (Kn.cons rfl (Kn.cons rfl Kn.nil))) (HLe.refl _)
    rcases Nat.lt_or_ge j i with hj' | hj'
    · exact hno j y hj' hy
    · obtain rfl : j = i := by omega
      rw [hx] at hy
      rw [← Option.some.inj hy]
      exact of_decide_eq_false he
  · refine awp_exit ?_
    repeat (with_reducible refine nx_then_exit ?_)
    with_reducible refine nx_block_exit ?_
    with_reducible refine nx_normal ?_
    have hke : i = L.length := by simp at h; omega
    subst hke
    refine awp_seq_region (fun Z hZ => ?_)
    refine sx_assign rfl rfl ?_
    refine sx_nil (hZ _ _ ?_)
    refine awp_forget [(4, _)] (Kn.cons rfl (Kn.nil)) ?_
    refine awp_ret ?_
    exact nx_ret1 rfl rfl (by rw [placeV_none fun j y hy => hno j y (List.getElem?_eq_some_iff.1 hy).1 hy])
theorem rDrop_take {L : List Item} {k : Ky} {i : Nat} {x : Item} (hx : L[i]? = some x) : rDrop (L.take (i + 1)) k = if keq x.1 k then rDrop (L.take i) k else rDrop (L.take i) k ++ [x] := by
  obtain ⟨h1, h2⟩ := List.getElem?_eq_some_iff.1 hx
  unfold rDrop
  rw [List.take_succ_eq_append_getElem h1, List.filter_append, h2]
  by_cases he : x.1 = k <;> simp [keq, he]
theorem rdrop_fn (A : Option Addr) (c : Nat) (L : List Item) (k : Ky) (hA : SlOk A L.length) (hL : L.length ≤ 100000) :
    Fn Try.prog 58 [.slice A L.length c, encK k] (roE A (tcells L)) fun v H' => RowOk v (rDrop L k).length ∧ H' = rowE v 102 3 (tcells (rDrop L k)) := by
  refine Fn.enter (N := 28) Try.func58 rfl (by kernel_rfl) rfl (fun w0 => ?_)

  refine awp_seq_region (fun Z hZ => ?_)
  refine sx_box rfl rfl rfl (fun g1 => ?_)
  refine sx_assign rfl rfl ?_
  refine sx_nil (hZ _ _ ?_)
  refine awp_forget [(0, _), (3, _)] (Kn.cons rfl (Kn.cons rfl (Kn.nil))) ?_
  refine awp_seq_region (fun Z hZ => ?_)
  refine sx_assign rfl rfl ?_
  refine sx_nil (hZ _ _ ?_)
  refine awp_forget [(0, _), (3, _), (5, _)] (Kn.cons rfl (Kn.cons rfl (Kn.cons rfl (Kn.nil)))) ?_
  refine awp_seq ?_
  refine awp_seq_region (fun Z hZ => ?_)
  refine sx_assign rfl rfl ?_
  refine sx_nil (hZ _ _ ?_)
  refine awp_forget [(0, _), (3, _), (5, _), (6, _)] (Kn.cons rfl (Kn.cons rfl (Kn.cons rfl (Kn.cons rfl (Kn.nil))))) ?_
  refine awp_block ?_
  refine awp_loop (ι := Nat × Value) (fun i => [(0, .slice A L.length c), (3, ptr g1 0), (5, i.2), (6, iq (i.1 : Nat))]) (fun i => .own g1 37 [uq k.1, uq k.2] :: (roE A (tcells L) ++ rowE i.2 102 3 (tcells (rDrop (L.take i.1) k))))
    (fun i => i.1 ≤ L.length ∧ RowOk i.2 (rDrop (L.take i.1) k).length) (fun i => L.length - i.1) (0, .slice none 0 0) ⟨by simp, RowOk.nil⟩ (Kn.cons rfl (Kn.cons rfl (Kn.cons rfl (Kn.cons rfl Kn.nil)))) (by simp only [rowE, List.append_nil]; exact HLe.refl _) ?_
  rintro ⟨i, v⟩ ⟨hi, hv⟩
  simp only at hi hv

  refine awp_seq ?_
  refine awp_seq_region (fun Z hZ => ?_)
  refine sx_move rfl rfl ?_
  refine sx_move rfl rfl ?_
  refine sx_len Try.underlying30 rfl rfl ?_
  refine sx_lss rfl rfl rfl ?_
  refine sx_nil (hZ _ _ ?_)
  refine awp_forget [(0, _), (3, _), (5, _), (6, _), (10, _)] (Kn.cons rfl (Kn.cons rfl (Kn.cons rfl (Kn.cons rfl (Kn.cons rfl (Kn.nil)))))) ?_
  refine awp_cond rfl (fun h => ?_) (fun h => ?_)
  · have hlt : i < L.length := by simpa using h
    obtain ⟨x, hx⟩ : ∃ x, L[i]? = some x := ⟨_, List.getElem?_eq_getElem hlt⟩
    obtain ⟨g, o, rfl⟩ := hA.some (by omega)
    have hdl := drop_len (L.take i) k
    rw [List.length_take] at hdl
    have htk := rDrop_take (k := k) hx
    refine awp_skip ?_
    with_reducible refine nx_normal ?_
    refine awp_seq (awp_block ?_)

    refine awq_seq_region mixed (by kernel_rfl) (fun Z hZ => ?_)
    refine sq_move rfl rfl ?_
    refine sq_move rfl rfl ?_
    refine sq_indexAddr (o + i * 3) Try.underlying30 tyS102 rfl rfl (by omega) (by simp) rfl ?_
    refine sq_fieldAddr rfl tyF102_0 (by first | (simp only [Nat.reduceAdd, Nat.add_zero, Nat.zero_add]; first | done | rfl) | rfl) rfl ?_
    refine sq_loadRo 1 rfl rfl (i * 3) rfl tyA37 tyS37 (tcells_key hx) rfl ?_
    refine sq_loadA 0 rfl rfl tyA37 tyS37 (by first | (simp only [List.length_cons, List.length_nil, Nat.reduceAdd, Nat.zero_add, Nat.add_zero]; first | done | rfl) | rfl) (by first | (simp only [List.take_succ_cons, List.take_zero, List.drop_succ_cons, List.drop_zero, List.cons_append, List.nil_append, List.append_nil, List.length_cons, List.length_nil, Nat.reduceAdd, Nat.zero_add, Nat.add_zero, Value.cells, wrV]; first | done | rfl) | rfl) rfl ?_
    refine sq_aneq (key_eqR x.1 k) guard_keyR rfl rfl rfl ?_
    refine sq_nil (hZ _ _ ?_)
    refine awp_forget [(0, _), (3, _), (5, _), (6, _), (19, _)] (Kn.cons rfl (Kn.cons rfl (Kn.cons rfl (Kn.cons rfl (Kn.cons rfl (Kn.nil)))))) ?_
    refine awp_meet (ι := Value) (fun v => [(0, .slice (some ⟨g, o, none⟩) L.length c), (3, ptr g1 0), (5, v), (6, iq (i : Nat))]) (fun v => .own g1 37 [uq k.1, uq k.2] :: (roE (some ⟨g, o, none⟩) (tcells L) ++ rowE v 102 3 (tcells (rDrop (L.take (i + 1)) k))))
      (fun v => RowOk v (rDrop (L.take (i + 1)) k).length) ?_ ?_
    · refine awp_cond rfl (fun he => ?_) (fun he => ?_)
      · have hk : keq x.1 k = false := by simpa using he
        rw [hk] at htk
        simp only [Bool.false_eq_true, if_false] at htk
        refine awp_region (fun Z hZ => ?_)
        refine sx_move rfl rfl ?_
        refine sx_move rfl rfl ?_
        refine sx_move rfl rfl ?_
        refine sx_indexAddr (o + i * 3) Try.underlying30 tyS102 rfl rfl (by omega) (by simp) rfl ?_
        refine sx_loadRo 1 rfl rfl (i * 3) rfl tyA102 tyS102 (tcells_all hx) rfl ?_
        refine sx_buildSlice Try.underlying30 tyS102 tyZ102 rfl rfl rfl rfl (by first | (simp only [List.take_succ_cons, List.take_zero, List.drop_succ_cons, List.drop_zero, List.cons_append, List.nil_append, List.append_nil, List.length_cons, List.length_nil, Nat.reduceAdd, Nat.zero_add, Nat.add_zero, Value.cells, wrV, zrep_one, List.replicate_succ, List.replicate_zero, Nat.reduceMul, Nat.zero_mul]; first | done | rfl) | rfl) rfl (fun g2 => ?_)
        refine sx_appendE [_, _, _] elemItem rfl hv (tcells_len _) rfl (fun w hw => rd_own (i := 0) (xs := tcell x) rfl rfl hw) rfl (by show _ ≤ 9223372036854775807; omega) (by omega) (HLe.refl _) rfl (fun v2 hv2 => ?_)
        refine sx_assign rfl rfl ?_
        refine sx_nil (hZ _ _ ?_)
        refine nx_forget [(0, _), (3, _), (5, _), (6, _)] (Kn.cons rfl (Kn.cons rfl (Kn.cons rfl (Kn.cons rfl (Kn.nil))))) ?_
        have e : (rDrop (L.take (i + 1)) k).length = (rDrop (L.take i) k).length + 1 := by rw [htk]; simp
        refine nx_cut v2 (by rw [e]; exact hv2) (Kn.cons rfl (Kn.cons rfl (Kn.cons rfl (Kn.cons rfl Kn.nil)))) ?_
        rw [htk, show tcells (rDrop (L.take i) k ++ [x]) = tcells (rDrop (L.take i) k) ++ tcell x from fm_snoc _ _]
        exact HLe.drop 1 rfl
      · have hk : keq x.1 k = true := by simpa using he
        rw [hk] at htk
        simp only [if_true] at htk
        refine awp_skip ?_
        exact nx_cut v (by rw [htk]; exact hv) (Kn.cons rfl (Kn.cons rfl (Kn.cons rfl (Kn.cons rfl Kn.nil)))) (by rw [htk]; exact HLe.refl _)
    intro v2 hv2
    repeat (with_reducible refine nx_block_normal ?_)
    with_reducible refine nx_normal ?_
    refine awp_region (fun Z hZ => ?_)
    refine sx_move rfl rfl ?_
    refine sx_add rfl rfl ((i + 1 : Nat) : Int) (by rw [IntWalk.i64_in _ (by omega)]; omega) rfl ?_
    refine sx_assign rfl rfl ?_
    refine sx_nil (hZ _ _ ?_)
    refine nx_forget [(0, _), (3, _), (5, _), (6, _)] (Kn.cons rfl (Kn.cons rfl (Kn.cons rfl (Kn.cons rfl (Kn.nil))))) ?_
    exact nx_round (i + 1, v2) ⟨by omega, hv2⟩ (by simp; omega) (Kn.cons rfl (Kn.cons rfl (Kn.cons rfl (Kn.cons rfl Kn.nil)))) (HLe.refl _)
  · refine awp_exit ?_
    repeat (with_reducible refine nx_then_exit ?_)
    with_reducible refine nx_block_exit ?_
    with_reducible refine nx_normal ?_
    have hke : i = L.length := by simp at h; omega
    subst hke
    rw [List.take_length] at hv
    rw [List.take_length]
    refine awp_seq_region (fun Z hZ => ?_)
    refine sx_move rfl rfl ?_
    refine sx_assign rfl rfl ?_
    refine sx_nil (hZ _ _ ?_)
    refine awp_forget [(4, _)] (Kn.cons rfl (Kn.nil)) ?_
    refine awp_ret ?_
    exact nx_ret1h _ rfl rfl (HLe.sub ((List.sublist_append_right _ _).cons _)) ⟨hv, rfl⟩
end Go.Proofs.Ytjelakmndcecoaa

namespace Go.Proofs.Ytjelakmndcecoaa
open Go.RowKit
set_option linter.unusedVariables false
set_option linter.unusedSimpArgs false
theorem lrput_fn (A : Option Addr) (c most : Nat) (L : List Item) (k : Ky) (v : List UInt8) (hA : SlOk A L.length) (hL : L.length ≤ 100000) :
    Fn Try.prog 42 [.slice A L.length c, iq most, encK k, .string (str v)] (roE A (tcells L))
    fun u H' => ∃ g' o' c', u = .tuple #[.slice (some ⟨g', o', none⟩) (rPutL most L k v).length c', encK (rPutK most L k v), .bool (rPutB most L k v)] ∧ H' = [.ob g' (ReadP o' (tcells (rPutL most L k v)))] := by
  have hdl := drop_len L k
  refine Fn.enter (N := 32) Try.func42 rfl (by kernel_rfl) rfl (fun w0 => ?_)

  refine awp_seq_region (fun Z hZ => ?_)
  refine sx_box rfl rfl rfl (fun g1 => ?_)
  refine sx_assign rfl rfl ?_
  refine sx_alloc tyZ37 rfl (fun g2 => ?_)
  refine sx_assign rfl rfl ?_
  refine sx_nil (hZ _ _ ?_)
  refine awp_forget [(0, _), (1, _), (3, _), (6, _), (9, _)] (Kn.cons rfl (Kn.cons rfl (Kn.cons rfl (Kn.cons rfl (Kn.cons rfl (Kn.nil)))))) ?_

  refine awk_seq_region (fun i : Nat × Nat × Nat => [(1, iq most), (9, ptr i.1 0), (11, .slice (some ⟨i.2.1, 0, none⟩) ((rDrop L k).length + 1) i.2.2)]) (fun i => [.ob i.2.1 (RowP 102 3 ((rDrop L k).length + 1) i.2.2 (tcells (rDrop L k) ++ tcell (k, v))), .own i.1 37 [uq 0, uq 0]]) (fun _ => True) _ [2, 6, 7] [(0, true), (1, true), (3, true), (4, true), (5, true), (2, false), (6, false), (7, false), (8, true)] [(0, true), (1, true), (3, true), (4, true), (5, true), (6, false), (2, false), (7, false), (8, true)] mixed (by kernel_rfl) (HLe.pick [1] (by simp) (by simp only [pick, List.filterMap_cons, List.filterMap_nil, List.getElem?_cons_succ, List.getElem?_cons_zero]; rfl)) ?_ ?_ ?_
  · refine tw_p rfl ?_
    refine sv_move rfl rfl ?_
    refine sv_nil ?_
    refine tw_p rfl ?_
    first | refine sv_loadA 0 rfl rfl tyA37 tyS37 (by first | (simp only [List.length_cons, List.length_nil, Nat.reduceAdd, Nat.zero_add, Nat.add_zero]; first | done | rfl) | rfl) (by first | (simp only [List.take_succ_cons, List.take_zero, List.drop_succ_cons, List.drop_zero, List.cons_append, List.nil_append, List.append_nil, List.length_cons, List.length_nil, Nat.reduceAdd, Nat.zero_add, Nat.add_zero, Value.cells, wrV]; first | done | rfl) | rfl) rfl ?_
    refine sv_nil ?_
    refine tw_p rfl ?_
    first | refine sv_loadA 0 rfl rfl tyA37 tyS37 (by first | (simp only [List.length_cons, List.length_nil, Nat.reduceAdd, Nat.zero_add, Nat.add_zero]; first | done | rfl) | rfl) (by first | (simp only [List.take_succ_cons, List.take_zero, List.drop_succ_cons, List.drop_zero, List.cons_append, List.nil_append, List.append_nil, List.length_cons, List.length_nil, Nat.reduceAdd, Nat.zero_add, Nat.add_zero, Value.cells, wrV]; first | done | rfl) | rfl) rfl ?_
    refine sv_nil ?_
    refine tw_p rfl ?_
    refine sv_move rfl rfl ?_
    refine sv_nil ?_
    refine tw_p rfl ?_
    refine sv_build tyZ102 tyP102 rfl rfl (by first | (simp only [List.take_succ_cons, List.take_zero, List.drop_succ_cons, List.drop_zero, List.cons_append, List.nil_append, List.append_nil, List.length_cons, List.length_nil, Nat.reduceAdd, Nat.zero_add, Nat.add_zero, Value.cells, wrV, zrep_one, List.replicate_succ, List.replicate_zero, Nat.reduceMul, Nat.zero_mul]; first | done | rfl) | rfl) rfl ?_
    refine sv_nil ?_
    refine tw_g rfl ?_
    refine sx_callRE (roE A (tcells L)) (rdrop_fn A c L k hA hL) rfl (by first | exact List.sublist_append_right [_, _] _ | exact List.sublist_append_right [_, _, _] _) (Ro.roE _ _) rfl (fun v1 hv1 => ?_)
    refine sx_nil ⟨HLe.pick [1] (by simp) rfl, ?_⟩
    refine tw_g rfl ?_
    refine sx_buildSlice Try.underlying30 tyS102 tyZ102 rfl rfl rfl rfl (by first | (simp only [List.take_succ_cons, List.take_zero, List.drop_succ_cons, List.drop_zero, List.cons_append, List.nil_append, List.append_nil, List.length_cons, List.length_nil, Nat.reduceAdd, Nat.zero_add, Nat.add_zero, Value.cells, wrV, zrep_one, List.replicate_succ, List.replicate_zero, Nat.reduceMul, Nat.zero_mul]; first | done | rfl) | rfl) rfl (fun g3 => ?_)
    refine sx_nil ⟨HLe.pick [2] (by simp) rfl, ?_⟩
    refine tw_g rfl ?_
    refine sx_appendE ([_, _, _] ++ roE A (tcells L)) elemItem rfl hv1 (tcells_len _) rfl (fun w hw => rd_own (i := 0) (xs := tcell (k, v)) rfl rfl hw) rfl (by show _ ≤ 9223372036854775807; omega) (by omega) (HLe.refl _) rfl (fun v2 hv2 => ?_)
    obtain ⟨g3', c3, rfl⟩ := hv2.some (by omega)
    refine sx_nil ⟨HLe.pick [2] (by simp) rfl, ?_⟩
    refine tw_p rfl ?_
    refine sv_assign rfl rfl ?_
    refine sv_nil ?_
    refine tw_nil ?_
    exact ⟨(g2, g3', c3), trivial, Kn.cons rfl (Kn.cons rfl (Kn.cons rfl Kn.nil)), (HLe.pick [3, 1] (by simp) rfl).trans (HLe.mid [_, _, _] (roE A (tcells L)) [_])⟩
  · refine tw_p rfl ?_
    refine sv_move rfl rfl ?_
    refine sv_nil ?_
    refine tw_p rfl ?_
    first | refine sv_loadA 0 rfl rfl tyA37 tyS37 (by first | (simp only [List.length_cons, List.length_nil, Nat.reduceAdd, Nat.zero_add, Nat.add_zero]; first | done | rfl) | rfl) (by first | (simp only [List.take_succ_cons, List.take_zero, List.drop_succ_cons, List.drop_zero, List.cons_append, List.nil_append, List.append_nil, List.length_cons, List.length_nil, Nat.reduceAdd, Nat.zero_add, Nat.add_zero, Value.cells, wrV]; first | done | rfl) | rfl) rfl ?_
    refine sv_nil ?_
    refine tw_p rfl ?_
    first | refine sv_loadA 0 rfl rfl tyA37 tyS37 (by first | (simp only [List.length_cons, List.length_nil, Nat.reduceAdd, Nat.zero_add, Nat.add_zero]; first | done | rfl) | rfl) (by first | (simp only [List.take_succ_cons, List.take_zero, List.drop_succ_cons, List.drop_zero, List.cons_append, List.nil_append, List.append_nil, List.length_cons, List.length_nil, Nat.reduceAdd, Nat.zero_add, Nat.add_zero, Value.cells, wrV]; first | done | rfl) | rfl) rfl ?_
    refine sv_nil ?_
    refine tw_p rfl ?_
    refine sv_move rfl rfl ?_
    refine sv_nil ?_
    refine tw_p rfl ?_
    refine sv_build tyZ102 tyP102 rfl rfl (by first | (simp only [List.take_succ_cons, List.take_zero, List.drop_succ_cons, List.drop_zero, List.cons_append, List.nil_append, List.append_nil, List.length_cons, List.length_nil, Nat.reduceAdd, Nat.zero_add, Nat.add_zero, Value.cells, wrV, zrep_one, List.replicate_succ, List.replicate_zero, Nat.reduceMul, Nat.zero_mul]; first | done | rfl) | rfl) rfl ?_
    refine sv_nil ?_
    refine tw_g rfl ?_
    refine sx_buildSlice Try.underlying30 tyS102 tyZ102 rfl rfl rfl rfl (by first | (simp only [List.take_succ_cons, List.take_zero, List.drop_succ_cons, List.drop_zero, List.cons_append, List.nil_append, List.append_nil, List.length_cons, List.length_nil, Nat.reduceAdd, Nat.zero_add, Nat.add_zero, Value.cells, wrV, zrep_one, List.replicate_succ, List.replicate_zero, Nat.reduceMul, Nat.zero_mul]; first | done | rfl) | rfl) rfl (fun g3 => ?_)
    refine sx_nil ⟨HLe.pick [2] (by simp) rfl, ?_⟩
    refine tw_g rfl ?_
    refine sx_callRE (roE A (tcells L)) (rdrop_fn A c L k hA hL) rfl (by first | exact List.sublist_append_right [_, _] _ | exact List.sublist_append_right [_, _, _] _) (Ro.roE _ _) rfl (fun v1 hv1 => ?_)
    refine sx_nil ⟨HLe.pick [2] (by simp) rfl, ?_⟩
    refine tw_g rfl ?_
    refine sx_appendE ([_, _, _] ++ roE A (tcells L)) elemItem rfl hv1 (tcells_len _) rfl (fun w hw => rd_own (i := 0) (xs := tcell (k, v)) rfl rfl hw) rfl (by show _ ≤ 9223372036854775807; omega) (by omega) (HLe.refl _) rfl (fun v2 hv2 => ?_)
    obtain ⟨g3', c3, rfl⟩ := hv2.some (by omega)
    refine sx_nil ⟨HLe.pick [2] (by simp) rfl, ?_⟩
    refine tw_p rfl ?_
    refine sv_assign rfl rfl ?_
    refine sv_nil ?_
    refine tw_nil ?_
    exact ⟨(g2, g3', c3), trivial, Kn.cons rfl (Kn.cons rfl (Kn.cons rfl Kn.nil)), (HLe.pick [3, 1] (by simp) rfl).trans (HLe.mid [_, _, _] (roE A (tcells L)) [_])⟩
  rintro ⟨g2, g3, c3⟩ -
  rw [show tcells (rDrop L k) ++ tcell (k, v) = tcells (rDrop L k ++ [(k, v)]) from (fm_snoc _ _).symm]
  have hlen : (rDrop L k ++ [(k, v)]).length = (rDrop L k).length + 1 := by simp
  rw [← hlen]
  refine awp_seq ?_
  refine awp_seq_region (fun Z hZ => ?_)
  refine sx_move rfl rfl ?_
  refine sx_len Try.underlying30 rfl rfl ?_
  refine sx_move rfl rfl ?_
  refine sx_leq rfl rfl rfl ?_
  refine sx_nil (hZ _ _ ?_)
  refine awp_forget [(9, _), (11, _), (23, _)] (Kn.cons rfl (Kn.cons rfl (Kn.cons rfl (Kn.nil)))) ?_
  refine awp_cond rfl (fun h => ?_) (fun h => ?_)
  · obtain ⟨e1, e2, e3⟩ := rPut_few (L := L) (k := k) (v := v) (most := most) (by simp at h ⊢; omega)
    rw [e1, e2, e3]

    refine awp_seq_region (fun Z hZ => ?_)
    refine sx_move rfl rfl ?_
    refine sx_build tyZ37 tyP37 rfl rfl (by first | (simp only [List.take_succ_cons, List.take_zero, List.drop_succ_cons, List.drop_zero, List.cons_append, List.nil_append, List.append_nil, List.length_cons, List.length_nil, Nat.reduceAdd, Nat.zero_add, Nat.add_zero, Value.cells, wrV, zrep_one, List.replicate_succ, List.replicate_zero, Nat.reduceMul, Nat.zero_mul]; first | done | rfl) | rfl) rfl ?_
    refine sx_assign rfl rfl ?_
    refine sx_store 1 rfl rfl rfl tyS37 (by first | (simp only [Value.cells]; first | done | rfl) | rfl) rfl rfl (by first | (simp only [List.length_cons, List.length_nil, Nat.reduceAdd, Nat.zero_add, Nat.add_zero]; first | done | rfl) | rfl) (by first | (simp only [List.take_succ_cons, List.take_zero, List.drop_succ_cons, List.drop_zero, List.cons_append, List.nil_append, List.append_nil, List.length_cons, List.length_nil, Nat.reduceAdd, Nat.zero_add, Nat.add_zero, Value.cells, wrV]; first | done | rfl) | rfl) (by first | (simp only [List.set_cons_succ, List.set_cons_zero]; first | done | rfl) | rfl) ?_
    refine sx_assign rfl rfl ?_
    refine sx_nil (hZ _ _ ?_)
    refine awp_forget [(8, _), (9, _), (10, _)] (Kn.cons rfl (Kn.cons rfl (Kn.cons rfl (Kn.nil)))) ?_
    refine awp_ret ?_
    repeat (with_reducible refine nx_then_ret ?_)
    exact nx_ret3h _ rfl rfl (ResOk.cell 1 rfl rfl tyA37 tyS37 rfl) rfl ((row_read []).trans (HLe.pick [0] (by simp) rfl)) ⟨g3, 0, c3, rfl, rfl⟩
  refine awp_skip ?_
  with_reducible refine nx_normal ?_
  obtain ⟨x, r, hx⟩ : ∃ x r, rDrop L k ++ [(k, v)] = x :: r := by
    cases hh : rDrop L k ++ [(k, v)] with
    | nil => simp at hh
    | cons x r => exact ⟨x, r, rfl⟩
  obtain ⟨e1, e2, e3⟩ := rPut_many (most := most) (by simp at h ⊢; omega) hx
  rw [e1, e2, e3]
  rw [hx] at h hlen ⊢
  have hkey : rdV true 2 (tcells (x :: r)) (0 * 3) = some (.agg #[uq x.1.1, uq x.1.2]) := tcells_key (L := x :: r) (i := 0) rfl
  rcases Nat.lt_or_ge c3 (x :: r).length with hlt | hge
  · refine awp_false 0 rfl (fun o ho => ?_)
    obtain ⟨cur, _, h2, _⟩ := ho
    exact absurd h2 (Nat.not_le_of_lt hlt)

  refine aww_seq_region _ [(0, true), (1, true), (2, true), (3, true), (4, true), (5, true), (6, true), (7, false), (8, true)] mixed (by kernel_rfl) (HLe.pick [0] (by simp) (by simp only [pick, List.filterMap_cons, List.filterMap_nil, List.getElem?_cons_succ, List.getElem?_cons_zero]; rfl)) (fun Z hZ => ?_)
  refine tw_p rfl ?_
  refine sv_move rfl rfl ?_
  refine sv_nil ?_
  refine tw_p rfl ?_
  refine sv_slice Try.underlying30 tyS102 rfl rfl rfl (by omega) (by simp; omega) (by simp at hge ⊢; omega) rfl (fun o4 ho4 => ?_)
  refine sv_nil ?_
  refine tw_p rfl ?_
  refine sv_move rfl rfl ?_
  refine sv_nil ?_
  refine tw_p rfl ?_
  refine sv_indexAddr 0 Try.underlying30 tyS102 rfl rfl (by simp) rfl rfl ?_
  refine sv_nil ?_
  refine tw_p rfl ?_
  refine sv_fieldAddr rfl tyF102_0 (by first | (simp only [Nat.reduceAdd, Nat.add_zero, Nat.zero_add]; first | done | rfl) | rfl) rfl ?_
  refine sv_nil ?_
  refine tw_p rfl ?_
  refine sv_loadRd (o := 0) 0 rfl rfl (fun w hw => rd_row (i := 0) rfl hw) (by simp) tyA37 tyS37 hkey rfl ?_
  refine sv_nil ?_
  refine tw_p rfl ?_
  refine sv_assign rfl rfl ?_
  refine sv_nil ?_
  refine tw_g rfl ?_
  refine sx_store 1 rfl rfl rfl tyS37 (by first | (simp only [Value.cells]; first | done | rfl) | rfl) rfl rfl (by first | (simp only [List.length_cons, List.length_nil, Nat.reduceAdd, Nat.zero_add, Nat.add_zero]; first | done | rfl) | rfl) (by first | (simp only [List.take_succ_cons, List.take_zero, List.drop_succ_cons, List.drop_zero, List.cons_append, List.nil_append, List.append_nil, List.length_cons, List.length_nil, Nat.reduceAdd, Nat.zero_add, Nat.add_zero, Value.cells, wrV]; first | done | rfl) | rfl) (by first | (simp only [List.set_cons_succ, List.set_cons_zero]; first | done | rfl) | rfl) ?_
  refine sx_nil ⟨HLe.pick [0] (by simp) rfl, ?_⟩
  refine tw_p rfl ?_
  refine sv_assign rfl rfl ?_
  refine sv_nil ?_
  refine tw_nil (hZ _ _ ?_)
  refine awp_forget [(8, _), (9, _), (10, _)] (Kn.cons rfl (Kn.cons rfl (Kn.cons rfl (Kn.nil)))) ?_
  refine awp_ret ?_
  have hl1 : (((x :: r).length : Nat) : Int).toNat - (1 : Int).toNat = r.length := by simp
  refine nx_ret3h [.ob g3 (ReadP o4 (tcells r))] rfl rfl (ResOk.cell 1 rfl rfl tyA37 tyS37 rfl) rfl (HLe.trans ?_ ((row_read []).trans (HLe.pick [0] (by simp) rfl))) ⟨g3, o4, c3 - 1, by rw [hl1]; rfl, rfl⟩
  rcases r with _ | ⟨y, r⟩
  · exact read_nil []
  · have : o4 = 0 + 3 := ho4 (by simp; omega)
    subst this
    exact read_off (k := 3) []
end Go.Proofs.Ytjelakmndcecoaa

namespace Go.Proofs.Ytjelakmndcecoaa
open Go.RowKit
set_option linter.unusedVariables false
set_option linter.unusedSimpArgs false
theorem place_is (L : List Item) (k : Ky) : (hasK L k = false ∧ placeV L k = -1) ∨ ∃ i : Nat, hasK L k = true ∧ placeV L k = i ∧ L[i]? = some (k, valK L k) := by
  cases hf : L.findIdx? (fun x => decide (x.1 = k)) with
  | none =>
    refine .inl ⟨?_, by unfold placeV; rw [hf]⟩
    rw [List.findIdx?_eq_none_iff] at hf
    rw [hasK, List.any_eq_false]
    intro x hx
    simpa using hf x hx
  | some i =>
    refine .inr ⟨i, ?_, by unfold placeV; rw [hf], ?_⟩
    · rw [List.findIdx?_eq_some_iff_getElem] at hf
      obtain ⟨h1, h2, _⟩ := hf
      exact List.any_eq_true.2 ⟨_, List.getElem_mem h1, h2⟩
    · rw [List.findIdx?_eq_some_iff_getElem] at hf
      obtain ⟨h1, h2, h3⟩ := hf
      have : L.find? (fun x => decide (x.1 = k)) = some L[i] := by
        rw [List.find?_eq_some_iff_append]
        refine ⟨h2, L.take i, L.drop (i + 1), ?_, fun x hx => ?_⟩
        · rw [← List.drop_eq_getElem_cons h1, List.take_append_drop]
        · obtain ⟨j, hj⟩ := List.mem_iff_getElem?.1 hx
          obtain ⟨h4, h5⟩ := List.getElem?_eq_some_iff.1 hj
          simp only [List.length_take] at h4
          rw [List.getElem_take] at h5
          rw [← h5]
          simpa using h3 j (by omega)
      unfold valK
      rw [this, List.getElem?_eq_getElem h1]
      have hk : L[i].1 = k := of_decide_eq_true h2
      rw [← hk]
      rfl
theorem lrget_fn (A : Option Addr) (c : Nat) (L : List Item) (k : Ky) (hA : SlOk A L.length) (hL : L.length ≤ 100000) :
    Fn Try.prog 43 [.slice A L.length c, encK k] (roE A (tcells L))
    fun u H' => ∃ A' c', u = .tuple #[.slice A' (rGetL L k).length c', .string (str (valK L k)), .bool (hasK L k)] ∧
      ((hasK L k = false ∧ A' = A ∧ H' = []) ∨ (∃ g' o', A' = some ⟨g', o', none⟩ ∧ H' = [.ob g' (ReadP o' (tcells (rGetL L k)))])) := by
  have hdl := drop_len L k
  refine Fn.enter (N := 27) Try.func43 rfl (by kernel_rfl) rfl (fun w0 => ?_)

  refine awp_seq_region (fun Z hZ => ?_)
  refine sx_box rfl rfl rfl (fun g1 => ?_)
  refine sx_assign rfl rfl ?_
  refine sx_assign rfl rfl ?_
  refine sx_assign rfl rfl ?_
  refine sx_nil (hZ _ _ ?_)
  refine awp_forget [(0, _), (3, _)] (Kn.cons rfl (Kn.cons rfl (Kn.nil))) ?_

  refine awp_seq_region (fun Z hZ => ?_)
  refine sx_move rfl rfl ?_
  first | refine sx_loadA 0 rfl rfl tyA37 tyS37 (by first | (simp only [List.length_cons, List.length_nil, Nat.reduceAdd, Nat.zero_add, Nat.add_zero]; first | done | rfl) | rfl) (by first | (simp only [List.take_succ_cons, List.take_zero, List.drop_succ_cons, List.drop_zero, List.cons_append, List.nil_append, List.append_nil, List.length_cons, List.length_nil, Nat.reduceAdd, Nat.zero_add, Nat.add_zero, Value.cells, wrV]; first | done | rfl) | rfl) rfl ?_
  refine sx_callPT (roE A (tcells L)) (lplace_fn A c L k hA hL) rfl (List.sublist_append_right [_] _) (Ro.roE _ _) rfl ?_
  refine sx_assign rfl rfl ?_
  refine sx_nil (hZ _ _ ?_)
  refine awp_forget [(0, _), (3, _), (7, _)] (Kn.cons rfl (Kn.cons rfl (Kn.cons rfl (Kn.nil)))) ?_
  refine awp_seq ?_
  refine awp_seq_region (fun Z hZ => ?_)
  refine sx_move rfl rfl ?_
  refine sx_lss rfl rfl rfl ?_
  refine sx_nil (hZ _ _ ?_)
  refine awp_forget [(0, _), (3, _), (7, _), (13, _)] (Kn.cons rfl (Kn.cons rfl (Kn.cons rfl (Kn.cons rfl (Kn.nil))))) ?_
  rcases place_is L k with ⟨hf, hp⟩ | ⟨i, hf, hp, hx⟩
  · rw [hp, hf, valK_none hf, show rGetL L k = L by unfold rGetL; rw [hf]; rfl]
    refine awp_cond rfl (fun h => ?_) (fun h => ?_)
    · refine awp_seq_region (fun Z hZ => ?_)
      refine sx_move rfl rfl ?_
      refine sx_assign rfl rfl ?_
      refine sx_assign rfl rfl ?_
      refine sx_assign rfl rfl ?_
      refine sx_nil (hZ _ _ ?_)
      refine awp_forget [(4, _), (5, _), (6, _)] (Kn.cons rfl (Kn.cons rfl (Kn.cons rfl (Kn.nil)))) ?_
      refine awp_ret ?_
      repeat (with_reducible refine nx_then_ret ?_)
      exact nx_ret3h [] rfl rfl rfl rfl (HLe.sub (List.nil_sublist _)) ⟨A, c, rfl, .inl ⟨rfl, rfl, rfl⟩⟩
    · simp at h
  · have hlt : i < L.length := (List.getElem?_eq_some_iff.1 hx).1
    have hG : rGetL L k = rDrop L k ++ [(k, valK L k)] := by unfold rGetL; rw [hf]; rfl
    rw [hp, hf, hG]
    obtain ⟨v, hv⟩ : ∃ v, valK L k = v := ⟨_, rfl⟩
    rw [hv] at hx ⊢
    refine awp_cond rfl (fun h => ?_) (fun h => ?_)
    · simp at h; omega
    refine awp_skip ?_
    with_reducible refine nx_normal ?_
    obtain ⟨g, o, rfl⟩ := hA.some (by omega)

    refine awp_seq_region (fun Z hZ => ?_)
    refine sx_move rfl rfl ?_
    refine sx_move rfl rfl ?_
    refine sx_indexAddr (o + i * 3) Try.underlying30 tyS102 rfl rfl (by omega) (by simp) rfl ?_
    refine sx_loadRo 1 rfl rfl (i * 3) rfl tyA102 tyS102 (tcells_all hx) rfl ?_
    refine sx_alloc tyZ102 rfl (fun g2 => ?_)
    refine sx_store 0 rfl rfl rfl tyS102 (by first | (simp only [Value.cells]; first | done | rfl) | rfl) rfl rfl (by first | (simp only [List.length_cons, List.length_nil, Nat.reduceAdd, Nat.zero_add, Nat.add_zero]; first | done | rfl) | rfl) (by first | (simp only [List.take_succ_cons, List.take_zero, List.drop_succ_cons, List.drop_zero, List.cons_append, List.nil_append, List.append_nil, List.length_cons, List.length_nil, Nat.reduceAdd, Nat.zero_add, Nat.add_zero, Value.cells, wrV]; first | done | rfl) | rfl) (by first | (simp only [List.set_cons_succ, List.set_cons_zero]; first | done | rfl) | rfl) ?_
    refine sx_nil (hZ _ _ ?_)
    refine awp_forget [(0, _), (3, _), (8, _)] (Kn.cons rfl (Kn.cons rfl (Kn.cons rfl (Kn.nil)))) ?_
    refine awp_heap (.own g2 102 [uq k.1, uq k.2, .string (str v)] :: .own g1 37 [uq k.1, uq k.2] :: roE (some ⟨g, o, none⟩) (tcells L)) (HLe.refl _) ?_

    refine awk_seq_region (fun i : Nat × Nat => [(4, .slice (some ⟨i.1, 0, none⟩) ((rDrop L k).length + 1) i.2), (5, .string (str v)), (6, .bool true)]) (fun i => [.ob i.1 (RowP 102 3 ((rDrop L k).length + 1) i.2 (tcells (rDrop L k) ++ tcell (k, v)))]) (fun _ => True) _ [2, 4, 5] [(0, true), (1, true), (3, true), (6, true), (7, true), (2, false), (4, false), (5, false), (8, true), (9, true), (10, true)] [(0, true), (1, true), (3, true), (6, true), (7, true), (4, false), (2, false), (5, false), (8, true), (9, true), (10, true)] mixed (by kernel_rfl) (HLe.pick [0, 1] (by simp) (by simp only [pick, List.filterMap_cons, List.filterMap_nil, List.getElem?_cons_succ, List.getElem?_cons_zero]; rfl)) ?_ ?_ ?_
    · refine tw_p rfl ?_
      refine sv_move rfl rfl ?_
      refine sv_nil ?_
      refine tw_p rfl ?_
      refine sv_loadA 1 rfl rfl tyA37 tyS37 (by first | (simp only [List.length_cons, List.length_nil, Nat.reduceAdd, Nat.zero_add, Nat.add_zero]; first | done | rfl) | rfl) (by first | (simp only [List.take_succ_cons, List.take_zero, List.drop_succ_cons, List.drop_zero, List.cons_append, List.nil_append, List.append_nil, List.length_cons, List.length_nil, Nat.reduceAdd, Nat.zero_add, Nat.add_zero, Value.cells, wrV]; first | done | rfl) | rfl) rfl ?_
      refine sv_nil ?_
      refine tw_p rfl ?_
      refine sv_loadA 0 rfl rfl tyA102 tyS102 (by first | (simp only [List.length_cons, List.length_nil, Nat.reduceAdd, Nat.zero_add, Nat.add_zero]; first | done | rfl) | rfl) (by first | (simp only [List.take_succ_cons, List.take_zero, List.drop_succ_cons, List.drop_zero, List.cons_append, List.nil_append, List.append_nil, List.length_cons, List.length_nil, Nat.reduceAdd, Nat.zero_add, Nat.add_zero, Value.cells, wrV]; first | done | rfl) | rfl) rfl ?_
      refine sv_nil ?_
      refine tw_p rfl ?_
      refine sv_fieldAddr rfl tyF102_1 (by first | (simp only [Nat.reduceAdd, Nat.add_zero, Nat.zero_add]; first | done | rfl) | rfl) rfl ?_
      refine sv_nil ?_
      refine tw_p rfl ?_
      refine sv_load 0 rfl rfl tyA9 tyS9 rfl rfl ?_
      refine sv_nil ?_
      refine tw_g rfl ?_
      refine sx_callRE (roE (some ⟨g, o, none⟩) (tcells L)) (rdrop_fn (some ⟨g, o, none⟩) c L k hA hL) rfl (by first | exact List.sublist_append_right [_, _] _ | exact List.sublist_append_right [_, _, _] _) (Ro.roE _ _) rfl (fun v1 hv1 => ?_)
      refine sx_nil ⟨HLe.pick [0, 1] (by simp) rfl, ?_⟩
      refine tw_g rfl ?_
      refine sx_buildSlice Try.underlying30 tyS102 tyZ102 rfl rfl rfl rfl (by first | (simp only [List.take_succ_cons, List.take_zero, List.drop_succ_cons, List.drop_zero, List.cons_append, List.nil_append, List.append_nil, List.length_cons, List.length_nil, Nat.reduceAdd, Nat.zero_add, Nat.add_zero, Value.cells, wrV, zrep_one, List.replicate_succ, List.replicate_zero, Nat.reduceMul, Nat.zero_mul]; first | done | rfl) | rfl) rfl (fun g3 => ?_)
      refine sx_nil ⟨HLe.pick [1, 2] (by simp) rfl, ?_⟩
      refine tw_g rfl ?_
      refine sx_appendE ([_, _, _] ++ roE (some ⟨g, o, none⟩) (tcells L)) elemItem rfl hv1 (tcells_len _) rfl (fun w hw => rd_own (i := 0) (xs := tcell (k, v)) rfl rfl hw) rfl (by show _ ≤ 9223372036854775807; omega) (by omega) (HLe.refl _) rfl (fun v2 hv2 => ?_)
      obtain ⟨g3', c3, rfl⟩ := hv2.some (by omega)
      refine sx_nil ⟨HLe.pick [1, 2] (by simp) rfl, ?_⟩
      refine tw_p rfl ?_
      refine sv_assign rfl rfl ?_
      refine sv_nil ?_
      refine tw_p rfl ?_
      refine sv_assign rfl rfl ?_
      refine sv_nil ?_
      refine tw_p rfl ?_
      refine sv_assign rfl rfl ?_
      refine sv_nil ?_
      refine tw_nil ?_
      exact ⟨(g3', c3), trivial, Kn.cons rfl (Kn.cons rfl (Kn.cons rfl Kn.nil)), (HLe.pick [3] (by simp) rfl).trans (HLe.mid [_, _, _] (roE (some ⟨g, o, none⟩) (tcells L)) [_])⟩
    · refine tw_p rfl ?_
      refine sv_move rfl rfl ?_
      refine sv_nil ?_
      refine tw_p rfl ?_
      refine sv_loadA 1 rfl rfl tyA37 tyS37 (by first | (simp only [List.length_cons, List.length_nil, Nat.reduceAdd, Nat.zero_add, Nat.add_zero]; first | done | rfl) | rfl) (by first | (simp only [List.take_succ_cons, List.take_zero, List.drop_succ_cons, List.drop_zero, List.cons_append, List.nil_append, List.append_nil, List.length_cons, List.length_nil, Nat.reduceAdd, Nat.zero_add, Nat.add_zero, Value.cells, wrV]; first | done | rfl) | rfl) rfl ?_
      refine sv_nil ?_
      refine tw_p rfl ?_
      refine sv_loadA 0 rfl rfl tyA102 tyS102 (by first | (simp only [List.length_cons, List.length_nil, Nat.reduceAdd, Nat.zero_add, Nat.add_zero]; first | done | rfl) | rfl) (by first | (simp only [List.take_succ_cons, List.take_zero, List.drop_succ_cons, List.drop_zero, List.cons_append, List.nil_append, List.append_nil, List.length_cons, List.length_nil, Nat.reduceAdd, Nat.zero_add, Nat.add_zero, Value.cells, wrV]; first | done | rfl) | rfl) rfl ?_
      refine sv_nil ?_
      refine tw_p rfl ?_
      refine sv_fieldAddr rfl tyF102_1 (by first | (simp only [Nat.reduceAdd, Nat.add_zero, Nat.zero_add]; first | done | rfl) | rfl) rfl ?_
      refine sv_nil ?_
      refine tw_p rfl ?_
      refine sv_load 0 rfl rfl tyA9 tyS9 rfl rfl ?_
      refine sv_nil ?_
      refine tw_g rfl ?_
      refine sx_buildSlice Try.underlying30 tyS102 tyZ102 rfl rfl rfl rfl (by first | (simp only [List.take_succ_cons, List.take_zero, List.drop_succ_cons, List.drop_zero, List.cons_append, List.nil_append, List.append_nil, List.length_cons, List.length_nil, Nat.reduceAdd, Nat.zero_add, Nat.add_zero, Value.cells, wrV, zrep_one, List.replicate_succ, List.replicate_zero, Nat.reduceMul, Nat.zero_mul]; first | done | rfl) | rfl) rfl (fun g3 => ?_)
      refine sx_nil ⟨HLe.pick [1, 2] (by simp) rfl, ?_⟩
      refine tw_g rfl ?_
      refine sx_callRE (roE (some ⟨g, o, none⟩) (tcells L)) (rdrop_fn (some ⟨g, o, none⟩) c L k hA hL) rfl (by first | exact List.sublist_append_right [_, _] _ | exact List.sublist_append_right [_, _, _] _) (Ro.roE _ _) rfl (fun v1 hv1 => ?_)
      refine sx_nil ⟨HLe.pick [1, 2] (by simp) rfl, ?_⟩
      refine tw_g rfl ?_
      refine sx_appendE ([_, _, _] ++ roE (some ⟨g, o, none⟩) (tcells L)) elemItem rfl hv1 (tcells_len _) rfl (fun w hw => rd_own (i := 0) (xs := tcell (k, v)) rfl rfl hw) rfl (by show _ ≤ 9223372036854775807; omega) (by omega) (HLe.refl _) rfl (fun v2 hv2 => ?_)
      obtain ⟨g3', c3, rfl⟩ := hv2.some (by omega)
      refine sx_nil ⟨HLe.pick [1, 2] (by simp) rfl, ?_⟩
      refine tw_p rfl ?_
      refine sv_assign rfl rfl ?_
      refine sv_nil ?_
      refine tw_p rfl ?_
      refine sv_assign rfl rfl ?_
      refine sv_nil ?_
      refine tw_p rfl ?_
      refine sv_assign rfl rfl ?_
      refine sv_nil ?_
      refine tw_nil ?_
      exact ⟨(g3', c3), trivial, Kn.cons rfl (Kn.cons rfl (Kn.cons rfl Kn.nil)), (HLe.pick [3] (by simp) rfl).trans (HLe.mid [_, _, _] (roE (some ⟨g, o, none⟩) (tcells L)) [_])⟩
    rintro ⟨g3, c3⟩ -
    refine awp_ret ?_
    refine nx_ret3h [.ob g3 (ReadP 0 (tcells (rDrop L k ++ [(k, v)])))] rfl rfl rfl rfl ?_ ⟨some ⟨g3, 0, none⟩, c3, by simp, .inr ⟨g3, 0, rfl, rfl⟩⟩
    rw [show tcells (rDrop L k ++ [(k, v)]) = tcells (rDrop L k) ++ tcell (k, v) from fm_snoc _ _]
    exact row_read []
end Go.Proofs.Ytjelakmndcecoaa

namespace Go.Proofs.Ytjelakmndcecoaa
open Go.RowKit
set_option linter.unusedVariables false
set_option linter.unusedSimpArgs false
theorem Rep.item {s : CS} {L : List Item} (h : Rep s L) {i : Nat} {x : Item} (hx : L[i]? = some x) : valK L x.1 = x.2 ∧ hasK L x.1 = true := by
  have hk : hasK L x.1 = true := hasK_iff.2 ⟨i, x.2, hx⟩
  exact ⟨(h.val hk).1.symm.trans (h.nd_v hx), hk⟩
end Go.Proofs.Ytjelakmndcecoaa

namespace Go.Proofs.Ytjelakmndcecoaa
open Go.RowKit
set_option linter.unusedVariables false
set_option linter.unusedSimpArgs false
end Go.Proofs.Ytjelakmndcecoaa
