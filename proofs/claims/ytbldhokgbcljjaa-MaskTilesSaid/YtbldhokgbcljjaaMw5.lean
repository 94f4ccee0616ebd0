/- The walks of mask's each, Up, Down. Conditions: the lists are not too long. -/
import Derived.Test.YtbldhokgbcljjaaMw4
namespace Go.Proofs.Ytbldhokgbcljjaa
open Go.RowKit Go.Sort
set_option linter.unusedVariables false
set_option linter.unusedSimpArgs false
set_option maxRecDepth 100000
def mkV : Option Sp → Value
  | none => .tuple #[(⟨0, 0⟩ : Sp).val, .bool false]
  | some t => .tuple #[t.val, .bool true]
/-- A function that makes an interval of one within a zoom, or none. -/
structure Maker (F : FuncId) (mk : Nat → Sp → Option Sp) : Prop where
  fn : ∀ (z : Nat) (s : Sp), z ≤ 26 → s.a < 4 ^ z → s.b < 4 ^ z → Fn Try.prog F [iq (z : Nat), s.val] [] fun v _ => v = mkV (mk z s)
  ok : ∀ (z : Nat) (s t : Sp), z ≤ 26 → s.a < 4 ^ z → s.b < 4 ^ z → mk z s = some t → t.a < 18446744073709551616 ∧ t.b < 18446744073709551616
theorem rel_lt {a : List Sp} {z : Nat} (hz : z ≤ 26) {s : Sp} (hs : s ∈ zoS a z) : (relS z s).a < 4 ^ z ∧ (relS z s).b < 4 ^ z := by
  obtain ⟨h1, h2, h3⟩ := zo_mem hz hs
  have e : base4 (z + 1) = base4 z + 4 ^ z := rfl
  exact ⟨by show s.a - base4 z < _; omega, by show s.b - base4 z < _; omega⟩
theorem each_sps {F : FuncId} {mk : Nat → Sp → Option Sp} (hF : Maker F mk) (a : List Sp) (n : Nat) (hn : n ≤ 27) : SpsOk (eachQ a mk n) := fun t ht => by
  unfold eachQ at ht
  obtain ⟨z, hz, ht⟩ := List.mem_flatMap.1 ht
  obtain ⟨s, hs, hm⟩ := List.mem_filterMap.1 ht
  have hz := List.mem_range.1 hz
  obtain ⟨h1, h2⟩ := rel_lt (by omega) hs
  exact hF.ok z _ t (by omega) h1 h2 hm
theorem fmap_take {f : Sp → Option Sp} {S : List Sp} {k : Nat} {x : Sp} (h : S[k]? = some x) : (S.take (k + 1)).filterMap f = (S.take k).filterMap f ++ (f x).toList := by
  obtain ⟨hlt, rfl⟩ := List.getElem?_eq_some_iff.1 h
  rw [List.take_succ_eq_append_getElem hlt, List.filterMap_append]
  congr 1
theorem meach_fn {F : FuncId} {mk : Nat → Sp → Option Sp} (hF : Maker F mk) (A : Option Addr) (c : Nat) (L : List Sp) (T : Heap) (hA : ArgOk A L.length) (hT : 0 < L.length → T = roE A (scells L)) (hro : Ro T) (hL : L.length ≤ 2100) (ho : SpsOk L) :
    Fn Try.prog 63 [.slice A L.length c, .func (.func F) #[] #[]] T fun v H' => RowOk v (eachQ L mk 27).length ∧ H' = rowE v 43 2 (scells (eachQ L mk 27)) := by
  refine Fn.enter (N := 49) Try.func63 rfl (by kernel_rfl) rfl (fun w0 => ?_)

  refine awp_seq_region (fun Z hZ => ?_)
  refine sx_assign rfl rfl ?_
  refine sx_nil (hZ _ _ ?_)
  refine awp_forget [(0, _), (1, _)] (Kn.cons rfl (Kn.cons rfl (Kn.nil))) ?_
  refine awp_seq_region (fun Z hZ => ?_)
  refine sx_assign rfl rfl ?_
  refine sx_nil (hZ _ _ ?_)
  refine awp_forget [(0, _), (1, _), (5, _)] (Kn.cons rfl (Kn.cons rfl (Kn.cons rfl (Kn.nil)))) ?_
  refine awp_seq ?_
  refine awp_seq_region (fun Z hZ => ?_)
  refine sx_move rfl rfl ?_
  refine sx_nil (hZ _ _ ?_)
  refine awp_forget [(0, _), (1, _), (5, _), (12, _)] (Kn.cons rfl (Kn.cons rfl (Kn.cons rfl (Kn.cons rfl (Kn.nil))))) ?_
  refine awp_block ?_
  refine awp_loop (ι := Nat × Value) (fun i => [(0, .slice A L.length c), (1, .func (.func F) #[] #[]), (5, i.2), (12, iq (i.1 : Nat))]) (fun i => T ++ rowE i.2 43 2 (scells (eachQ L mk i.1)))
    (fun i => i.1 ≤ 27 ∧ RowOk i.2 (eachQ L mk i.1).length) (fun i => 27 - i.1) (0, .slice none 0 0) ⟨by simp, RowOk.nil⟩ (Kn.cons rfl (Kn.cons rfl (Kn.cons rfl (Kn.cons rfl Kn.nil)))) (by simp [rowE, eachQ]; exact HLe.refl _) ?_
  rintro ⟨z, v⟩ ⟨hz, hv⟩
  simp only at hz hv
  refine awp_seq_region (fun Z hZ => ?_)
  refine sx_lss rfl rfl rfl ?_
  refine sx_nil (hZ _ _ ?_)
  refine awp_forget [(0, _), (1, _), (5, _), (12, _), (13, _)] (Kn.cons rfl (Kn.cons rfl (Kn.cons rfl (Kn.cons rfl (Kn.cons rfl (Kn.nil)))))) ?_
  refine awp_seq (awp_cond rfl (fun h => ?_) (fun h => ?_))
  · have hz' : z < 27 := by simp at h; omega
    have hz26 : z ≤ 26 := by omega
    have hsc := each_succ L mk z
    have hel := each_len L mk z
    have hem : z * (L.length + 4) ≤ 27 * 2104 := Nat.mul_le_mul (by omega) (by omega)
    have hZ : ZoomQ L (z : Int) = zoS L z := by unfold ZoomQ; rw [if_neg (by omega), Int.toNat_natCast]
    have hZf := mZoom_fn A c L T hA hT hro (by omega) ho (z : Int)
    rw [hZ] at hZf
    obtain ⟨S, hS⟩ : ∃ S, zoS L z = S := ⟨_, rfl⟩
    have hmem : ∀ s ∈ S, s.a ≤ s.b ∧ base4 z ≤ s.a ∧ s.b < base4 (z + 1) := fun s hs => by rw [← hS] at hs; exact zo_mem hz26 hs
    have hSl : S.length ≤ L.length + 4 := by rw [← hS]; exact and_len L [⟨base4 z, base4 (z + 1) - 1⟩]
    have hb1 : base4 (z + 1) ≤ base4 27 := base4_mono (by omega)
    rw [base4_27] at hb1
    have hb2 : base4 (z + 1) = base4 z + 4 ^ z := rfl
    rw [hS] at hsc hZf
    obtain ⟨X, hX⟩ : ∃ X, eachQ L mk z = X := ⟨_, rfl⟩
    rw [hX] at hsc hel hv ⊢
    refine awp_skip ?_
    with_reducible refine nx_normal ?_
    refine awp_seq (awp_block ?_)
    refine awp_seq_region (fun Z hZ => ?_)
    refine sx_move rfl rfl ?_
    refine sx_assign rfl rfl ?_
    refine sx_nil (hZ _ _ ?_)
    refine awp_forget [(0, _), (1, _), (5, _), (6, _), (12, _)] (Kn.cons rfl (Kn.cons rfl (Kn.cons rfl (Kn.cons rfl (Kn.cons rfl (Kn.nil)))))) ?_
    refine awp_seq_region (fun Z hZ => ?_)
    refine sx_move rfl rfl ?_
    refine sx_callP (mzoom_fn z hz26) rfl rfl ?_
    refine sx_field rfl tyF43_0 rfl rfl ?_
    refine sx_assign rfl rfl ?_
    refine sx_nil (hZ _ _ ?_)
    refine awp_forget [(0, _), (1, _), (5, _), (6, _), (7, _), (12, _)] (Kn.cons rfl (Kn.cons rfl (Kn.cons rfl (Kn.cons rfl (Kn.cons rfl (Kn.cons rfl (Kn.nil))))))) ?_
    refine awp_seq_region (fun Z hZ => ?_)
    refine sx_move rfl rfl ?_
    refine sx_move rfl rfl ?_
    refine sx_heap ((rowE v 43 2 (scells X)) ++ T) (HLe.swap _ _) ?_
    refine sx_callIE T hZf rfl (HLe.sub (List.sublist_append_right _ _)) hro rfl (fun A1 c1 hA1 => ?_)
    refine sx_len Try.underlying24 rfl rfl ?_
    refine sx_move rfl rfl ?_
    refine sx_nil (hZ _ _ ?_)
    refine awp_forget [(0, _), (1, _), (5, _), (6, _), (7, _), (12, _), (20, _), (21, _), (22, _)] (Kn.cons rfl (Kn.cons rfl (Kn.cons rfl (Kn.cons rfl (Kn.cons rfl (Kn.cons rfl (Kn.cons rfl (Kn.cons rfl (Kn.cons rfl (Kn.nil)))))))))) ?_
    refine awp_block ?_
    refine awp_loop (ι := Nat × Value) (fun i => [(0, .slice A L.length c), (1, .func (.func F) #[] #[]), (5, i.2), (6, iq (z : Nat)), (7, uq (base4 z)), (12, iq (z : Nat)), (20, .slice A1 S.length c1), (21, iq (S.length : Nat)), (22, iq (i.1 : Nat))]) (fun i => (T ++ roE A1 (scells S)) ++ rowE i.2 43 2 (scells (X ++ (S.take i.1).filterMap fun s => mk z (relS z s))))
      (fun i => i.1 ≤ S.length ∧ RowOk i.2 (X ++ (S.take i.1).filterMap fun s => mk z (relS z s)).length) (fun i => S.length - i.1) (0, v) ⟨by simp, by simpa using hv⟩ (Kn.cons rfl (Kn.cons rfl (Kn.cons rfl (Kn.cons rfl (Kn.cons rfl (Kn.cons rfl (Kn.cons rfl (Kn.cons rfl (Kn.cons rfl Kn.nil))))))))) (by simp only [List.take_zero, List.filterMap_nil, List.append_nil]; exact HLe.permS (by rw [List.append_assoc]; exact List.perm_append_comm)) ?_
    rintro ⟨k, v⟩ ⟨hk, hv⟩
    simp only at hk hv

    refine awp_seq_region (fun Z hZ => ?_)
    refine sx_lss rfl rfl rfl ?_
    refine sx_nil (hZ _ _ ?_)
    refine awp_forget [(0, _), (1, _), (5, _), (6, _), (7, _), (12, _), (20, _), (21, _), (22, _), (23, _)] (Kn.cons rfl (Kn.cons rfl (Kn.cons rfl (Kn.cons rfl (Kn.cons rfl (Kn.cons rfl (Kn.cons rfl (Kn.cons rfl (Kn.cons rfl (Kn.cons rfl (Kn.nil))))))))))) ?_
    refine awp_seq (awp_cond rfl (fun h2 => ?_) (fun h2 => ?_))
    · have hlt : k < S.length := by simpa using h2
      obtain ⟨x, hx⟩ : ∃ x, S[k]? = some x := ⟨_, List.getElem?_eq_getElem hlt⟩
      obtain ⟨x1, x2, x3⟩ := hmem x (List.mem_of_getElem? hx)
      have hft := fmap_take (f := fun s => mk z (relS z s)) hx
      have hfl := List.length_filterMap_le (fun s => mk z (relS z s)) (S.take k)
      rw [List.length_take] at hfl
      have hmk := hF.fn z (relS z x) hz26 (by show x.a - base4 z < _; omega) (by show x.b - base4 z < _; omega)
      obtain ⟨Y, hY⟩ : ∃ Y, (S.take k).filterMap (fun s => mk z (relS z s)) = Y := ⟨_, rfl⟩
      rw [hY] at hft hfl hv ⊢
      rw [List.length_append] at hv
      obtain ⟨g, o, rfl⟩ := slIn_pos2 hA1 (by omega)
      refine awp_heap (.ro g o (scells S) :: (T ++ rowE v 43 2 (scells (X ++ Y)))) (HLe.permS (by show ((T ++ [Ent.ro g o (scells S)]) ++ _).Perm _; rw [List.append_assoc]; exact List.perm_middle)) ?_
      refine awp_skip ?_
      with_reducible refine nx_normal ?_
      refine awp_seq (awp_block ?_)

      refine awp_seq_region (fun Z hZ => ?_)
      refine sx_indexAddr (o + k * 2) Try.underlying24 tyS43 rfl rfl (by omega) (by simp) rfl ?_
      refine sx_loadRo 0 rfl rfl (k * 2) rfl tyA43 tyS43 (scells_all hx) rfl ?_
      refine sx_alloc tyZ43 rfl (fun g1 => ?_)
      refine sx_store 0 rfl rfl rfl tyS43 (by first | (simp only [Value.cells]; first | done | rfl) | rfl) rfl rfl (by first | (simp only [List.length_cons, List.length_nil, Nat.reduceAdd, Nat.zero_add, Nat.add_zero]; first | done | rfl) | rfl) (by first | (simp only [List.take_succ_cons, List.take_zero, List.drop_succ_cons, List.drop_zero, List.cons_append, List.nil_append, List.append_nil, List.length_cons, List.length_nil, Nat.reduceAdd, Nat.zero_add, Nat.add_zero, Value.cells, wrV]; first | done | rfl) | rfl) (by first | (simp only [List.set_cons_succ, List.set_cons_zero]; first | done | rfl) | rfl) ?_
      refine sx_nil (hZ _ _ ?_)
      refine awp_forget [(0, _), (1, _), (5, _), (6, _), (7, _), (9, _), (12, _), (20, _), (21, _), (22, _)] (Kn.cons rfl (Kn.cons rfl (Kn.cons rfl (Kn.cons rfl (Kn.cons rfl (Kn.cons rfl (Kn.cons rfl (Kn.cons rfl (Kn.cons rfl (Kn.cons rfl (Kn.nil))))))))))) ?_

      cases hm : mk z (relS z x) with
      | none =>
        rw [hm] at hmk hft
        simp only [Option.toList_none, List.append_nil] at hft
        refine awp_seq_region (fun Z hZ => ?_)
        refine sx_move rfl rfl ?_
        refine sx_move rfl rfl ?_
        refine sx_fieldAddr rfl tyF43_0 (by first | (simp only [Nat.reduceAdd, Nat.add_zero, Nat.zero_add]; first | done | rfl) | rfl) rfl ?_
        refine sx_load 0 rfl rfl tyA36 tyS36 rfl rfl ?_
        refine sx_move rfl rfl ?_
        refine sx_sub rfl rfl ((x.a - base4 z : Nat) : Int) (by rw [IntWalk.u64_in _ (by omega)]; omega) rfl ?_
        refine sx_fieldAddr rfl tyF43_1 (by first | (simp only [Nat.reduceAdd, Nat.add_zero, Nat.zero_add]; first | done | rfl) | rfl) rfl ?_
        refine sx_load 0 rfl rfl tyA36 tyS36 rfl rfl ?_
        refine sx_move rfl rfl ?_
        refine sx_sub rfl rfl ((x.b - base4 z : Nat) : Int) (by rw [IntWalk.u64_in _ (by omega)]; omega) rfl ?_
        refine sx_build tyZ43 tyP43 rfl rfl (by first | (simp only [List.take_succ_cons, List.take_zero, List.drop_succ_cons, List.drop_zero, List.cons_append, List.nil_append, List.append_nil, List.length_cons, List.length_nil, Nat.reduceAdd, Nat.zero_add, Nat.add_zero, Value.cells, wrV, zrep_one, List.replicate_succ, List.replicate_zero, Nat.reduceMul, Nat.zero_mul]; first | done | rfl) | rfl) rfl ?_
        refine sx_callFP hmk rfl rfl rfl ?_
        refine sx_move rfl rfl ?_
        refine sx_extract rfl rfl rfl ?_
        refine sx_extract rfl rfl rfl ?_
        refine sx_alloc tyZ43 rfl (fun g2 => ?_)
        refine sx_store 0 rfl rfl rfl tyS43 (by first | (simp only [Value.cells]; first | done | rfl) | rfl) rfl rfl (by first | (simp only [List.length_cons, List.length_nil, Nat.reduceAdd, Nat.zero_add, Nat.add_zero]; first | done | rfl) | rfl) (by first | (simp only [List.take_succ_cons, List.take_zero, List.drop_succ_cons, List.drop_zero, List.cons_append, List.nil_append, List.append_nil, List.length_cons, List.length_nil, Nat.reduceAdd, Nat.zero_add, Nat.add_zero, Value.cells, wrV]; first | done | rfl) | rfl) (by first | (simp only [List.set_cons_succ, List.set_cons_zero]; first | done | rfl) | rfl) ?_
        refine sx_assign rfl rfl ?_
        refine sx_nil (hZ _ _ ?_)
        refine awp_forget [(0, _), (1, _), (5, _), (6, _), (7, _), (10, _), (11, _), (12, _), (20, _), (21, _), (22, _)] (Kn.cons rfl (Kn.cons rfl (Kn.cons rfl (Kn.cons rfl (Kn.cons rfl (Kn.cons rfl (Kn.cons rfl (Kn.cons rfl (Kn.cons rfl (Kn.cons rfl (Kn.cons rfl (Kn.nil)))))))))))) ?_
        refine awp_seq_region (fun Z hZ => ?_)
        refine sx_move rfl rfl ?_
        refine sx_nil (hZ _ _ ?_)
        refine awp_forget [(0, _), (1, _), (5, _), (6, _), (7, _), (10, _), (12, _), (20, _), (21, _), (22, _), (41, _)] (Kn.cons rfl (Kn.cons rfl (Kn.cons rfl (Kn.cons rfl (Kn.cons rfl (Kn.cons rfl (Kn.cons rfl (Kn.cons rfl (Kn.cons rfl (Kn.cons rfl (Kn.cons rfl (Kn.nil)))))))))))) ?_
        refine awp_cond rfl (fun h10 => ?_) (fun h10 => ?_)
        · cases h10
        refine awp_skip ?_
        repeat (with_reducible refine nx_block_normal ?_)
        with_reducible refine nx_normal ?_
        refine awp_region (fun Z hZ => ?_)
        refine sx_add rfl rfl ((k + 1 : Nat) : Int) (by rw [IntWalk.i64_in _ (by omega)]; omega) rfl ?_
        refine sx_move rfl rfl ?_
        refine sx_nil (hZ _ _ ?_)
        refine nx_forget [(0, _), (1, _), (5, _), (6, _), (7, _), (12, _), (20, _), (21, _), (22, _)] (Kn.cons rfl (Kn.cons rfl (Kn.cons rfl (Kn.cons rfl (Kn.cons rfl (Kn.cons rfl (Kn.cons rfl (Kn.cons rfl (Kn.cons rfl (Kn.nil)))))))))) ?_
        refine nx_round (k + 1, v) ⟨hlt, by rw [hft, List.length_append]; exact hv⟩ (by simp; omega) (Kn.cons rfl (Kn.cons rfl (Kn.cons rfl (Kn.cons rfl (Kn.cons rfl (Kn.cons rfl (Kn.cons rfl (Kn.cons rfl (Kn.cons rfl Kn.nil))))))))) ?_
        simp only
        rw [hft]
        exact (HLe.permS (A := (T ++ [Ent.ro g o (scells S)]) ++ rowE v 43 2 (scells (X ++ Y))) (by rw [List.append_assoc]; exact List.perm_middle.symm)).trans (HLe.drop 2 rfl)
      | some t =>
        rw [hm] at hmk hft
        simp only [Option.toList_some] at hft
        refine awp_seq_region (fun Z hZ => ?_)
        refine sx_move rfl rfl ?_
        refine sx_move rfl rfl ?_
        refine sx_fieldAddr rfl tyF43_0 (by first | (simp only [Nat.reduceAdd, Nat.add_zero, Nat.zero_add]; first | done | rfl) | rfl) rfl ?_
        refine sx_load 0 rfl rfl tyA36 tyS36 rfl rfl ?_
        refine sx_move rfl rfl ?_
        refine sx_sub rfl rfl ((x.a - base4 z : Nat) : Int) (by rw [IntWalk.u64_in _ (by omega)]; omega) rfl ?_
        refine sx_fieldAddr rfl tyF43_1 (by first | (simp only [Nat.reduceAdd, Nat.add_zero, Nat.zero_add]; first | done | rfl) | rfl) rfl ?_
        refine sx_load 0 rfl rfl tyA36 tyS36 rfl rfl ?_
        refine sx_move rfl rfl ?_
        refine sx_sub rfl rfl ((x.b - base4 z : Nat) : Int) (by rw [IntWalk.u64_in _ (by omega)]; omega) rfl ?_
        refine sx_build tyZ43 tyP43 rfl rfl (by first | (simp only [List.take_succ_cons, List.take_zero, List.drop_succ_cons, List.drop_zero, List.cons_append, List.nil_append, List.append_nil, List.length_cons, List.length_nil, Nat.reduceAdd, Nat.zero_add, Nat.add_zero, Value.cells, wrV, zrep_one, List.replicate_succ, List.replicate_zero, Nat.reduceMul, Nat.zero_mul]; first | done | rfl) | rfl) rfl ?_
        refine sx_callFP hmk rfl rfl rfl ?_
        refine sx_move rfl rfl ?_
        refine sx_extract rfl rfl rfl ?_
        refine sx_extract rfl rfl rfl ?_
        refine sx_alloc tyZ43 rfl (fun g3 => ?_)
        refine sx_store 0 rfl rfl rfl tyS43 (by first | (simp only [Value.cells]; first | done | rfl) | rfl) rfl rfl (by first | (simp only [List.length_cons, List.length_nil, Nat.reduceAdd, Nat.zero_add, Nat.add_zero]; first | done | rfl) | rfl) (by first | (simp only [List.take_succ_cons, List.take_zero, List.drop_succ_cons, List.drop_zero, List.cons_append, List.nil_append, List.append_nil, List.length_cons, List.length_nil, Nat.reduceAdd, Nat.zero_add, Nat.add_zero, Value.cells, wrV]; first | done | rfl) | rfl) (by first | (simp only [List.set_cons_succ, List.set_cons_zero]; first | done | rfl) | rfl) ?_
        refine sx_assign rfl rfl ?_
        refine sx_nil (hZ _ _ ?_)
        refine awp_forget [(0, _), (1, _), (5, _), (6, _), (7, _), (10, _), (11, _), (12, _), (20, _), (21, _), (22, _)] (Kn.cons rfl (Kn.cons rfl (Kn.cons rfl (Kn.cons rfl (Kn.cons rfl (Kn.cons rfl (Kn.cons rfl (Kn.cons rfl (Kn.cons rfl (Kn.cons rfl (Kn.cons rfl (Kn.nil)))))))))))) ?_
        refine awp_seq_region (fun Z hZ => ?_)
        refine sx_move rfl rfl ?_
        refine sx_nil (hZ _ _ ?_)
        refine awp_forget [(0, _), (1, _), (5, _), (6, _), (7, _), (10, _), (12, _), (20, _), (21, _), (22, _), (41, _)] (Kn.cons rfl (Kn.cons rfl (Kn.cons rfl (Kn.cons rfl (Kn.cons rfl (Kn.cons rfl (Kn.cons rfl (Kn.cons rfl (Kn.cons rfl (Kn.cons rfl (Kn.cons rfl (Kn.nil)))))))))))) ?_
        refine awp_cond rfl (fun h10 => ?_) (fun h10 => ?_)
        · refine awp_region (fun Z hZ => ?_)
          refine sx_move rfl rfl ?_
          refine sx_loadA 0 rfl rfl tyA43 tyS43 (by first | (simp only [List.length_cons, List.length_nil, Nat.reduceAdd, Nat.zero_add, Nat.add_zero]; first | done | rfl) | rfl) (by first | (simp only [List.take_succ_cons, List.take_zero, List.drop_succ_cons, List.drop_zero, List.cons_append, List.nil_append, List.append_nil, List.length_cons, List.length_nil, Nat.reduceAdd, Nat.zero_add, Nat.add_zero, Value.cells, wrV]; first | done | rfl) | rfl) rfl ?_
          refine sx_buildSlice Try.underlying24 tyS43 tyZ43 rfl rfl rfl rfl (by first | (simp only [List.take_succ_cons, List.take_zero, List.drop_succ_cons, List.drop_zero, List.cons_append, List.nil_append, List.append_nil, List.length_cons, List.length_nil, Nat.reduceAdd, Nat.zero_add, Nat.add_zero, Value.cells, wrV, zrep_one, List.replicate_succ, List.replicate_zero, Nat.reduceMul, Nat.zero_mul]; first | done | rfl) | rfl) rfl (fun g4 => ?_)
          refine sx_appendE (xs := scells (X ++ Y)) (_ :: _ :: _ :: _ :: T) elemSp rfl hv (by rw [scells_len, List.length_append]) rfl (fun w hw => rd_own (i := 0) (xs := t.cells) rfl rfl hw) rfl (by show _ ≤ 9223372036854775807; omega) (by omega) (HLe.refl _) rfl (fun v2 hv2 => ?_)
          refine sx_assign rfl rfl ?_
          refine sx_nil (hZ _ _ ?_)
          refine nx_forget [(0, _), (1, _), (5, _), (6, _), (7, _), (12, _), (20, _), (21, _), (22, _)] (Kn.cons rfl (Kn.cons rfl (Kn.cons rfl (Kn.cons rfl (Kn.cons rfl (Kn.cons rfl (Kn.cons rfl (Kn.cons rfl (Kn.cons rfl (Kn.nil)))))))))) ?_
          repeat (with_reducible refine nx_block_normal ?_)
          with_reducible refine nx_normal ?_
          refine awp_region (fun Z hZ => ?_)
          refine sx_add rfl rfl ((k + 1 : Nat) : Int) (by rw [IntWalk.i64_in _ (by omega)]; omega) rfl ?_
          refine sx_move rfl rfl ?_
          refine sx_nil (hZ _ _ ?_)
          refine nx_forget [(0, _), (1, _), (5, _), (6, _), (7, _), (12, _), (20, _), (21, _), (22, _)] (Kn.cons rfl (Kn.cons rfl (Kn.cons rfl (Kn.cons rfl (Kn.cons rfl (Kn.cons rfl (Kn.cons rfl (Kn.cons rfl (Kn.cons rfl (Kn.nil)))))))))) ?_
          refine nx_round (k + 1, v2) ⟨hlt, by rw [hft, List.length_append, List.length_append, ← Nat.add_assoc]; exact hv2⟩ (by simp; omega) (Kn.cons rfl (Kn.cons rfl (Kn.cons rfl (Kn.cons rfl (Kn.cons rfl (Kn.cons rfl (Kn.cons rfl (Kn.cons rfl (Kn.cons rfl Kn.nil))))))))) ?_
          simp only
          rw [hft, ← List.append_assoc, scells_app (X ++ Y) [t]]
          exact (HLe.permS (A := (T ++ [Ent.ro g o (scells S)]) ++ rowE v2 43 2 (scells (X ++ Y) ++ scells [t])) (by rw [List.append_assoc]; exact List.perm_middle.symm)).trans (HLe.drop 3 rfl)
        · cases h10
    · refine awp_exit ?_
      repeat (with_reducible refine nx_then_exit ?_)
      with_reducible refine nx_block_exit ?_
      repeat (with_reducible refine nx_block_normal ?_)
      have hke : k = S.length := by simp at h2; omega
      subst hke
      rw [List.take_length, ← hsc] at hv ⊢
      with_reducible refine nx_normal ?_
      refine awp_region (fun Z hZ => ?_)
      refine sx_add rfl rfl ((z + 1 : Nat) : Int) (by rw [IntWalk.i64_in _ (by omega)]; omega) rfl ?_
      refine sx_move rfl rfl ?_
      refine sx_nil (hZ _ _ ?_)
      refine nx_forget [(0, _), (1, _), (5, _), (12, _)] (Kn.cons rfl (Kn.cons rfl (Kn.cons rfl (Kn.cons rfl (Kn.nil))))) ?_
      exact nx_round (z + 1, v) ⟨hz', hv⟩ (by simp; omega) (Kn.cons rfl (Kn.cons rfl (Kn.cons rfl (Kn.cons rfl Kn.nil)))) (HLe.sub (List.Sublist.append_right (List.sublist_append_left _ _) _))
  · refine awp_exit ?_
    repeat (with_reducible refine nx_then_exit ?_)
    with_reducible refine nx_block_exit ?_
    with_reducible refine nx_normal ?_
    have hke : z = 27 := by simp at h; omega
    subst hke
    refine awp_seq_region (fun Z hZ => ?_)
    refine sx_move rfl rfl ?_
    refine sx_assign rfl rfl ?_
    refine sx_nil (hZ _ _ ?_)
    refine awp_forget [(4, _)] (Kn.cons rfl (Kn.nil)) ?_
    refine awp_ret ?_
    exact nx_ret1h _ rfl rfl (HLe.sub (List.sublist_append_right _ _)) ⟨hv, rfl⟩
theorem mat_fn (z a b : Nat) (hz : z ≤ 26) (ha : a < 4 ^ z) (hb : b < 4 ^ z) : Fn Try.prog 65 [iq (z : Nat), uq a, uq b] [] fun v _ => v = (⟨base4 z + a, base4 z + b⟩ : Sp).val := by
  have h1 := base4_lt hz ha
  have h2 := base4_lt hz hb
  refine Fn.enter (N := 18) Try.func65 rfl (by kernel_rfl) rfl (fun w0 => ?_)

  refine awp_seq_region (fun Z hZ => ?_)
  refine sx_alloc tyZ43 rfl (fun g1 => ?_)
  refine sx_nil (hZ _ _ ?_)
  refine awp_forget [(0, _), (1, _), (2, _), (6, _)] (Kn.cons rfl (Kn.cons rfl (Kn.cons rfl (Kn.cons rfl (Kn.nil))))) ?_

  refine awp_seq_region (fun Z hZ => ?_)
  refine sx_move rfl rfl ?_
  refine sx_callP (mzoom_fn z hz) rfl rfl ?_
  refine sx_field rfl tyF43_0 rfl rfl ?_
  refine sx_assign rfl rfl ?_
  refine sx_nil (hZ _ _ ?_)
  refine awp_forget [(1, _), (2, _), (6, _), (7, _)] (Kn.cons rfl (Kn.cons rfl (Kn.cons rfl (Kn.cons rfl (Kn.nil))))) ?_
  refine awp_seq_region (fun Z hZ => ?_)
  refine sx_move rfl rfl ?_
  refine sx_move rfl rfl ?_
  refine sx_add rfl rfl ((base4 z + a : Nat) : Int) (by rw [IntWalk.u64_in _ (by show 0 ≤ ((base4 z : Nat) : Int) + (a : Int) ∧ ((base4 z : Nat) : Int) + (a : Int) ≤ 18446744073709551615; omega)]; rfl) rfl ?_
  refine sx_move rfl rfl ?_
  refine sx_move rfl rfl ?_
  refine sx_add rfl rfl ((base4 z + b : Nat) : Int) (by rw [IntWalk.u64_in _ (by show 0 ≤ ((base4 z : Nat) : Int) + (b : Int) ∧ ((base4 z : Nat) : Int) + (b : Int) ≤ 18446744073709551615; omega)]; rfl) rfl ?_
  refine sx_build tyZ43 tyP43 rfl rfl (by first | (simp only [List.take_succ_cons, List.take_zero, List.drop_succ_cons, List.drop_zero, List.cons_append, List.nil_append, List.append_nil, List.length_cons, List.length_nil, Nat.reduceAdd, Nat.zero_add, Nat.add_zero, Value.cells, wrV, zrep_one, List.replicate_succ, List.replicate_zero, Nat.reduceMul, Nat.zero_mul]; first | done | rfl) | rfl) rfl ?_
  first | refine sx_store 0 rfl rfl rfl tyS43 (by first | (simp only [Value.cells]; first | done | rfl) | rfl) rfl rfl (by first | (simp only [List.length_cons, List.length_nil, Nat.reduceAdd, Nat.zero_add, Nat.add_zero]; first | done | rfl) | rfl) (by first | (simp only [List.take_succ_cons, List.take_zero, List.drop_succ_cons, List.drop_zero, List.cons_append, List.nil_append, List.append_nil, List.length_cons, List.length_nil, Nat.reduceAdd, Nat.zero_add, Nat.add_zero, Value.cells, wrV]; first | done | rfl) | rfl) (by first | (simp only [List.set_cons_succ, List.set_cons_zero]; first | done | rfl) | rfl) ?_
  refine sx_nil (hZ _ _ ?_)
  refine awp_forget [(6, _)] (Kn.cons rfl (Kn.nil)) ?_
  refine awp_ret ?_
  exact nx_ret1 rfl (ResOk.cell 0 rfl rfl tyA43 tyS43 rfl) rfl
theorem up_maker : Maker 64 mkUp where
  fn z s hz ha hb := by
    have hq := base4_lt hz ha
    rcases Nat.eq_zero_or_pos z with h0 | h0
    · subst h0
      refine Fn.enter (N := 18) Try.func64 rfl (by kernel_rfl) rfl (fun w0 => ?_)

      refine awp_seq_region (fun Z hZ => ?_)
      refine sx_box rfl rfl rfl (fun g1 => ?_)
      refine sx_alloc tyZ43 rfl (fun g2 => ?_)
      refine sx_assign rfl rfl ?_
      refine sx_nil (hZ _ _ ?_)
      refine awp_forget [(0, _), (3, _), (4, _)] (Kn.cons rfl (Kn.cons rfl (Kn.cons rfl (Kn.nil)))) ?_

      refine awp_seq ?_
      refine awp_seq_region (fun Z hZ => ?_)
      refine sx_move rfl rfl ?_
      refine sx_eql rfl rfl rfl ?_
      refine sx_nil (hZ _ _ ?_)
      refine awp_forget [(0, _), (3, _), (4, _), (7, _)] (Kn.cons rfl (Kn.cons rfl (Kn.cons rfl (Kn.cons rfl (Kn.nil))))) ?_
      refine awp_cond rfl (fun h => ?_) (fun h => ?_)
      · refine awp_seq_region (fun Z hZ => ?_)
        refine sx_build tyZ43 tyP43 rfl rfl (by first | (simp only [List.take_succ_cons, List.take_zero, List.drop_succ_cons, List.drop_zero, List.cons_append, List.nil_append, List.append_nil, List.length_cons, List.length_nil, Nat.reduceAdd, Nat.zero_add, Nat.add_zero, Value.cells, wrV, zrep_one, List.replicate_succ, List.replicate_zero, Nat.reduceMul, Nat.zero_mul]; first | done | rfl) | rfl) rfl ?_
        refine sx_store 0 rfl rfl rfl tyS43 (by first | (simp only [Value.cells]; first | done | rfl) | rfl) rfl rfl (by first | (simp only [List.length_cons, List.length_nil, Nat.reduceAdd, Nat.zero_add, Nat.add_zero]; first | done | rfl) | rfl) (by first | (simp only [List.take_succ_cons, List.take_zero, List.drop_succ_cons, List.drop_zero, List.cons_append, List.nil_append, List.append_nil, List.length_cons, List.length_nil, Nat.reduceAdd, Nat.zero_add, Nat.add_zero, Value.cells, wrV]; first | done | rfl) | rfl) (by first | (simp only [List.set_cons_succ, List.set_cons_zero]; first | done | rfl) | rfl) ?_
        refine sx_assign rfl rfl ?_
        refine sx_nil (hZ _ _ ?_)
        refine awp_forget [(4, _), (5, _)] (Kn.cons rfl (Kn.cons rfl (Kn.nil))) ?_
        refine awp_ret ?_
        repeat (with_reducible refine nx_then_ret ?_)
        exact nx_ret2 rfl (ResOk.cell 0 rfl rfl tyA43 tyS43 rfl) rfl rfl
      · simp at h
    · obtain ⟨y, rfl⟩ : ∃ y, z = y + 1 := ⟨z - 1, by omega⟩
      have e4 : 4 ^ (y + 1) = 4 * 4 ^ y := by rw [Nat.pow_succ]; omega
      have hb' := base4_lt hz hb
      have hat := mat_fn y (s.a / 4) (s.b / 4) (by omega) (by omega) (by omega)
      have hmk : mkUp (y + 1) s = some ⟨base4 y + s.a / 4, base4 y + s.b / 4⟩ := by unfold mkUp; rw [if_neg (by omega)]; rfl
      rw [hmk]
      refine Fn.enter (N := 18) Try.func64 rfl (by kernel_rfl) rfl (fun w0 => ?_)

      refine awp_seq_region (fun Z hZ => ?_)
      refine sx_box rfl rfl rfl (fun g1 => ?_)
      refine sx_alloc tyZ43 rfl (fun g2 => ?_)
      refine sx_assign rfl rfl ?_
      refine sx_nil (hZ _ _ ?_)
      refine awp_forget [(0, _), (3, _), (4, _)] (Kn.cons rfl (Kn.cons rfl (Kn.cons rfl (Kn.nil)))) ?_

      refine awp_seq ?_
      refine awp_seq_region (fun Z hZ => ?_)
      refine sx_move rfl rfl ?_
      refine sx_eql rfl rfl rfl ?_
      refine sx_nil (hZ _ _ ?_)
      refine awp_forget [(0, _), (3, _), (4, _), (7, _)] (Kn.cons rfl (Kn.cons rfl (Kn.cons rfl (Kn.cons rfl (Kn.nil))))) ?_
      refine awp_cond rfl (fun h => ?_) (fun h => ?_)
      · simp at h; omega
      refine awp_skip ?_
      with_reducible refine nx_normal ?_
      refine awp_seq_region (fun Z hZ => ?_)
      refine sx_move rfl rfl ?_
      refine sx_sub rfl rfl ((y : Nat) : Int) (by rw [IntWalk.i64_in _ (by omega)]; omega) rfl ?_
      refine sx_fieldAddr rfl tyF43_0 (by first | (simp only [Nat.reduceAdd, Nat.add_zero, Nat.zero_add]; first | done | rfl) | rfl) rfl ?_
      refine sx_load 1 rfl rfl tyA36 tyS36 rfl rfl ?_
      refine sx_quo rfl rfl (by decide) ((s.a / 4 : Nat) : Int) (by rw [Int.tdiv_eq_ediv_of_nonneg (by omega), IntWalk.u64_in _ (by omega)]; omega) rfl ?_
      refine sx_fieldAddr rfl tyF43_1 (by first | (simp only [Nat.reduceAdd, Nat.add_zero, Nat.zero_add]; first | done | rfl) | rfl) rfl ?_
      refine sx_load 1 rfl rfl tyA36 tyS36 rfl rfl ?_
      refine sx_quo rfl rfl (by decide) ((s.b / 4 : Nat) : Int) (by rw [Int.tdiv_eq_ediv_of_nonneg (by omega), IntWalk.u64_in _ (by omega)]; omega) rfl ?_
      refine sx_callP hat rfl rfl ?_
      refine sx_store 0 rfl rfl rfl tyS43 (by first | (simp only [Value.cells]; first | done | rfl) | rfl) rfl rfl (by first | (simp only [List.length_cons, List.length_nil, Nat.reduceAdd, Nat.zero_add, Nat.add_zero]; first | done | rfl) | rfl) (by first | (simp only [List.take_succ_cons, List.take_zero, List.drop_succ_cons, List.drop_zero, List.cons_append, List.nil_append, List.append_nil, List.length_cons, List.length_nil, Nat.reduceAdd, Nat.zero_add, Nat.add_zero, Value.cells, wrV]; first | done | rfl) | rfl) (by first | (simp only [List.set_cons_succ, List.set_cons_zero]; first | done | rfl) | rfl) ?_
      refine sx_assign rfl rfl ?_
      refine sx_nil (hZ _ _ ?_)
      refine awp_forget [(4, _), (5, _)] (Kn.cons rfl (Kn.cons rfl (Kn.nil))) ?_
      refine awp_ret ?_
      exact nx_ret2 rfl (ResOk.cell 0 rfl rfl tyA43 tyS43 rfl) rfl rfl
  ok z s t hz ha hb h := by
    unfold mkUp at h
    split at h
    · cases h
    · rename_i h0
      injection h with h
      subst h
      obtain ⟨y, rfl⟩ : ∃ y, z = y + 1 := ⟨z - 1, by omega⟩
      have e4 : 4 ^ (y + 1) = 4 * 4 ^ y := by rw [Nat.pow_succ]; omega
      have h1 := base4_lt (z := y) (d := s.a / 4) (by omega) (by omega)
      have h2 := base4_lt (z := y) (d := s.b / 4) (by omega) (by omega)
      exact ⟨by show base4 y + s.a / 4 < _; omega, by show base4 y + s.b / 4 < _; omega⟩
theorem down_maker : Maker 67 mkDown where
  fn z s hz ha hb := by
    rcases Nat.lt_or_ge z 26 with h0 | h0
    · have e4 : 4 ^ (z + 1) = 4 * 4 ^ z := by rw [Nat.pow_succ]; omega
      have hq := base4_lt (z := z + 1) (d := 4 * s.b + 3) (by omega) (by omega)
      have hq2 := base4_lt (z := z + 1) (d := 4 * s.a) (by omega) (by omega)
      have hat := mat_fn (z + 1) (4 * s.a) (4 * s.b + 3) (by omega) (by omega) (by omega)
      have hmk : mkDown z s = some ⟨base4 (z + 1) + 4 * s.a, base4 (z + 1) + (4 * s.b + 3)⟩ := by unfold mkDown; rw [if_neg (by omega)]
      rw [hmk]
      refine Fn.enter (N := 19) Try.func67 rfl (by kernel_rfl) rfl (fun w0 => ?_)

      refine awp_seq_region (fun Z hZ => ?_)
      refine sx_box rfl rfl rfl (fun g1 => ?_)
      refine sx_alloc tyZ43 rfl (fun g2 => ?_)
      refine sx_assign rfl rfl ?_
      refine sx_nil (hZ _ _ ?_)
      refine awp_forget [(0, _), (3, _), (4, _)] (Kn.cons rfl (Kn.cons rfl (Kn.cons rfl (Kn.nil)))) ?_

      refine awp_seq ?_
      refine awp_seq_region (fun Z hZ => ?_)
      refine sx_move rfl rfl ?_
      refine sx_eql rfl rfl rfl ?_
      refine sx_nil (hZ _ _ ?_)
      refine awp_forget [(0, _), (3, _), (4, _), (7, _)] (Kn.cons rfl (Kn.cons rfl (Kn.cons rfl (Kn.cons rfl (Kn.nil))))) ?_
      refine awp_cond rfl (fun h => ?_) (fun h => ?_)
      · simp at h; omega
      refine awp_skip ?_
      with_reducible refine nx_normal ?_
      refine awp_seq_region (fun Z hZ => ?_)
      refine sx_move rfl rfl ?_
      refine sx_add rfl rfl ((z + 1 : Nat) : Int) (by rw [IntWalk.i64_in _ (by omega)]; omega) rfl ?_
      refine sx_fieldAddr rfl tyF43_0 (by first | (simp only [Nat.reduceAdd, Nat.add_zero, Nat.zero_add]; first | done | rfl) | rfl) rfl ?_
      refine sx_load 1 rfl rfl tyA36 tyS36 rfl rfl ?_
      refine sx_mul rfl rfl ((4 * s.a : Nat) : Int) (by rw [IntWalk.u64_in _ (by omega)]; omega) rfl ?_
      refine sx_fieldAddr rfl tyF43_1 (by first | (simp only [Nat.reduceAdd, Nat.add_zero, Nat.zero_add]; first | done | rfl) | rfl) rfl ?_
      refine sx_load 1 rfl rfl tyA36 tyS36 rfl rfl ?_
      refine sx_mul rfl rfl ((4 * s.b : Nat) : Int) (by rw [IntWalk.u64_in _ (by omega)]; omega) rfl ?_
      refine sx_add rfl rfl ((4 * s.b + 3 : Nat) : Int) (by rw [IntWalk.u64_in _ (by omega)]; omega) rfl ?_
      refine sx_callP hat rfl rfl ?_
      refine sx_store 0 rfl rfl rfl tyS43 (by first | (simp only [Value.cells]; first | done | rfl) | rfl) rfl rfl (by first | (simp only [List.length_cons, List.length_nil, Nat.reduceAdd, Nat.zero_add, Nat.add_zero]; first | done | rfl) | rfl) (by first | (simp only [List.take_succ_cons, List.take_zero, List.drop_succ_cons, List.drop_zero, List.cons_append, List.nil_append, List.append_nil, List.length_cons, List.length_nil, Nat.reduceAdd, Nat.zero_add, Nat.add_zero, Value.cells, wrV]; first | done | rfl) | rfl) (by first | (simp only [List.set_cons_succ, List.set_cons_zero]; first | done | rfl) | rfl) ?_
      refine sx_assign rfl rfl ?_
      refine sx_nil (hZ _ _ ?_)
      refine awp_forget [(4, _), (5, _)] (Kn.cons rfl (Kn.cons rfl (Kn.nil))) ?_
      refine awp_ret ?_
      exact nx_ret2 rfl (ResOk.cell 0 rfl rfl tyA43 tyS43 rfl) rfl rfl
    · have : z = 26 := by omega
      subst this
      refine Fn.enter (N := 19) Try.func67 rfl (by kernel_rfl) rfl (fun w0 => ?_)

      refine awp_seq_region (fun Z hZ => ?_)
      refine sx_box rfl rfl rfl (fun g1 => ?_)
      refine sx_alloc tyZ43 rfl (fun g2 => ?_)
      refine sx_assign rfl rfl ?_
      refine sx_nil (hZ _ _ ?_)
      refine awp_forget [(0, _), (3, _), (4, _)] (Kn.cons rfl (Kn.cons rfl (Kn.cons rfl (Kn.nil)))) ?_

      refine awp_seq ?_
      refine awp_seq_region (fun Z hZ => ?_)
      refine sx_move rfl rfl ?_
      refine sx_eql rfl rfl rfl ?_
      refine sx_nil (hZ _ _ ?_)
      refine awp_forget [(0, _), (3, _), (4, _), (7, _)] (Kn.cons rfl (Kn.cons rfl (Kn.cons rfl (Kn.cons rfl (Kn.nil))))) ?_
      refine awp_cond rfl (fun h => ?_) (fun h => ?_)
      · refine awp_seq_region (fun Z hZ => ?_)
        refine sx_build tyZ43 tyP43 rfl rfl (by first | (simp only [List.take_succ_cons, List.take_zero, List.drop_succ_cons, List.drop_zero, List.cons_append, List.nil_append, List.append_nil, List.length_cons, List.length_nil, Nat.reduceAdd, Nat.zero_add, Nat.add_zero, Value.cells, wrV, zrep_one, List.replicate_succ, List.replicate_zero, Nat.reduceMul, Nat.zero_mul]; first | done | rfl) | rfl) rfl ?_
        refine sx_store 0 rfl rfl rfl tyS43 (by first | (simp only [Value.cells]; first | done | rfl) | rfl) rfl rfl (by first | (simp only [List.length_cons, List.length_nil, Nat.reduceAdd, Nat.zero_add, Nat.add_zero]; first | done | rfl) | rfl) (by first | (simp only [List.take_succ_cons, List.take_zero, List.drop_succ_cons, List.drop_zero, List.cons_append, List.nil_append, List.append_nil, List.length_cons, List.length_nil, Nat.reduceAdd, Nat.zero_add, Nat.add_zero, Value.cells, wrV]; first | done | rfl) | rfl) (by first | (simp only [List.set_cons_succ, List.set_cons_zero]; first | done | rfl) | rfl) ?_
        refine sx_assign rfl rfl ?_
        refine sx_nil (hZ _ _ ?_)
        refine awp_forget [(4, _), (5, _)] (Kn.cons rfl (Kn.cons rfl (Kn.nil))) ?_
        refine awp_ret ?_
        repeat (with_reducible refine nx_then_ret ?_)
        exact nx_ret2 rfl (ResOk.cell 0 rfl rfl tyA43 tyS43 rfl) rfl rfl
      · simp at h
  ok z s t hz ha hb h := by
    unfold mkDown at h
    split at h
    · cases h
    · rename_i h0
      injection h with h
      subst h
      have e4 : 4 ^ (z + 1) = 4 * 4 ^ z := by rw [Nat.pow_succ]; omega
      have h1 := base4_lt (z := z + 1) (d := 4 * s.a) (by omega) (by omega)
      have h2 := base4_lt (z := z + 1) (d := 4 * s.b + 3) (by omega) (by omega)
      exact ⟨by show base4 (z + 1) + 4 * s.a < _; omega, by show base4 (z + 1) + (4 * s.b + 3) < _; omega⟩
theorem ord_cmp : SpCmp 91 where
  is_ x y W := by
    have hcon := cmp_is x.a y.a
    generalize cmpQ x.a y.a = r at hcon ⊢
    go_enter Try.func91, Try.ntmps91
    go_wp2_with (go_at_call 80; refine (hcon _).mono ?_; rintro e w' ⟨rfl, rfl⟩)
    go_ret
    exact ⟨rfl, 0, _, by rw [alloc_eq_grow, alloc_eq_grow, grow_grow]; rfl⟩
  enter := enters_of Try.func91 (by kernel_rfl) rfl
theorem un_perm {L M : List Sp} (h : M.Perm L) : unQ M [] = unQ L [] := plain_ext (un_plain _ _) (un_plain _ _) fun k => by
  rw [un_in, un_in]
  have : inS M k ↔ inS L k := ⟨fun ⟨s, hs, hk⟩ => ⟨s, h.mem_iff.1 hs, hk⟩, fun ⟨s, hs, hk⟩ => ⟨s, h.mem_iff.2 hs, hk⟩⟩
  rw [this]
theorem mordered_fn (v : Value) (L : List Sp) (hv : RowOk v L.length) (hL : L.length ≤ 60000) (ho : SpsOk L) :
    Fn Try.prog 62 [v] (rowE v 43 2 (scells L)) fun u H' => RowOk u (unQ L []).length ∧ H' = rowE u 43 2 (scells (unQ L [])) := by
  refine Fn.enter (N := 7) Try.func62 rfl (by kernel_rfl) rfl (fun w0 => ?_)

  refine awp_seq_region (fun Z hZ => ?_)
  refine sx_assign rfl rfl ?_
  refine sx_nil (hZ _ _ ?_)
  refine awp_forget [(0, _)] (Kn.cons rfl (Kn.nil)) ?_
  refine awp_seq_region (fun Z hZ => ?_)
  refine sx_move rfl rfl ?_
  refine sx_callO (rowE v 43 2 (scells L)) [] (ssortR_fn ord_cmp v L hv (by omega)) rfl (by rw [List.append_nil]; exact HLe.refl _) rfl ?_
  rintro v' H' ⟨rfl, G, hp, hs, rfl⟩
  rw [rowE_flt, List.append_nil]
  refine sx_nil (hZ _ _ ?_)
  refine awp_forget [(0, _)] (Kn.cons rfl (Kn.nil)) ?_
  have hGl := hp.length_eq
  have hGo : SpsOk G := fun s hm => ho s (hp.mem_iff.1 hm)
  rw [← hGl] at hv
  rw [← un_perm hp]
  refine awp_heap (rowE v 43 2 (scells G) ++ []) (by rw [List.append_nil]; exact HLe.refl _) ?_
  refine awp_seq_region (fun Z hZ => ?_)
  refine sx_move rfl rfl ?_
  refine sx_toRoE (fun u => (5, u) :: _) hv (fun A1 c1 hA1 => ?_)
  refine sx_callO (roE A1 (scells G) ++ roE none (scells [])) [] (union_fn A1 none c1 0 G [] hA1 slIn_nil (by omega) (by simp) hGo (fun s hs => by cases hs)) rfl (by rw [List.nil_append, List.append_nil]; show HLe (roE A1 (scells G) ++ []) _; rw [List.append_nil]; exact HLe.refl _) rfl ?_
  rintro v2 H2 ⟨hv2, rfl⟩
  rw [rowE_flt, List.append_nil]
  refine sx_assign rfl rfl ?_
  refine sx_nil (hZ _ _ ?_)
  refine awp_forget [(2, _)] (Kn.cons rfl (Kn.nil)) ?_
  refine awp_ret ?_
  exact nx_ret1h _ rfl rfl (HLe.refl _) ⟨hv2, rfl⟩
def upQ (a : List Sp) : List Sp := unQ (eachQ a mkUp 27) []
def downQ (a : List Sp) : List Sp := unQ (eachQ a mkDown 27) []
theorem upQ_in (a : List Sp) (k : Nat) : inS (upQ a) k ↔ UpIn a k := by
  unfold upQ
  rw [un_in, up_in]
  exact ⟨fun h => h.elim id fun h => absurd h (inS_nil k), .inl⟩
theorem downQ_in (a : List Sp) (k : Nat) : inS (downQ a) k ↔ DownIn a k := by
  unfold downQ
  rw [un_in, down_in]
  exact ⟨fun h => h.elim id fun h => absurd h (inS_nil k), .inl⟩
theorem upQ_plain (a : List Sp) : Plain (upQ a) := un_plain _ _
theorem downQ_plain (a : List Sp) : Plain (downQ a) := un_plain _ _
theorem upQ_below (a : List Sp) : BelowS 6004799503160661 (upQ a) := (below_in (upQ_plain a)).2 fun k hk => by
  obtain ⟨j, h1, h2, h3, rfl⟩ := (upQ_in a k).1 hk
  obtain ⟨z, d, hz, hd, rfl⟩ := id_ex h1
  rw [zN_is hz hd] at h3
  obtain ⟨y, rfl⟩ : ∃ y, z = y + 1 := ⟨z - 1, by omega⟩
  have e4 : 4 ^ (y + 1) = 4 * 4 ^ y := by rw [Nat.pow_succ]; omega
  rw [upK_is hz hd]
  exact base4_lt (by omega) (by omega)
theorem downQ_below (a : List Sp) : BelowS 6004799503160661 (downQ a) := (below_in (downQ_plain a)).2 fun k hk => ((downQ_in a k).1 hk).1
theorem mUp_fn (A : Option Addr) (c : Nat) (L : List Sp) (T : Heap) (hA : ArgOk A L.length) (hT : 0 < L.length → T = roE A (scells L)) (hro : Ro T) (hL : L.length ≤ 2100) (ho : SpsOk L) :
    Fn Try.prog 29 [.slice A L.length c] T fun v H' => RowOk v (upQ L).length ∧ H' = rowE v 43 2 (scells (upQ L)) := by
  have hel := each_len L mkUp 27
  refine Fn.enter (N := 6) Try.func29 rfl (by kernel_rfl) rfl (fun w0 => ?_)

  refine awp_seq_region (fun Z hZ => ?_)
  refine sx_assign rfl rfl ?_
  refine sx_nil (hZ _ _ ?_)
  refine awp_forget [(0, _)] (Kn.cons rfl (Kn.nil)) ?_
  refine awp_seq_region (fun Z hZ => ?_)
  refine sx_move rfl rfl ?_
  refine sx_callVU T (meach_fn up_maker A c L T hA hT hro hL ho) rfl (HLe.refl _) hro rfl ?_
  rintro v H' ⟨hv, rfl⟩
  rw [rowE_flt]
  refine sx_callO (rowE v 43 2 (scells (eachQ L mkUp 27))) T (mordered_fn v _ hv (by omega) (each_sps up_maker L 27 (Nat.le_refl _))) rfl (HLe.refl _) rfl ?_
  rintro v2 H2 ⟨hv2, rfl⟩
  rw [rowE_flt]
  refine sx_assign rfl rfl ?_
  refine sx_nil (hZ _ _ ?_)
  refine awp_forget [(2, _)] (Kn.cons rfl (Kn.nil)) ?_
  refine awp_ret ?_
  exact nx_ret1h _ rfl rfl (HLe.sub (List.sublist_append_left _ _)) ⟨hv2, rfl⟩
theorem mDown_fn (A : Option Addr) (c : Nat) (L : List Sp) (T : Heap) (hA : ArgOk A L.length) (hT : 0 < L.length → T = roE A (scells L)) (hro : Ro T) (hL : L.length ≤ 2100) (ho : SpsOk L) :
    Fn Try.prog 31 [.slice A L.length c] T fun v H' => RowOk v (downQ L).length ∧ H' = rowE v 43 2 (scells (downQ L)) := by
  have hel := each_len L mkDown 27
  refine Fn.enter (N := 6) Try.func31 rfl (by kernel_rfl) rfl (fun w0 => ?_)

  refine awp_seq_region (fun Z hZ => ?_)
  refine sx_assign rfl rfl ?_
  refine sx_nil (hZ _ _ ?_)
  refine awp_forget [(0, _)] (Kn.cons rfl (Kn.nil)) ?_
  refine awp_seq_region (fun Z hZ => ?_)
  refine sx_move rfl rfl ?_
  refine sx_callVU T (meach_fn down_maker A c L T hA hT hro hL ho) rfl (HLe.refl _) hro rfl ?_
  rintro v H' ⟨hv, rfl⟩
  rw [rowE_flt]
  refine sx_callO (rowE v 43 2 (scells (eachQ L mkDown 27))) T (mordered_fn v _ hv (by omega) (each_sps down_maker L 27 (Nat.le_refl _))) rfl (HLe.refl _) rfl ?_
  rintro v2 H2 ⟨hv2, rfl⟩
  rw [rowE_flt]
  refine sx_assign rfl rfl ?_
  refine sx_nil (hZ _ _ ?_)
  refine awp_forget [(2, _)] (Kn.cons rfl (Kn.nil)) ?_
  refine awp_ret ?_
  exact nx_ret1h _ rfl rfl (HLe.sub (List.sublist_append_left _ _)) ⟨hv2, rfl⟩
end Go.Proofs.Ytbldhokgbcljjaa
