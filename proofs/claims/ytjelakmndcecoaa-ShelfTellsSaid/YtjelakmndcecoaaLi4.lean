/- The walks of package lru: Keys, by the items that a cache holds. No conditions. -/
import Derived.Test.YtjelakmndcecoaaLi3
import Derived.Test.YtjelakmndcecoaaGsx4
namespace Go.Proofs.Ytjelakmndcecoaa.LI
open Go.RowKit
set_option linter.unusedVariables false
set_option linter.unusedSimpArgs false
def kcell (x : Item) : List Value := [uq x.1.1, uq x.1.2]
theorem kcell_len (x : Item) : (kcell x).length = 2 := rfl
def kcells (L : List Item) : List Value := L.flatMap kcell
theorem kcells_len (L : List Item) : (kcells L).length = L.length * 2 := fm_len kcell_len L
theorem elemKey : ElemOk Try.prog 42 47 2 16 := ElemOk.mk_ (z := .agg #[.int .u64 0, .int .u64 0]) Try.underlying42 (by kernel_rfl) rfl (by omega)
theorem peekL_fn (g b : Nat) (most : Int) (s : CS) (L : List Item) (k : Ky) (hR : Rep s L) : Fn Try.prog 45 [ptr g 0, encK k] (cacheH g b most s)
    fun v H' => v = .tuple #[iq ((valK L k : Nat)), .bool (hasK L k)] ∧ H' = cacheH g b most s := by
  have h := peek_fn g b most s k
  have e : (nd s.M k).v = valK L k := by
    cases hh : hasK L k with
    | true => exact (hR.val hh).1
    | false => rw [nd_none (by rw [hR.has, hh]), valK_none hh]
  rw [hR.has, e] at h
  exact h
theorem clip_fn (v : Value) (n : Nat) (xs : List Value) (hv : RowOk v n) :
    Fn Try.prog 44 [v] (rowE v 47 2 xs) fun u H' => RowOk u n ∧ H' = clipE u 47 2 xs := by
  rcases hv with ⟨rfl, rfl⟩ | ⟨g, c, rfl⟩
  · refine Fn.enter (N := 9) Try.func44 rfl (by kernel_rfl) rfl (fun w0 => ?_)

    refine awp_seq_region (fun Z hZ => ?_)
    refine sx_assign rfl rfl ?_
    refine sx_nil (hZ _ _ ?_)
    refine awp_forget [(0, _)] (Kn.cons rfl (Kn.nil)) ?_
    refine awp_seq_region (fun Z hZ => ?_)
    refine sx_move rfl rfl ?_
    refine sx_move rfl rfl ?_
    first | refine sx_len Try.underlying42 rfl rfl ?_ | refine sx_lenS Try.underlying42 rfl rfl ?_
    refine sx_move rfl rfl ?_
    first | refine sx_len Try.underlying42 rfl rfl ?_ | refine sx_lenS Try.underlying42 rfl rfl ?_
    refine sx_clip (n := 0) Try.underlying42 tyS47 (.inl ⟨rfl, rfl⟩) rfl (by omega) rfl rfl rfl ?_
    refine sx_assign rfl rfl ?_
    refine sx_nil (hZ _ _ ?_)
    refine awp_forget [(2, _)] (Kn.cons rfl (Kn.nil)) ?_
    refine awp_ret ?_
    repeat (with_reducible (first | refine nx_then_ret ?_ | refine nx_block_ret ?_ | refine nx_scope_ret ?_))
    exact nx_ret1 rfl rfl ⟨RowOk.nil, rfl⟩
  · rcases Nat.lt_or_ge c n with hlt | hge
    · refine ⟨Enters.mk Try.func44 (by kernel_rfl) (by kernel_rfl), fun w hw => ?_⟩
      obtain ⟨o, _, cur, _, h2, _⟩ := hw.mem (i := 0) (e := .ob g (RowP 47 2 n c xs)) rfl
      omega
    · refine Fn.enter (N := 9) Try.func44 rfl (by kernel_rfl) rfl (fun w0 => ?_)

      refine awp_seq_region (fun Z hZ => ?_)
      refine sx_assign rfl rfl ?_
      refine sx_nil (hZ _ _ ?_)
      refine awp_forget [(0, _)] (Kn.cons rfl (Kn.nil)) ?_
      refine awp_seq_region (fun Z hZ => ?_)
      refine sx_move rfl rfl ?_
      refine sx_move rfl rfl ?_
      first | refine sx_len Try.underlying42 rfl rfl ?_ | refine sx_lenS Try.underlying42 rfl rfl ?_
      refine sx_move rfl rfl ?_
      first | refine sx_len Try.underlying42 rfl rfl ?_ | refine sx_lenS Try.underlying42 rfl rfl ?_
      refine sx_clip Try.underlying42 tyS47 (.inr ⟨g, 0, rfl⟩) rfl hge rfl rfl rfl ?_
      refine sx_assign rfl rfl ?_
      refine sx_nil (hZ _ _ ?_)
      refine awp_forget [(2, _)] (Kn.cons rfl (Kn.nil)) ?_
      refine awp_ret ?_
      repeat (with_reducible (first | refine nx_then_ret ?_ | refine nx_block_ret ?_ | refine nx_scope_ret ?_))
      exact nx_ret1h _ rfl rfl (row_clip []) ⟨RowOk.mk _ _ _, rfl⟩
theorem keys_fn (g b : Nat) (most : Int) (s : CS) (L : List Item) (hR : Rep s L) (hL : L.length ≤ 1000) : Fn Try.prog 29 [ptr g 0] (cacheH g b most s)
    fun v H' => RowOk v L.length ∧ H' = clipE v 47 2 (kcells L) ++ cacheH g b most s := by
  have hlen := hR.len
  refine Fn.enter (N := 35) Try.func29 rfl (by kernel_rfl) rfl (fun w0 => ?_)

  refine awp_seq_region (fun Z hZ => ?_)
  refine sx_assign rfl rfl ?_
  refine sx_nil (hZ _ _ ?_)
  refine awp_forget [(0, _)] (Kn.cons rfl (Kn.nil)) ?_
  refine awp_seq_region (fun Z hZ => ?_)
  refine sx_assign rfl rfl ?_
  refine sx_nil (hZ _ _ ?_)
  refine awp_forget [(0, _), (3, _)] (Kn.cons rfl (Kn.cons rfl (Kn.nil))) ?_
  refine awp_seq ?_
  refine awp_seq_region (fun Z hZ => ?_)
  refine sx_move rfl rfl ?_
  refine sx_callK [0, 1] [] (len_fn g b most s) rfl rfl (by simp) rfl ?_
  rintro v H' ⟨rfl, rfl⟩
  refine sx_norm (by simp only [List.filter_cons, List.filter_nil, Ent.wr, if_true, List.cons_append, List.nil_append, pick, List.filterMap_cons, List.filterMap_nil, List.getElem?_cons_succ, List.getElem?_cons_zero]; first | done | rfl) ?_
  rw [hlen]
  refine sx_move rfl rfl ?_
  refine sx_nil (hZ _ _ ?_)
  refine awp_forget [(0, _), (3, _), (7, _), (8, _)] (Kn.cons rfl (Kn.cons rfl (Kn.cons rfl (Kn.cons rfl (Kn.nil))))) ?_
  refine awp_block ?_
  refine awp_loop (ι := Nat × Value) (fun i => [(0, ptr g 0), (3, i.2), (7, iq (L.length : Nat)), (8, iq (i.1 : Nat))]) (fun i => cacheH g b most s ++ rowE i.2 47 2 (kcells (L.take i.1)))
    (fun i => i.1 ≤ L.length ∧ RowOk i.2 i.1) (fun i => L.length - i.1) (0, .slice none 0 0) ⟨by simp, RowOk.nil⟩ (Kn.cons rfl (Kn.cons rfl (Kn.cons rfl (Kn.cons rfl Kn.nil)))) (HLe.pick [0, 1] (by simp) rfl) ?_
  rintro ⟨k, v⟩ ⟨hk, hv⟩
  simp only at hk hv

  refine awp_seq_region (fun Z hZ => ?_)
  first | refine sx_lss rfl rfl rfl ?_ | refine sx_slss rfl rfl rfl ?_
  refine sx_nil (hZ _ _ ?_)
  refine awp_forget [(0, _), (3, _), (7, _), (8, _), (9, _)] (Kn.cons rfl (Kn.cons rfl (Kn.cons rfl (Kn.cons rfl (Kn.cons rfl (Kn.nil)))))) ?_
  first | refine awp_cond rfl (fun h => ?_) (fun h => ?_) | refine awp_seq (awp_cond rfl (fun h => ?_) (fun h => ?_))
  · have hlt : k < L.length := by simpa using h
    obtain ⟨x, hx⟩ : ∃ x, L[k]? = some x := ⟨_, List.getElem?_eq_getElem hlt⟩
    refine awp_skip ?_
    repeat (with_reducible (first | refine nx_block_normal ?_ | refine nx_scope_normal ?_))
    with_reducible first | refine nx_normal ?_ | refine nx_normalM ?_
    refine awp_seq (awp_block ?_)
    refine awp_seq_region (fun Z hZ => ?_)
    refine sx_move rfl rfl ?_
    refine sx_assign rfl rfl ?_
    refine sx_nil (hZ _ _ ?_)
    refine awp_forget [(0, _), (3, _), (4, _), (7, _), (8, _)] (Kn.cons rfl (Kn.cons rfl (Kn.cons rfl (Kn.cons rfl (Kn.cons rfl (Kn.nil)))))) ?_
    refine awp_seq_region (fun Z hZ => ?_)
    refine sx_move rfl rfl ?_
    refine sx_nilCheck rfl rfl ?_
    refine sx_fieldAddr rfl tyF93_2 (by first | (simp only [Nat.reduceAdd, Nat.add_zero, Nat.zero_add]; first | done | rfl) | rfl) rfl ?_
    first | refine sx_loadA 0 rfl rfl tyA47 tyS47 (by first | (simp only [List.length_cons, List.length_nil, Nat.reduceAdd, Nat.zero_add, Nat.add_zero]; first | done | rfl) | rfl) (by first | (simp only [List.take_succ_cons, List.take_zero, List.drop_succ_cons, List.drop_zero, List.cons_append, List.nil_append, List.append_nil, List.length_cons, List.length_nil, Nat.reduceAdd, Nat.zero_add, Nat.add_zero, Value.cells, wrV]; first | done | rfl) | rfl) rfl ?_ | refine sx_loadA 1 rfl rfl tyA47 tyS47 (by first | (simp only [List.length_cons, List.length_nil, Nat.reduceAdd, Nat.zero_add, Nat.add_zero]; first | done | rfl) | rfl) (by first | (simp only [List.take_succ_cons, List.take_zero, List.drop_succ_cons, List.drop_zero, List.cons_append, List.nil_append, List.append_nil, List.length_cons, List.length_nil, Nat.reduceAdd, Nat.zero_add, Nat.add_zero, Value.cells, wrV]; first | done | rfl) | rfl) rfl ?_
    refine sx_alloc tyZ47 rfl (fun g1 => ?_)
    first | refine sx_store 0 rfl rfl rfl tyS47 (by first | (simp only [Value.cells]; first | done | rfl) | rfl) rfl rfl (by first | (simp only [List.length_cons, List.length_nil, Nat.reduceAdd, Nat.zero_add, Nat.add_zero]; first | done | rfl) | rfl) (by first | (simp only [List.take_succ_cons, List.take_zero, List.drop_succ_cons, List.drop_zero, List.cons_append, List.nil_append, List.append_nil, List.length_cons, List.length_nil, Nat.reduceAdd, Nat.zero_add, Nat.add_zero, Value.cells, wrV]; first | done | rfl) | rfl) (by first | (simp only [List.set_cons_succ, List.set_cons_zero]; first | done | rfl) | rfl) ?_ | refine sx_store 1 rfl rfl rfl tyS47 (by first | (simp only [Value.cells]; first | done | rfl) | rfl) rfl rfl (by first | (simp only [List.length_cons, List.length_nil, Nat.reduceAdd, Nat.zero_add, Nat.add_zero]; first | done | rfl) | rfl) (by first | (simp only [List.take_succ_cons, List.take_zero, List.drop_succ_cons, List.drop_zero, List.cons_append, List.nil_append, List.append_nil, List.length_cons, List.length_nil, Nat.reduceAdd, Nat.zero_add, Nat.add_zero, Value.cells, wrV]; first | done | rfl) | rfl) (by first | (simp only [List.set_cons_succ, List.set_cons_zero]; first | done | rfl) | rfl) ?_ | refine sx_store 2 rfl rfl rfl tyS47 (by first | (simp only [Value.cells]; first | done | rfl) | rfl) rfl rfl (by first | (simp only [List.length_cons, List.length_nil, Nat.reduceAdd, Nat.zero_add, Nat.add_zero]; first | done | rfl) | rfl) (by first | (simp only [List.take_succ_cons, List.take_zero, List.drop_succ_cons, List.drop_zero, List.cons_append, List.nil_append, List.append_nil, List.length_cons, List.length_nil, Nat.reduceAdd, Nat.zero_add, Nat.add_zero, Value.cells, wrV]; first | done | rfl) | rfl) (by first | (simp only [List.set_cons_succ, List.set_cons_zero]; first | done | rfl) | rfl) ?_
    refine sx_nil (hZ _ _ ?_)
    refine awp_forget [(0, _), (3, _), (4, _), (5, _), (7, _), (8, _)] (Kn.cons rfl (Kn.cons rfl (Kn.cons rfl (Kn.cons rfl (Kn.cons rfl (Kn.cons rfl (Kn.nil))))))) ?_
    refine awp_cut (ι := Unit) (fun _ => [(0, ptr g 0), (3, v), (5, ptr g1 0), (7, iq (L.length : Nat)), (8, iq (k : Nat))]) (fun _ => .own g1 47 [uq x.1.1, uq x.1.2] :: (cacheH g b most s ++ rowE v 47 2 (kcells (L.take k)))) (fun _ => True) ?_ ?_
    · refine awp_seq_region (fun Z hZ => ?_)
      refine sx_move rfl rfl ?_
      first | refine sx_gtr rfl rfl rfl ?_ | refine sx_sgtr rfl rfl rfl ?_
      refine sx_nil (hZ _ _ ?_)
      refine awp_forget [(0, _), (3, _), (4, _), (5, _), (7, _), (8, _), (16, _)] (Kn.cons rfl (Kn.cons rfl (Kn.cons rfl (Kn.cons rfl (Kn.cons rfl (Kn.cons rfl (Kn.cons rfl (Kn.nil)))))))) ?_
      first | refine awp_cond rfl (fun hp => ?_) (fun hp => ?_) | refine awp_seq (awp_cond rfl (fun hp => ?_) (fun hp => ?_))
      · have hkp : 0 < k := by simpa using hp
        obtain ⟨g3, c3, rfl⟩ := hv.some hkp
        obtain ⟨y, hy⟩ : ∃ y, L[k - 1]? = some y := ⟨_, List.getElem?_eq_getElem (by omega)⟩
        obtain ⟨xn, h1, h2, h3, h4⟩ := hR.at_ (k - 1) y.1 y.2 hy
        have hn : xn.n = x.1 := h3 x (by rw [show k - 1 + 1 = k by omega]; exact hx)
        have hnd : nd s.M y.1 = xn := by simp [nd, h1]
        have hrd : rdV true 2 (kcells (L.take k)) ((k - 1) * 2) = some (.agg #[uq y.1.1, uq y.1.2]) := fm_rd (f := kcell) kcell_len (by rw [fm_takeAt (by omega)]; exact hy)
        have hl2 : (kcells (L.take k)).length = k * 2 := by rw [kcells_len, List.length_take, Nat.min_eq_left hk]

        refine aww_region _ [(0, true), (1, true), (2, true), (3, true), (4, true), (5, true), (6, true), (7, true), (8, true), (9, true), (10, true), (11, false)] mixed (by kernel_rfl) (HLe.pick [1, 2, 3] (by simp) (by simp only [pick, List.filterMap_cons, List.filterMap_nil, List.getElem?_cons_succ, List.getElem?_cons_zero]; rfl)) (fun Z hZ => ?_)
        refine tw_p rfl ?_
        refine sv_move rfl rfl ?_
        refine sv_nil ?_
        refine tw_p rfl ?_
        refine sv_nilCheck rfl rfl ?_
        refine sv_nil ?_
        refine tw_p rfl ?_
        refine sv_fieldAddr rfl tyF93_1 (by first | (simp only [Nat.reduceAdd, Nat.add_zero, Nat.zero_add]; first | done | rfl) | rfl) rfl ?_
        refine sv_nil ?_
        refine tw_p rfl ?_
        first | refine sv_load 0 rfl rfl tyA91 tyS91 rfl rfl ?_ | refine sv_load 1 rfl rfl tyA91 tyS91 rfl rfl ?_ | refine sv_load 2 rfl rfl tyA91 tyS91 rfl rfl ?_
        refine sv_nil ?_
        refine tw_p rfl ?_
        refine sv_move rfl rfl ?_
        refine sv_nil ?_
        refine tw_p rfl ?_
        refine sv_move rfl rfl ?_
        refine sv_nil ?_
        refine tw_p rfl ?_
        refine sv_sub rfl rfl ((k - 1 : Nat) : Int) (by rw [IntWalk.i64_in _ (by omega)]; omega) rfl ?_
        refine sv_nil ?_
        refine tw_p rfl ?_
        refine sv_indexAddr ((k - 1) * 2) Try.underlying42 tyS47 rfl rfl (by omega) (by simp) rfl ?_
        refine sv_nil ?_
        refine tw_p rfl ?_
        refine sv_loadRd (o := 0) ((k - 1) * 2) rfl (by simp) (fun w hw => rd_row (i := 2) rfl hw) hkp tyA47 tyS47 hrd rfl ?_
        refine sv_nil ?_
        refine tw_p rfl ?_
        refine sv_lookup 1 keyOk Try.underlying91 zeroNode y.1 _ rfl rfl rfl (look_v hnd) rfl ?_
        refine sv_nil ?_
        refine tw_p rfl ?_
        refine sv_field rfl tyF104_2 rfl rfl ?_
        refine sv_nil ?_
        refine tw_g rfl ?_
        first | refine sx_store 0 rfl rfl rfl tyS47 (by first | (simp only [Value.cells]; first | done | rfl) | rfl) rfl rfl (by first | (simp only [List.length_cons, List.length_nil, Nat.reduceAdd, Nat.zero_add, Nat.add_zero]; first | done | rfl) | rfl) (by first | (simp only [List.take_succ_cons, List.take_zero, List.drop_succ_cons, List.drop_zero, List.cons_append, List.nil_append, List.append_nil, List.length_cons, List.length_nil, Nat.reduceAdd, Nat.zero_add, Nat.add_zero, Value.cells, wrV]; first | done | rfl) | rfl) (by first | (simp only [List.set_cons_succ, List.set_cons_zero]; first | done | rfl) | rfl) ?_ | refine sx_store 1 rfl rfl rfl tyS47 (by first | (simp only [Value.cells]; first | done | rfl) | rfl) rfl rfl (by first | (simp only [List.length_cons, List.length_nil, Nat.reduceAdd, Nat.zero_add, Nat.add_zero]; first | done | rfl) | rfl) (by first | (simp only [List.take_succ_cons, List.take_zero, List.drop_succ_cons, List.drop_zero, List.cons_append, List.nil_append, List.append_nil, List.length_cons, List.length_nil, Nat.reduceAdd, Nat.zero_add, Nat.add_zero, Value.cells, wrV]; first | done | rfl) | rfl) (by first | (simp only [List.set_cons_succ, List.set_cons_zero]; first | done | rfl) | rfl) ?_ | refine sx_store 2 rfl rfl rfl tyS47 (by first | (simp only [Value.cells]; first | done | rfl) | rfl) rfl rfl (by first | (simp only [List.length_cons, List.length_nil, Nat.reduceAdd, Nat.zero_add, Nat.add_zero]; first | done | rfl) | rfl) (by first | (simp only [List.take_succ_cons, List.take_zero, List.drop_succ_cons, List.drop_zero, List.cons_append, List.nil_append, List.append_nil, List.length_cons, List.length_nil, Nat.reduceAdd, Nat.zero_add, Nat.add_zero, Value.cells, wrV]; first | done | rfl) | rfl) (by first | (simp only [List.set_cons_succ, List.set_cons_zero]; first | done | rfl) | rfl) ?_ | refine sx_store 3 rfl rfl rfl tyS47 (by first | (simp only [Value.cells]; first | done | rfl) | rfl) rfl rfl (by first | (simp only [List.length_cons, List.length_nil, Nat.reduceAdd, Nat.zero_add, Nat.add_zero]; first | done | rfl) | rfl) (by first | (simp only [List.take_succ_cons, List.take_zero, List.drop_succ_cons, List.drop_zero, List.cons_append, List.nil_append, List.append_nil, List.length_cons, List.length_nil, Nat.reduceAdd, Nat.zero_add, Nat.add_zero, Value.cells, wrV]; first | done | rfl) | rfl) (by first | (simp only [List.set_cons_succ, List.set_cons_zero]; first | done | rfl) | rfl) ?_
        refine sx_nil ⟨HLe.pick [1, 2, 3] (by simp) rfl, ?_⟩
        refine tw_nil (hZ _ _ ?_)
        refine nx_forget [(0, _), (3, _), (5, _), (7, _), (8, _)] (Kn.cons rfl (Kn.cons rfl (Kn.cons rfl (Kn.cons rfl (Kn.cons rfl (Kn.nil)))))) ?_
        exact nx_cut () trivial (Kn.cons rfl (Kn.cons rfl (Kn.cons rfl (Kn.cons rfl (Kn.cons rfl Kn.nil))))) (HLe.pick [0, 1, 2, 3] (by simp) (by rw [← hn]; rfl))
      · have hk0 : k = 0 := by simp at hp; omega
        subst hk0
        refine awp_skip ?_
        have ho := hR.old x hx
        exact nx_cut () trivial (Kn.cons rfl (Kn.cons rfl (Kn.cons rfl (Kn.cons rfl (Kn.cons rfl Kn.nil))))) (by rw [← ho]; exact HLe.refl _)
    rintro ⟨⟩ -

    refine awp_region (fun Z hZ => ?_)
    refine sx_move rfl rfl ?_
    first | refine sx_loadA 0 rfl rfl tyA47 tyS47 (by first | (simp only [List.length_cons, List.length_nil, Nat.reduceAdd, Nat.zero_add, Nat.add_zero]; first | done | rfl) | rfl) (by first | (simp only [List.take_succ_cons, List.take_zero, List.drop_succ_cons, List.drop_zero, List.cons_append, List.nil_append, List.append_nil, List.length_cons, List.length_nil, Nat.reduceAdd, Nat.zero_add, Nat.add_zero, Value.cells, wrV]; first | done | rfl) | rfl) rfl ?_ | refine sx_loadA 1 rfl rfl tyA47 tyS47 (by first | (simp only [List.length_cons, List.length_nil, Nat.reduceAdd, Nat.zero_add, Nat.add_zero]; first | done | rfl) | rfl) (by first | (simp only [List.take_succ_cons, List.take_zero, List.drop_succ_cons, List.drop_zero, List.cons_append, List.nil_append, List.append_nil, List.length_cons, List.length_nil, Nat.reduceAdd, Nat.zero_add, Nat.add_zero, Value.cells, wrV]; first | done | rfl) | rfl) rfl ?_ | refine sx_loadA 2 rfl rfl tyA47 tyS47 (by first | (simp only [List.length_cons, List.length_nil, Nat.reduceAdd, Nat.zero_add, Nat.add_zero]; first | done | rfl) | rfl) (by first | (simp only [List.take_succ_cons, List.take_zero, List.drop_succ_cons, List.drop_zero, List.cons_append, List.nil_append, List.append_nil, List.length_cons, List.length_nil, Nat.reduceAdd, Nat.zero_add, Nat.add_zero, Value.cells, wrV]; first | done | rfl) | rfl) rfl ?_
    refine sx_buildSlice Try.underlying42 tyS47 tyZ47 rfl rfl rfl rfl (by first | (simp only [List.take_succ_cons, List.take_zero, List.drop_succ_cons, List.drop_zero, List.cons_append, List.nil_append, List.append_nil, List.length_cons, List.length_nil, Nat.reduceAdd, Nat.zero_add, Nat.add_zero, Value.cells, wrV, zrep_one, List.replicate_succ, List.replicate_zero, Nat.reduceMul, Nat.zero_mul]; first | done | rfl) | rfl) rfl (fun g2 => ?_)
    refine sx_append elemKey rfl hv (by rw [kcells_len, List.length_take, Nat.min_eq_left hk]) rfl (fun w hw => rd_own (i := 0) (xs := [uq x.1.1, uq x.1.2]) rfl rfl hw) rfl (by show _ ≤ 9223372036854775807; omega) (by omega) (HLe.swap [_, _, _, _] _) rfl (fun v2 hv2 => ?_)
    obtain ⟨g4, c4, rfl⟩ := hv2.some (by omega)
    refine sx_assign rfl rfl ?_
    refine sx_nil (hZ _ _ ?_)
    refine nx_forget [(0, _), (3, _), (7, _), (8, _)] (Kn.cons rfl (Kn.cons rfl (Kn.cons rfl (Kn.cons rfl (Kn.nil))))) ?_
    repeat (with_reducible (first | refine nx_block_normal ?_ | refine nx_scope_normal ?_))
    with_reducible first | refine nx_normal ?_ | refine nx_normalM ?_
    refine awp_region (fun Z hZ => ?_)
    refine sx_add rfl rfl ((k + 1 : Nat) : Int) (by rw [IntWalk.i64_in _ (by omega)]; omega) rfl ?_
    refine sx_move rfl rfl ?_
    refine sx_nil (hZ _ _ ?_)
    refine nx_forget [(0, _), (3, _), (7, _), (8, _)] (Kn.cons rfl (Kn.cons rfl (Kn.cons rfl (Kn.cons rfl (Kn.nil))))) ?_
    refine nx_round (k + 1, .slice (some ⟨g4, 0, none⟩) (k + 1) c4) ⟨by omega, RowOk.mk _ _ _⟩ (by simp; omega) (Kn.cons rfl (Kn.cons rfl (Kn.cons rfl (Kn.cons rfl Kn.nil)))) (HLe.pick [3, 4, 0] (by simp) ?_)
    simp only [kcells, fm_take hx]
    rfl
  · refine awp_exit ?_
    repeat (with_reducible (first | refine nx_then_exit ?_ | refine nx_block_other (by decide) ?_ | refine nx_scope_exit ?_))
    with_reducible refine nx_block_exit ?_
    repeat (with_reducible (first | refine nx_block_normal ?_ | refine nx_scope_normal ?_))
    with_reducible first | refine nx_normal ?_ | refine nx_normalM ?_
    have hke : k = L.length := by simp at h; omega
    subst hke
    rw [List.take_length]
    rcases hv with ⟨rfl, h0⟩ | ⟨g4, c4, rfl⟩
    · refine awp_seq_region (fun Z hZ => ?_)
      refine sx_move rfl rfl ?_
      refine sx_callK [] [0, 1] (clip_fn (.slice none 0 0) L.length (kcells L) (.inl ⟨rfl, h0⟩)) rfl rfl (by simp) rfl ?_
      rintro v H' ⟨hv, rfl⟩
      rw [clipE_wr]
      refine sx_assign rfl rfl ?_
      refine sx_nil (hZ _ _ ?_)
      refine awp_forget [(2, _)] (Kn.cons rfl (Kn.nil)) ?_
      refine awp_ret ?_
      repeat (with_reducible (first | refine nx_then_ret ?_ | refine nx_block_ret ?_ | refine nx_scope_ret ?_))
      exact nx_ret1 rfl rfl ⟨hv, rfl⟩
    · refine awp_seq_region (fun Z hZ => ?_)
      refine sx_move rfl rfl ?_
      refine sx_callK [2] [0, 1] (clip_fn (.slice (some ⟨g4, 0, none⟩) L.length c4) L.length (kcells L) (RowOk.mk _ _ _)) rfl rfl (by simp) rfl ?_
      rintro v H' ⟨hv, rfl⟩
      rw [clipE_wr]
      refine sx_assign rfl rfl ?_
      refine sx_nil (hZ _ _ ?_)
      refine awp_forget [(2, _)] (Kn.cons rfl (Kn.nil)) ?_
      refine awp_ret ?_
      repeat (with_reducible (first | refine nx_then_ret ?_ | refine nx_block_ret ?_ | refine nx_scope_ret ?_))
      exact nx_ret1 rfl rfl ⟨hv, rfl⟩
end Go.Proofs.Ytjelakmndcecoaa.LI
