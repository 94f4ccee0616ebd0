/- The walks of merge.wrong and merge.Back. Conditions: the texts are not too long. -/
import Derived.Test.YtffahimbmpddpaaMg1
namespace Go.Proofs.Ytffahimbmpddpaa.V
open Go.RowKit
set_option linter.unusedVariables false
set_option linter.unusedSimpArgs false
set_option maxRecDepth 100000
/-- The ways of what ends a sequence meet in a family. -/
theorem awp_lastcut {P : Program} {N : Frm} {w0 : World} {Wr : List Nat} {fr : Fr} {H : Heap} {Q : Exit → Act → World → Prop} {c : Code} {ι : Type} (F : ι → Fr) (HH : ι → Heap) (I : ι → Prop)
    (hx : awp P N w0 Wr c fr H (Exit.then (fun a w => ∃ j, I j ∧ FrOk N (F j) a ∧ Sat w0 Wr (HH j) w) Q)) (hy : ∀ j, I j → nx N w0 Wr (F j) (HH j) Q .normal) : awp P N w0 Wr c fr H Q :=
  fun a w ha hw => wq_mono (fun e a w h => by
    cases e <;> first | exact h | (obtain ⟨j, hj, h1, h2⟩ := h; exact hy j hj a w h1 h2)) (hx a w ha hw)
theorem mwrong_fn (e : En) (he : e.ok) (ho : e.off ≤ 1099511627776) (many : Nat) (hm : many < 18446744073709551616) (data : List UInt8) (hd : data.length ≤ 1000000) :
    Fn Try.prog 32 [e.val, uq many, .string (str data)] [] fun v _ => v = iq (mwrQ e many data) := by
  obtain ⟨h1, h2, h3, h4⟩ := he
  refine Fn.enter (N := 29) Try.func32 rfl (by kernel_rfl) rfl (fun w0 => ?_)

  refine awp_seq_region (fun Z hZ => ?_)
  refine sx_box rfl rfl rfl (fun g1 => ?_)
  refine sx_assign rfl rfl ?_
  refine sx_nil (hZ _ _ ?_)
  refine awp_forget [(1, _), (2, _), (3, _)] (Kn.cons rfl (Kn.cons rfl (Kn.cons rfl (Kn.nil)))) ?_
  refine awp_seq (awp_block ?_)

  refine awp_seq_region (fun Z hZ => ?_)
  refine sx_fieldAddr rfl tyF63_3 (by first | (simp only [Nat.reduceAdd, Nat.add_zero, Nat.zero_add]; first | done | rfl) | rfl) rfl ?_
  first | refine sx_load 0 rfl rfl tyA61 tyS61 rfl rfl ?_
  refine sx_eql rfl rfl rfl ?_
  refine sx_assign rfl rfl ?_
  refine sx_nil (hZ _ _ ?_)
  refine awp_forget [(1, _), (2, _), (3, _), (7, _)] (Kn.cons rfl (Kn.cons rfl (Kn.cons rfl (Kn.cons rfl (Kn.nil))))) ?_
  refine awp_cond rfl (fun h => ?_) (fun h => ?_)
  · have h' : e.run = 0 := by simp at h; omega
    rw [show mwrQ e many data = 14 by unfold mwrQ; rw [if_pos h']]
    refine awp_seq_region (fun Z hZ => ?_)
    refine sx_assign rfl rfl ?_
    refine sx_nil (hZ _ _ ?_)
    refine awp_forget [(6, _)] (Kn.cons rfl (Kn.nil)) ?_
    refine awp_ret ?_
    repeat (with_reducible (first | refine nx_then_ret ?_ | refine nx_block_ret ?_))
    exact nx_ret1 rfl rfl rfl
  have h' : ¬ e.run = 0 := by simp at h; omega
  refine awp_seq_region (fun Z hZ => ?_)
  refine sx_fieldAddr rfl tyF63_1 (by first | (simp only [Nat.reduceAdd, Nat.add_zero, Nat.zero_add]; first | done | rfl) | rfl) rfl ?_
  first | refine sx_load 0 rfl rfl tyA46 tyS46 rfl rfl ?_
  refine sx_fieldAddr rfl tyF63_2 (by first | (simp only [Nat.reduceAdd, Nat.add_zero, Nat.zero_add]; first | done | rfl) | rfl) rfl ?_
  first | refine sx_load 0 rfl rfl tyA61 tyS61 rfl rfl ?_
  refine sx_conv Try.underlying61 Try.underlying46 rfl ((e.len : Nat) : Int) (by rw [IntWalk.u64_in _ (by omega)]) rfl ?_
  refine sx_add rfl rfl ((e.off + e.len : Nat) : Int) (by rw [IntWalk.u64_in _ (by omega)]; omega) rfl ?_
  refine sx_move rfl rfl ?_
  refine sx_lenS Try.underlying9 rfl rfl ?_
  refine sx_conv Try.underlying3 Try.underlying46 rfl ((data.length : Nat) : Int) (by rw [IntWalk.u64_in _ (by omega)]) rfl ?_
  refine sx_gtr rfl rfl rfl ?_
  refine sx_assign rfl rfl ?_
  refine sx_nil (hZ _ _ ?_)
  refine awp_forget [(1, _), (3, _), (11, _)] (Kn.cons rfl (Kn.cons rfl (Kn.cons rfl (Kn.nil)))) ?_
  refine awp_cond rfl (fun h2' => ?_) (fun h2' => ?_)
  · have h2' : data.length < e.off + e.len := by simp at h2'; omega
    rw [show mwrQ e many data = 8 by unfold mwrQ; rw [if_neg h', if_pos h2']]
    refine awp_seq_region (fun Z hZ => ?_)
    refine sx_assign rfl rfl ?_
    refine sx_nil (hZ _ _ ?_)
    refine awp_forget [(6, _)] (Kn.cons rfl (Kn.nil)) ?_
    refine awp_ret ?_
    repeat (with_reducible (first | refine nx_then_ret ?_ | refine nx_block_ret ?_))
    exact nx_ret1 rfl rfl rfl
  have h2' : ¬ data.length < e.off + e.len := by simp at h2'; omega
  refine awp_seq_region (fun Z hZ => ?_)
  refine sx_move rfl rfl ?_
  refine sx_gtr rfl rfl rfl ?_
  refine sx_assign rfl rfl ?_
  refine sx_nil (hZ _ _ ?_)
  refine awp_forget [(3, _), (22, _)] (Kn.cons rfl (Kn.cons rfl (Kn.nil))) ?_
  refine awp_cond rfl (fun h5 => ?_) (fun h5 => ?_)
  · have h5 : 2048 < many := by simp at h5; omega
    rw [show mwrQ e many data = 21 by unfold mwrQ; rw [if_neg h', if_neg h2', if_pos h5]]
    refine awp_seq_region (fun Z hZ => ?_)
    refine sx_assign rfl rfl ?_
    refine sx_nil (hZ _ _ ?_)
    refine awp_forget [(6, _)] (Kn.cons rfl (Kn.nil)) ?_
    refine awp_ret ?_
    repeat (with_reducible (first | refine nx_then_ret ?_ | refine nx_block_ret ?_))
    exact nx_ret1 rfl rfl rfl
  have h5 : ¬ 2048 < many := by simp at h5; omega
  refine awp_seq_region (fun Z hZ => ?_)
  refine sx_fieldAddr rfl tyF63_2 (by first | (simp only [Nat.reduceAdd, Nat.add_zero, Nat.zero_add]; first | done | rfl) | rfl) rfl ?_
  first | refine sx_load 0 rfl rfl tyA61 tyS61 rfl rfl ?_
  refine sx_gtr rfl rfl rfl ?_
  refine sx_assign rfl rfl ?_
  refine sx_nil (hZ _ _ ?_)
  refine awp_forget [(25, _)] (Kn.cons rfl (Kn.nil)) ?_
  refine awp_cond rfl (fun h6 => ?_) (fun h6 => ?_)
  · have h6 : 65536 < e.len := by simp at h6; omega
    rw [show mwrQ e many data = 5 by unfold mwrQ; rw [if_neg h', if_neg h2', if_neg h5, if_pos h6]]
    refine awp_seq_region (fun Z hZ => ?_)
    refine sx_assign rfl rfl ?_
    refine sx_nil (hZ _ _ ?_)
    refine awp_forget [(6, _)] (Kn.cons rfl (Kn.nil)) ?_
    refine awp_ret ?_
    repeat (with_reducible (first | refine nx_then_ret ?_ | refine nx_block_ret ?_))
    exact nx_ret1 rfl rfl rfl
  have h6 : ¬ 65536 < e.len := by simp at h6; omega
  rw [show mwrQ e many data = 0 by unfold mwrQ; rw [if_neg h', if_neg h2', if_neg h5, if_neg h6]]
  refine awp_skip ?_
  repeat (with_reducible refine nx_block_normal ?_)
  with_reducible refine nx_normal ?_
  refine awp_seq_region (fun Z hZ => ?_)
  refine sx_assign rfl rfl ?_
  refine sx_nil (hZ _ _ ?_)
  refine awp_forget [(6, _)] (Kn.cons rfl (Kn.nil)) ?_
  refine awp_ret ?_
  exact nx_ret1 rfl rfl rfl
theorem mrowQ_step {free : Nat} {e : En} {r : List En} (h : rowQ free (e :: r) = 0) : chkE e = 0 ∧ rowQ (lastE e + 1) r = 0 := by
  rw [rowQ] at h
  split at h
  · rename_i hc
    split at h
    · cases h
    · exact ⟨hc, h⟩
  · rename_i hc; exact absurd h hc
theorem mrowQ_at : ∀ (L : List En) (free : Nat), rowQ free L = 0 → ∀ e ∈ L, chkE e = 0
  | [], _, _, e, he => by cases he
  | x :: r, free, h, e, he => by
    obtain ⟨h1, h2⟩ := mrowQ_step h
    rcases List.mem_cons.1 he with rfl | he
    · exact h1
    · exact mrowQ_at r _ h2 e he
theorem micells_app (X Y : List It) : icells (X ++ Y) = icells X ++ icells Y := by simp [icells]
theorem mback_fn (A : Option Addr) (c : Nat) (L : List En) (T : Heap) (hA : ArgOk A L.length) (hT : 0 < L.length → T = roE A (ecells L)) (hro : Ro T) (hL : L.length ≤ maxLen) (hE : EnsOk L) (data : List UInt8) (hd : data.length ≤ 1000000) :
    Fn Try.prog 9 [.slice A L.length c, .string (str data)] T fun v H' => ∃ u, v = .tuple #[.agg #[u], iq (mbQ L data).1] ∧ RowOk u (mbQ L data).2.length ∧ H' = rowE u 59 2 (icells (mbQ L data).2) := by
  refine Fn.enter (N := 70) Try.func9 rfl (by kernel_rfl) rfl (fun w0 => ?_)

  refine awp_seq_region (fun Z hZ => ?_)
  refine sx_alloc tyZ28 rfl (fun g1 => ?_)
  refine sx_assign rfl rfl ?_
  refine sx_nil (hZ _ _ ?_)
  refine awp_forget [(0, _), (1, _), (4, _)] (Kn.cons rfl (Kn.cons rfl (Kn.cons rfl (Kn.nil)))) ?_

  refine awp_seq ?_
  refine awp_seq_region (fun Z hZ => ?_)
  refine sx_move rfl rfl ?_
  refine sx_callPT T (erow_fn A c L T hA hT hro hL hE) rfl (List.sublist_cons_self _ _) hro rfl ?_
  refine sx_assign rfl rfl ?_
  refine sx_nil (hZ _ _ ?_)
  refine awp_forget [(0, _), (1, _), (4, _), (6, _)] (Kn.cons rfl (Kn.cons rfl (Kn.cons rfl (Kn.cons rfl (Kn.nil))))) ?_
  refine awp_seq_region (fun Z hZ => ?_)
  refine sx_move rfl rfl ?_
  refine sx_neq rfl rfl rfl ?_
  refine sx_nil (hZ _ _ ?_)
  refine awp_forget [(0, _), (1, _), (4, _), (6, _), (17, _)] (Kn.cons rfl (Kn.cons rfl (Kn.cons rfl (Kn.cons rfl (Kn.cons rfl (Kn.nil)))))) ?_
  refine awp_cond rfl (fun h => ?_) (fun h => ?_)
  · have h' : ¬ rowC L = 0 := by simp at h; omega
    rw [show mbQ L data = (rowC L, []) by unfold mbQ; rw [if_neg h']]
    refine awp_seq_region (fun Z hZ => ?_)
    refine sx_build tyZ28 tyP28 rfl rfl (by first | (simp only [List.take_succ_cons, List.take_zero, List.drop_succ_cons, List.drop_zero, List.cons_append, List.nil_append, List.append_nil, List.length_cons, List.length_nil, Nat.reduceAdd, Nat.zero_add, Nat.add_zero, Value.cells, wrV, zrep_one, List.replicate_succ, List.replicate_zero, Nat.reduceMul, Nat.zero_mul]; first | done | rfl) | rfl) rfl ?_
    refine sx_move rfl rfl ?_
    first | refine sx_store 0 rfl rfl rfl tyS28 (by first | (simp only [Value.cells]; first | done | rfl) | rfl) rfl rfl (by first | (simp only [List.length_cons, List.length_nil, Nat.reduceAdd, Nat.zero_add, Nat.add_zero]; first | done | rfl) | rfl) (by first | (simp only [List.take_succ_cons, List.take_zero, List.drop_succ_cons, List.drop_zero, List.cons_append, List.nil_append, List.append_nil, List.length_cons, List.length_nil, Nat.reduceAdd, Nat.zero_add, Nat.add_zero, Value.cells, wrV]; first | done | rfl) | rfl) (by first | (simp only [List.set_cons_succ, List.set_cons_zero]; first | done | rfl) | rfl) ?_
    refine sx_assign rfl rfl ?_
    refine sx_nil (hZ _ _ ?_)
    refine awp_forget [(4, _), (5, _)] (Kn.cons rfl (Kn.cons rfl (Kn.nil))) ?_
    refine awp_ret ?_
    repeat (with_reducible refine nx_then_ret ?_)
    exact nx_ret2h [] rfl (ResOk.cell 0 rfl rfl tyA28 tyS28 rfl) rfl (HLe.sub (List.nil_sublist _)) ⟨_, rfl, RowOk.nil, rfl⟩
  have h' : rowC L = 0 := by simp at h; omega
  have hq : rowQ 0 L = 0 ∧ L.length ≤ 4096 := by
    unfold rowC at h'
    split at h'
    · cases h'
    · exact ⟨h', by omega⟩
  have hat := mrowQ_at L 0 hq.1
  have hmb : mbQ L data = mbR data 0 [] L := by unfold mbQ; rw [if_pos h']
  have hokM := mb_ok hE data
  rw [hmb] at hokM ⊢
  refine awp_skip ?_
  with_reducible refine nx_normal ?_
  refine awp_seq_region (fun Z hZ => ?_)
  refine sx_assign rfl rfl ?_
  refine sx_nil (hZ _ _ ?_)
  refine awp_forget [(0, _), (1, _), (4, _), (7, _)] (Kn.cons rfl (Kn.cons rfl (Kn.cons rfl (Kn.cons rfl (Kn.nil))))) ?_
  refine awp_seq_region (fun Z hZ => ?_)
  refine sx_assign rfl rfl ?_
  refine sx_nil (hZ _ _ ?_)
  refine awp_forget [(0, _), (1, _), (4, _), (7, _), (8, _)] (Kn.cons rfl (Kn.cons rfl (Kn.cons rfl (Kn.cons rfl (Kn.cons rfl (Kn.nil)))))) ?_
  refine awp_seq ?_
  refine awp_seq_region (fun Z hZ => ?_)
  refine sx_move rfl rfl ?_
  refine sx_len Try.underlying24 rfl rfl ?_
  refine sx_move rfl rfl ?_
  refine sx_nil (hZ _ _ ?_)
  refine awp_forget [(1, _), (4, _), (7, _), (8, _), (20, _), (21, _), (22, _)] (Kn.cons rfl (Kn.cons rfl (Kn.cons rfl (Kn.cons rfl (Kn.cons rfl (Kn.cons rfl (Kn.cons rfl (Kn.nil)))))))) ?_
  refine awp_block ?_
  refine awp_loop (ι := Nat × Nat × Value × List It) (fun s => [(1, .string (str data)), (4, ptr g1 0), (7, uq s.2.1), (8, s.2.2.1), (20, .slice A L.length c), (21, iq (L.length : Nat)), (22, iq (s.1 : Nat))]) (fun s => .own g1 28 [.slice none 0 0] :: (T ++ rowE s.2.2.1 59 2 (icells s.2.2.2)))
    (fun s => s.1 ≤ L.length ∧ RowOk s.2.2.1 s.2.2.2.length ∧ s.2.2.2.length = s.2.1 ∧ s.2.1 ≤ 2048 ∧ mbR data s.2.1 s.2.2.2 (L.drop s.1) = mbR data 0 [] L) (fun s => L.length - s.1) (0, 0, .slice none 0 0, []) ⟨by simp, RowOk.nil, rfl, Nat.zero_le _, rfl⟩ (Kn.cons rfl (Kn.cons rfl (Kn.cons rfl (Kn.cons rfl (Kn.cons rfl (Kn.cons rfl (Kn.cons rfl Kn.nil))))))) (by simp [rowE]; exact HLe.refl _) ?_
  rintro ⟨i, many, v, X⟩ ⟨hi, hv, hXl, hmn, hqq⟩
  simp only at hi hv hXl hmn hqq
  refine awp_seq_region (fun Z hZ => ?_)
  refine sx_lss rfl rfl rfl ?_
  refine sx_nil (hZ _ _ ?_)
  refine awp_forget [(1, _), (4, _), (7, _), (8, _), (20, _), (21, _), (22, _), (23, _)] (Kn.cons rfl (Kn.cons rfl (Kn.cons rfl (Kn.cons rfl (Kn.cons rfl (Kn.cons rfl (Kn.cons rfl (Kn.cons rfl (Kn.nil))))))))) ?_
  refine awp_seq (awp_cond rfl (fun h2 => ?_) (fun h2 => ?_))
  · have hlt : i < L.length := by simpa using h2
    obtain ⟨x, hx⟩ : ∃ x, L[i]? = some x := ⟨_, List.getElem?_eq_getElem hlt⟩
    have hxm := List.mem_of_getElem? hx
    have hxo := hE x hxm
    obtain ⟨c1, c2, c3, c4⟩ := chk_ok hxo (hat x hxm)
    obtain ⟨k1, k2, k3, k4⟩ := hxo
    have hdr : L.drop i = x :: L.drop (i + 1) := by rw [List.drop_eq_getElem_cons hlt]; congr 1; exact (List.getElem?_eq_some_iff.1 hx).2
    rw [hdr, mbR] at hqq
    obtain ⟨w, hw⟩ : ∃ w, mwrQ x (many + x.run) data = w := ⟨_, rfl⟩
    have hwf := mwrong_fn x (hE x hxm) c3 (many + x.run) (by omega) data hd
    rw [hw] at hqq hwf
    obtain ⟨g, o, rfl⟩ := hA (by omega)
    obtain rfl := hT (by omega)
    refine awp_heap (.own g1 28 [.slice none 0 0] :: .ro g o (ecells L) :: rowE v 59 2 (icells X)) (HLe.refl _) ?_
    refine awp_skip ?_
    with_reducible refine nx_normal ?_
    refine awp_seq (awp_block ?_)

    refine awp_seq_region (fun Z hZ => ?_)
    refine sx_indexAddr (o + i * 4) Try.underlying24 tyS63 rfl rfl (by first | omega | (simp; omega)) (by simp) rfl ?_
    refine sx_loadRo 1 rfl rfl (i * 4) rfl tyA63 tyS63 (ecells_all hx) rfl ?_
    refine sx_alloc tyZ63 rfl (fun g2 => ?_)
    refine sx_store 0 rfl rfl rfl tyS63 (by first | (simp only [Value.cells]; first | done | rfl) | rfl) rfl rfl (by first | (simp only [List.length_cons, List.length_nil, Nat.reduceAdd, Nat.zero_add, Nat.add_zero]; first | done | rfl) | rfl) (by first | (simp only [List.take_succ_cons, List.take_zero, List.drop_succ_cons, List.drop_zero, List.cons_append, List.nil_append, List.append_nil, List.length_cons, List.length_nil, Nat.reduceAdd, Nat.zero_add, Nat.add_zero, Value.cells, wrV]; first | done | rfl) | rfl) (by first | (simp only [List.set_cons_succ, List.set_cons_zero]; first | done | rfl) | rfl) ?_
    refine sx_nil (hZ _ _ ?_)
    refine awp_forget [(1, _), (4, _), (7, _), (8, _), (10, _), (20, _), (21, _), (22, _)] (Kn.cons rfl (Kn.cons rfl (Kn.cons rfl (Kn.cons rfl (Kn.cons rfl (Kn.cons rfl (Kn.cons rfl (Kn.cons rfl (Kn.nil))))))))) ?_

    refine awp_seq_region (fun Z hZ => ?_)
    refine sx_move rfl rfl ?_
    refine sx_fieldAddr rfl tyF63_3 (by first | (simp only [Nat.reduceAdd, Nat.add_zero, Nat.zero_add]; first | done | rfl) | rfl) rfl ?_
    refine sx_load 0 rfl rfl tyA61 tyS61 rfl rfl ?_
    refine sx_conv Try.underlying61 Try.underlying46 rfl ((x.run : Nat) : Int) (by rw [IntWalk.u64_in _ (by omega)]) rfl ?_
    refine sx_add rfl rfl ((many + x.run : Nat) : Int) (by show IntKind.u64.wrap (((many : Nat) : Int) + ((x.run : Nat) : Int)) = _; rw [IntWalk.u64_in _ (by omega)]; omega) rfl ?_
    refine sx_assign rfl rfl ?_
    refine sx_nil (hZ _ _ ?_)
    refine awp_forget [(1, _), (4, _), (7, _), (8, _), (10, _), (20, _), (21, _), (22, _)] (Kn.cons rfl (Kn.cons rfl (Kn.cons rfl (Kn.cons rfl (Kn.cons rfl (Kn.cons rfl (Kn.cons rfl (Kn.cons rfl (Kn.nil))))))))) ?_
    refine awp_seq ?_
    refine awp_seq_region (fun Z hZ => ?_)
    refine sx_loadA 0 rfl rfl tyA63 tyS63 (by first | (simp only [List.length_cons, List.length_nil, Nat.reduceAdd, Nat.zero_add, Nat.add_zero]; first | done | rfl) | rfl) (by first | (simp only [List.take_succ_cons, List.take_zero, List.drop_succ_cons, List.drop_zero, List.cons_append, List.nil_append, List.append_nil, List.length_cons, List.length_nil, Nat.reduceAdd, Nat.zero_add, Nat.add_zero, Value.cells, wrV]; first | done | rfl) | rfl) rfl ?_
    refine sx_move rfl rfl ?_
    refine sx_move rfl rfl ?_
    refine sx_callP hwf rfl rfl ?_
    refine sx_assign rfl rfl ?_
    refine sx_nil (hZ _ _ ?_)
    refine awp_forget [(1, _), (4, _), (7, _), (8, _), (10, _), (11, _), (20, _), (21, _), (22, _)] (Kn.cons rfl (Kn.cons rfl (Kn.cons rfl (Kn.cons rfl (Kn.cons rfl (Kn.cons rfl (Kn.cons rfl (Kn.cons rfl (Kn.cons rfl (Kn.nil)))))))))) ?_
    refine awp_seq_region (fun Z hZ => ?_)
    refine sx_move rfl rfl ?_
    refine sx_neq rfl rfl rfl ?_
    refine sx_nil (hZ _ _ ?_)
    refine awp_forget [(1, _), (4, _), (7, _), (8, _), (10, _), (11, _), (20, _), (21, _), (22, _), (36, _)] (Kn.cons rfl (Kn.cons rfl (Kn.cons rfl (Kn.cons rfl (Kn.cons rfl (Kn.cons rfl (Kn.cons rfl (Kn.cons rfl (Kn.cons rfl (Kn.cons rfl (Kn.nil))))))))))) ?_
    refine awp_cond rfl (fun h3 => ?_) (fun h3 => ?_)
    · have h3' : ¬ w = 0 := by simp at h3; omega
      rw [if_neg h3'] at hqq
      rw [← hqq]
      refine awp_seq_region (fun Z hZ => ?_)
      refine sx_build tyZ28 tyP28 rfl rfl (by first | (simp only [List.take_succ_cons, List.take_zero, List.drop_succ_cons, List.drop_zero, List.cons_append, List.nil_append, List.append_nil, List.length_cons, List.length_nil, Nat.reduceAdd, Nat.zero_add, Nat.add_zero, Value.cells, wrV, zrep_one, List.replicate_succ, List.replicate_zero, Nat.reduceMul, Nat.zero_mul]; first | done | rfl) | rfl) rfl ?_
      refine sx_move rfl rfl ?_
      refine sx_store 1 rfl rfl rfl tyS28 (by first | (simp only [Value.cells]; first | done | rfl) | rfl) rfl rfl (by first | (simp only [List.length_cons, List.length_nil, Nat.reduceAdd, Nat.zero_add, Nat.add_zero]; first | done | rfl) | rfl) (by first | (simp only [List.take_succ_cons, List.take_zero, List.drop_succ_cons, List.drop_zero, List.cons_append, List.nil_append, List.append_nil, List.length_cons, List.length_nil, Nat.reduceAdd, Nat.zero_add, Nat.add_zero, Value.cells, wrV]; first | done | rfl) | rfl) (by first | (simp only [List.set_cons_succ, List.set_cons_zero]; first | done | rfl) | rfl) ?_
      refine sx_assign rfl rfl ?_
      refine sx_nil (hZ _ _ ?_)
      refine awp_forget [(4, _), (5, _)] (Kn.cons rfl (Kn.cons rfl (Kn.nil))) ?_
      refine awp_ret ?_
      repeat (with_reducible (first | refine nx_then_ret ?_ | refine nx_block_ret ?_))
      exact nx_ret2h [] rfl (ResOk.cell 1 rfl rfl tyA28 tyS28 rfl) rfl (HLe.sub (List.nil_sublist _)) ⟨_, rfl, RowOk.nil, rfl⟩
    have h3' : w = 0 := by simp at h3; omega
    rw [if_pos h3'] at hqq
    obtain ⟨w1, w2, w3, w4⟩ := mwr_zero (hw.trans h3')
    obtain ⟨tx, htx⟩ : ∃ tx, txOf x data = tx := ⟨_, rfl⟩
    have hil := its_len x data
    have hitk : ∀ k, k < x.run → icells (X ++ (itsOf x data).take (k + 1)) = icells (X ++ (itsOf x data).take k) ++ (⟨x.id + k, tx⟩ : It).cells := fun k hk => by
      rw [its_take hk, htx, ← List.append_assoc, micells_app (X ++ (itsOf x data).take k)]
      simp [icells]
    refine awp_skip ?_
    with_reducible refine nx_normal ?_
    refine awp_seq_region (fun Z hZ => ?_)
    refine sx_move rfl rfl ?_
    refine sx_fieldAddr rfl tyF63_1 (by first | (simp only [Nat.reduceAdd, Nat.add_zero, Nat.zero_add]; first | done | rfl) | rfl) rfl ?_
    refine sx_load 0 rfl rfl tyA46 tyS46 rfl rfl ?_
    refine sx_fieldAddr rfl tyF63_1 (by first | (simp only [Nat.reduceAdd, Nat.add_zero, Nat.zero_add]; first | done | rfl) | rfl) rfl ?_
    refine sx_load 0 rfl rfl tyA46 tyS46 rfl rfl ?_
    refine sx_fieldAddr rfl tyF63_2 (by first | (simp only [Nat.reduceAdd, Nat.add_zero, Nat.zero_add]; first | done | rfl) | rfl) rfl ?_
    refine sx_load 0 rfl rfl tyA61 tyS61 rfl rfl ?_
    refine sx_conv Try.underlying61 Try.underlying46 rfl ((x.len : Nat) : Int) (by rw [IntWalk.u64_in _ (by omega)]) rfl ?_
    refine sx_add rfl rfl ((x.off + x.len : Nat) : Int) (by rw [IntWalk.u64_in _ (by omega)]; omega) rfl ?_
    refine sx_sliceS tx Try.underlying9 rfl rfl rfl (by omega) (by omega) (by omega) (by rw [← htx]; unfold txOf; simp only [Int.toNat_natCast]; rw [Nat.add_sub_cancel_left]) rfl ?_
    refine sx_assign rfl rfl ?_
    refine sx_nil (hZ _ _ ?_)
    refine awp_forget [(1, _), (4, _), (7, _), (8, _), (10, _), (12, _), (20, _), (21, _), (22, _)] (Kn.cons rfl (Kn.cons rfl (Kn.cons rfl (Kn.cons rfl (Kn.cons rfl (Kn.cons rfl (Kn.cons rfl (Kn.cons rfl (Kn.cons rfl (Kn.nil)))))))))) ?_
    refine awp_seq_region (fun Z hZ => ?_)
    refine sx_fieldAddr rfl tyF63_3 (by first | (simp only [Nat.reduceAdd, Nat.add_zero, Nat.zero_add]; first | done | rfl) | rfl) rfl ?_
    refine sx_load 0 rfl rfl tyA61 tyS61 rfl rfl ?_
    refine sx_move rfl rfl ?_
    refine sx_nil (hZ _ _ ?_)
    refine awp_forget [(1, _), (4, _), (7, _), (8, _), (10, _), (12, _), (20, _), (21, _), (22, _), (50, _), (51, _)] (Kn.cons rfl (Kn.cons rfl (Kn.cons rfl (Kn.cons rfl (Kn.cons rfl (Kn.cons rfl (Kn.cons rfl (Kn.cons rfl (Kn.cons rfl (Kn.cons rfl (Kn.cons rfl (Kn.nil)))))))))))) ?_
    refine awp_lastcut (ι := Value) (fun u => [(1, .string (str data)), (4, ptr g1 0), (7, uq (many + x.run)), (8, u), (20, .slice (some ⟨g, o, none⟩) L.length c), (21, iq (L.length : Nat)), (22, iq (i : Nat))]) (fun u => .own g2 63 x.cells :: .own g1 28 [.slice none 0 0] :: .ro g o (ecells L) :: rowE u 59 2 (icells (X ++ itsOf x data))) (fun u => RowOk u (X ++ itsOf x data).length) ?_ ?_
    · refine awp_block ?_
      refine awp_loop (ι := Nat × Value) (fun s => [(1, .string (str data)), (4, ptr g1 0), (7, uq (many + x.run)), (8, s.2), (10, ptr g2 0), (12, .string (str tx)), (20, .slice (some ⟨g, o, none⟩) L.length c), (21, iq (L.length : Nat)), (22, iq (i : Nat)), (50, wq4 x.run), (51, wq4 s.1)]) (fun s => .own g2 63 x.cells :: .own g1 28 [.slice none 0 0] :: .ro g o (ecells L) :: rowE s.2 59 2 (icells (X ++ (itsOf x data).take s.1)))
        (fun s => s.1 ≤ x.run ∧ RowOk s.2 (X.length + s.1)) (fun s => x.run - s.1) (0, v) ⟨by simp, hv⟩ (Kn.cons rfl (Kn.cons rfl (Kn.cons rfl (Kn.cons rfl (Kn.cons rfl (Kn.cons rfl (Kn.cons rfl (Kn.cons rfl (Kn.cons rfl (Kn.cons rfl (Kn.cons rfl Kn.nil))))))))))) (by simp; exact HLe.refl _) ?_
      rintro ⟨k, u⟩ ⟨hk, hu⟩
      simp only at hk hu

      refine awp_seq_region (fun Z hZ => ?_)
      refine sx_lss rfl rfl rfl ?_
      refine sx_nil (hZ _ _ ?_)
      refine awp_forget [(1, _), (4, _), (7, _), (8, _), (10, _), (12, _), (20, _), (21, _), (22, _), (50, _), (51, _), (52, _)] (Kn.cons rfl (Kn.cons rfl (Kn.cons rfl (Kn.cons rfl (Kn.cons rfl (Kn.cons rfl (Kn.cons rfl (Kn.cons rfl (Kn.cons rfl (Kn.cons rfl (Kn.cons rfl (Kn.cons rfl (Kn.nil))))))))))))) ?_
      refine awp_seq (awp_cond rfl (fun h4 => ?_) (fun h4 => ?_))
      · have hkl : k < x.run := by simp at h4; omega
        have hlenk : (X ++ (itsOf x data).take k).length = X.length + k := by rw [List.length_append, List.length_take, hil]; omega
        refine awp_skip ?_
        with_reducible refine nx_normal ?_
        refine awp_seq (awp_block ?_)
        refine awp_seq_region (fun Z hZ => ?_)
        refine sx_move rfl rfl ?_
        refine sx_assign rfl rfl ?_
        refine sx_nil (hZ _ _ ?_)
        refine awp_forget [(1, _), (4, _), (7, _), (8, _), (10, _), (12, _), (13, _), (20, _), (21, _), (22, _), (50, _), (51, _)] (Kn.cons rfl (Kn.cons rfl (Kn.cons rfl (Kn.cons rfl (Kn.cons rfl (Kn.cons rfl (Kn.cons rfl (Kn.cons rfl (Kn.cons rfl (Kn.cons rfl (Kn.cons rfl (Kn.cons rfl (Kn.nil))))))))))))) ?_
        refine awp_region (fun Z hZ => ?_)
        refine sx_move rfl rfl ?_
        refine sx_fieldAddr rfl tyF63_0 (by first | (simp only [Nat.reduceAdd, Nat.add_zero, Nat.zero_add]; first | done | rfl) | rfl) rfl ?_
        refine sx_load 0 rfl rfl tyA46 tyS46 rfl rfl ?_
        refine sx_move rfl rfl ?_
        refine sx_conv Try.underlying61 Try.underlying46 rfl ((k : Nat) : Int) (by rw [IntWalk.u64_in _ (by omega)]) rfl ?_
        refine sx_add rfl rfl ((x.id + k : Nat) : Int) (by rw [IntWalk.u64_in _ (by unfold En.wide at c2; omega)]; omega) rfl ?_
        refine sx_move rfl rfl ?_
        refine sx_build tyZ59 tyP59 rfl rfl (by first | (simp only [List.take_succ_cons, List.take_zero, List.drop_succ_cons, List.drop_zero, List.cons_append, List.nil_append, List.append_nil, List.length_cons, List.length_nil, Nat.reduceAdd, Nat.zero_add, Nat.add_zero, Value.cells, wrV, zrep_one, List.replicate_succ, List.replicate_zero, Nat.reduceMul, Nat.zero_mul]; first | done | rfl) | rfl) rfl ?_
        refine sx_buildSlice Try.underlying26 tyS59 tyZ59 rfl rfl rfl rfl (by first | (simp only [List.take_succ_cons, List.take_zero, List.drop_succ_cons, List.drop_zero, List.cons_append, List.nil_append, List.append_nil, List.length_cons, List.length_nil, Nat.reduceAdd, Nat.zero_add, Nat.add_zero, Value.cells, wrV, zrep_one, List.replicate_succ, List.replicate_zero, Nat.reduceMul, Nat.zero_mul]; first | done | rfl) | rfl) rfl (fun g3 => ?_)
        refine sx_appendE [_, _, _, _] elemIt rfl hu (by rw [icells_len, hlenk]) rfl (fun w hw => rd_own (i := 0) (xs := (⟨x.id + k, tx⟩ : It).cells) rfl rfl hw) rfl (by show _ ≤ 9223372036854775807; omega) (by omega) (HLe.refl _) rfl (fun v2 hv2 => ?_)
        refine sx_assign rfl rfl ?_
        refine sx_nil (hZ _ _ ?_)
        refine nx_forget [(1, _), (4, _), (7, _), (8, _), (10, _), (12, _), (20, _), (21, _), (22, _), (50, _), (51, _)] (Kn.cons rfl (Kn.cons rfl (Kn.cons rfl (Kn.cons rfl (Kn.cons rfl (Kn.cons rfl (Kn.cons rfl (Kn.cons rfl (Kn.cons rfl (Kn.cons rfl (Kn.cons rfl (Kn.nil)))))))))))) ?_
        repeat (with_reducible refine nx_block_normal ?_)
        with_reducible refine nx_normal ?_
        refine awp_region (fun Z hZ => ?_)
        refine sx_add rfl rfl ((k + 1 : Nat) : Int) (by rw [IntWalk.u32_in _ (by omega)]; omega) rfl ?_
        refine sx_move rfl rfl ?_
        refine sx_nil (hZ _ _ ?_)
        refine nx_forget [(1, _), (4, _), (7, _), (8, _), (10, _), (12, _), (20, _), (21, _), (22, _), (50, _), (51, _)] (Kn.cons rfl (Kn.cons rfl (Kn.cons rfl (Kn.cons rfl (Kn.cons rfl (Kn.cons rfl (Kn.cons rfl (Kn.cons rfl (Kn.cons rfl (Kn.cons rfl (Kn.cons rfl (Kn.nil)))))))))))) ?_
        refine nx_round (k + 1, v2) ⟨hkl, hv2⟩ (by simp; omega) (Kn.cons rfl (Kn.cons rfl (Kn.cons rfl (Kn.cons rfl (Kn.cons rfl (Kn.cons rfl (Kn.cons rfl (Kn.cons rfl (Kn.cons rfl (Kn.cons rfl (Kn.cons rfl Kn.nil))))))))))) ?_
        simp only
        rw [hitk k hkl]
        exact HLe.drop 1 rfl
      · have hke : k = x.run := by simp at h4; omega
        subst hke
        refine awp_exit ?_
        repeat (with_reducible refine nx_then_exit ?_)
        with_reducible refine nx_block_exit ?_
        refine nx_cut u (by rw [List.length_append, hil]; exact hu) (Kn.cons rfl (Kn.cons rfl (Kn.cons rfl (Kn.cons rfl (Kn.cons rfl (Kn.cons rfl (Kn.cons rfl Kn.nil))))))) ?_
        simp only
        rw [List.take_of_length_le (Nat.le_of_eq hil)]
        exact HLe.refl _
    intro u hu
    repeat (with_reducible refine nx_block_normal ?_)
    with_reducible refine nx_normal ?_

    refine awp_region (fun Z hZ => ?_)
    refine sx_add rfl rfl ((i + 1 : Nat) : Int) (by rw [IntWalk.i64_in _ (by omega)]; omega) rfl ?_
    refine sx_move rfl rfl ?_
    refine sx_nil (hZ _ _ ?_)
    refine nx_forget [(1, _), (4, _), (7, _), (8, _), (20, _), (21, _), (22, _)] (Kn.cons rfl (Kn.cons rfl (Kn.cons rfl (Kn.cons rfl (Kn.cons rfl (Kn.cons rfl (Kn.cons rfl (Kn.nil)))))))) ?_
    exact nx_round (i + 1, many + x.run, u, X ++ itsOf x data) ⟨hlt, hu, by rw [List.length_append, hil, hXl], w3, hqq⟩ (by simp; omega) (Kn.cons rfl (Kn.cons rfl (Kn.cons rfl (Kn.cons rfl (Kn.cons rfl (Kn.cons rfl (Kn.cons rfl Kn.nil))))))) (HLe.drop 1 rfl)
  · refine awp_exit ?_
    repeat (with_reducible refine nx_then_exit ?_)
    with_reducible refine nx_block_exit ?_
    with_reducible refine nx_normal ?_
    have hke : i = L.length := by simp at h2; omega
    subst hke
    rw [List.drop_length, mbR] at hqq
    rw [← hqq] at hokM ⊢
    simp only at hokM ⊢
    obtain ⟨q1, q2⟩ := of_perm hokM (List.Perm.refl X)
    have hso : sortI X = X := by
      unfold ofL at q2
      rw [if_pos q1] at q2
      exact q2
    obtain ⟨AX, cX, rfl, hAX, hleX⟩ := hv.ro
    have hof := cof_fn AX cX X (roE AX (icells X)) hAX.arg (fun _ => rfl) (Ro.roE _ _) (by omega)
    rw [q1, hso] at hof

    refine awp_seq_region (fun Z hZ => ?_)
    refine sx_move rfl rfl ?_
    refine sx_callVU (roE AX (icells X)) hof rfl ((row_view hleX (_ :: T) _ _ _).trans (HLe.refl _)) (Ro.roE _ _) rfl ?_
    rintro v H' ⟨u, rfl, ⟨_, hu, rfl⟩ | ⟨hbad, _⟩⟩
    rotate_left
    exact absurd rfl hbad
    rw [rowE_flt]
    refine sx_heap _ (HLe.swap _ _) ?_
    obtain ⟨A2, c2, rfl, _⟩ := hu.form
    refine sx_extract rfl rfl rfl ?_
    refine sx_extract rfl rfl rfl ?_
    first | refine sx_store 0 rfl rfl rfl tyS28 (by first | (simp only [Value.cells]; first | done | rfl) | rfl) rfl rfl (by first | (simp only [List.length_cons, List.length_nil, Nat.reduceAdd, Nat.zero_add, Nat.add_zero]; first | done | rfl) | rfl) (by first | (simp only [List.take_succ_cons, List.take_zero, List.drop_succ_cons, List.drop_zero, List.cons_append, List.nil_append, List.append_nil, List.length_cons, List.length_nil, Nat.reduceAdd, Nat.zero_add, Nat.add_zero, Value.cells, wrV]; first | done | rfl) | rfl) (by first | (simp only [List.set_cons_succ, List.set_cons_zero]; first | done | rfl) | rfl) ?_
    refine sx_assign rfl rfl ?_
    refine sx_nil (hZ _ _ ?_)
    refine awp_forget [(4, _), (5, _)] (Kn.cons rfl (Kn.cons rfl (Kn.nil))) ?_
    refine awp_ret ?_
    exact nx_ret2h (rowE _ 59 2 (icells X)) rfl (ResOk.cell 0 rfl rfl tyA28 tyS28 rfl) rfl (HLe.sub (List.sublist_append_right (_ :: (T ++ _)) _)) ⟨_, rfl, hu, rfl⟩
end Go.Proofs.Ytffahimbmpddpaa.V
