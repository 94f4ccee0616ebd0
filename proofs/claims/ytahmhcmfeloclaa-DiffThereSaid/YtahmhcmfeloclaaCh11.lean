/- The walk of chart.Of. Conditions: the lists are not too long. -/
import Derived.Test.YtahmhcmfeloclaaCh10
import Derived.Test.YtahmhcmfeloclaaLaySort
namespace Go.Proofs.Ytahmhcmfeloclaa
open Go.RowKit
set_option linter.unusedVariables false
set_option linter.unusedSimpArgs false
theorem keyU : KeyOk Try.prog 51 (fun k : Nat => uq k) where
  eq a b w := by
    have h : ((a : Int) = (b : Int)) ↔ a = b := by omega
    simp [go_sem, Op.equal, Op.maxDepth, run_underlying Try.underlying51]
    rw [Bool.eq_iff_iff]
    simp [h]
  chk e a w := by
    rw [show (10000 : Nat) = 9999 + 1 from rfl, Instr.checkKey]
    simp [run_underlying Try.underlying51]
  und := ⟨_, Try.underlying51, .inr fun a b => by
    have h : ((a : Int) = (b : Int)) ↔ a = b := by omega
    simp only [Instr.sameNow, if_true]
    congr 1
    rw [Bool.eq_iff_iff]
    simp [h]⟩
  same a := by simp [Instr.sameBits]
theorem zeroI (w : World) : (zeroValue 3).run Try.prog w = .ok (iq (0 : Nat)) w := by kernel_rfl
/-- A map that counts what was seen. -/
def CntOk (M : List (Nat × Nat)) (seen : List Nat) : Prop := ∀ k, aget M k = if k ∈ seen then some 1 else none
theorem cnt_get {M : List (Nat × Nat)} {seen : List Nat} (h : CntOk M seen) (k : Nat) : (if false = true then Value.tuple #[((aget M k).map fun n : Nat => iq n).getD (iq (0 : Nat)), .bool (aget M k).isSome] else ((aget M k).map fun n : Nat => iq n).getD (iq (0 : Nat))) = iq ((if k ∈ seen then 1 else 0 : Nat) : Nat) := by
  rw [h k]
  by_cases hk : k ∈ seen <;> simp [hk]
theorem look_put (M : List (Nat × Nat)) (k v : Nat) : (if false = true then Value.tuple #[((aget (aput M k v) k).map fun n : Nat => iq n).getD (iq (0 : Nat)), .bool (aget (aput M k v) k).isSome] else ((aget (aput M k v) k).map fun n : Nat => iq n).getD (iq (0 : Nat))) = iq (v : Nat) := by
  rw [aget_put, if_pos rfl]
  rfl
theorem cof_fn (A : Option Addr) (c : Nat) (L : List It) (T : Heap) (hA : ArgOk A L.length) (hT : 0 < L.length → T = roE A (icells L)) (hro : Ro T) (hL : L.length ≤ 100000) :
    Fn Try.prog 24 [.slice A L.length c] T fun v H' => ∃ u, v = .tuple #[.agg #[u], iq (ofQ L)] ∧ ((ofQ L = 0 ∧ RowOk u (sortI L).length ∧ H' = rowE u 60 2 (icells (sortI L))) ∨ (ofQ L ≠ 0 ∧ u = .slice none 0 0 ∧ H' = [])) := by
  refine Fn.enter (N := 48) Try.func24 rfl (by kernel_rfl) rfl (fun w0 => ?_)

  refine awp_seq_region (fun Z hZ => ?_)
  refine sx_alloc tyZ29 rfl (fun g1 => ?_)
  refine sx_assign rfl rfl ?_
  refine sx_nil (hZ _ _ ?_)
  refine awp_forget [(0, _), (2, _)] (Kn.cons rfl (Kn.cons rfl (Kn.nil))) ?_
  refine awp_seq_region (fun Z hZ => ?_)
  refine sx_makeMap rfl (fun k : Nat => uq k) (fun n : Nat => iq n) (fun b => ?_)
  refine sx_assign rfl rfl ?_
  refine sx_nil (hZ _ _ ?_)
  refine awp_forget [(0, _), (2, _), (4, _)] (Kn.cons rfl (Kn.cons rfl (Kn.cons rfl (Kn.nil)))) ?_
  refine awp_seq_region (fun Z hZ => ?_)
  refine sx_assign rfl rfl ?_
  refine sx_nil (hZ _ _ ?_)
  refine awp_forget [(0, _), (2, _), (4, _), (5, _)] (Kn.cons rfl (Kn.cons rfl (Kn.cons rfl (Kn.cons rfl (Kn.nil))))) ?_
  refine awp_seq ?_
  refine awp_seq_region (fun Z hZ => ?_)
  refine sx_move rfl rfl ?_
  first | refine sx_len Try.underlying27 rfl rfl ?_ | refine sx_lenS Try.underlying27 rfl rfl ?_
  refine sx_move rfl rfl ?_
  refine sx_nil (hZ _ _ ?_)
  refine awp_forget [(2, _), (4, _), (5, _), (10, _), (11, _), (12, _)] (Kn.cons rfl (Kn.cons rfl (Kn.cons rfl (Kn.cons rfl (Kn.cons rfl (Kn.cons rfl (Kn.nil))))))) ?_
  refine awp_block ?_
  refine awp_loop (ι := Nat × Value × List (Nat × Nat)) (fun i => [(2, ptr g1 0), (4, .map (some b)), (5, i.2.1), (10, .slice A L.length c), (11, iq (L.length : Nat)), (12, iq (i.1 : Nat))])
    (fun i => mapE (fun k : Nat => uq k) (fun n : Nat => iq n) b i.2.2 :: .own g1 29 [.slice none 0 0] :: (T ++ rowE i.2.1 60 2 (icells (L.take i.1))))
    (fun i => i.1 ≤ L.length ∧ RowOk i.2.1 i.1 ∧ CntOk i.2.2 (idsI (L.take i.1)) ∧ ofE (idsI (L.take i.1)) (L.drop i.1) = ofQ L) (fun i => L.length - i.1) (0, .slice none 0 0, []) ⟨by simp, RowOk.nil, fun k => by simp [idsI, aget], rfl⟩ (Kn.cons rfl (Kn.cons rfl (Kn.cons rfl (Kn.cons rfl (Kn.cons rfl (Kn.cons rfl Kn.nil)))))) (by simp [rowE]; exact HLe.refl _) ?_
  rintro ⟨i, v, M⟩ ⟨hi, hv, hM, hq⟩
  simp only at hi hv hM hq
  refine awp_seq_region (fun Z hZ => ?_)
  first | refine sx_lss rfl rfl rfl ?_ | refine sx_slss rfl rfl rfl ?_
  refine sx_nil (hZ _ _ ?_)
  refine awp_forget [(2, _), (4, _), (5, _), (10, _), (11, _), (12, _), (13, _)] (Kn.cons rfl (Kn.cons rfl (Kn.cons rfl (Kn.cons rfl (Kn.cons rfl (Kn.cons rfl (Kn.cons rfl (Kn.nil)))))))) ?_
  first | refine awp_cond rfl (fun h => ?_) (fun h => ?_) | refine awp_seq (awp_cond rfl (fun h => ?_) (fun h => ?_))
  · have hlt : i < L.length := by simpa using h
    have hx := itAt_at hlt
    obtain ⟨x, hxe⟩ : ∃ x, itAt L i = x := ⟨_, rfl⟩
    rw [hxe] at hx
    have hdr : L.drop i = x :: L.drop (i + 1) := by rw [List.drop_eq_getElem_cons hlt]; congr 1; exact (List.getElem?_eq_some_iff.1 hx).2
    have htk : idsI (L.take (i + 1)) = idsI (L.take i) ++ [x.id] := by rw [List.take_add_one, hx]; simp [idsI]
    have hsl : (idsI (L.take i)).length = i := by simp [idsI]; omega
    rw [hdr, ofE, hsl, ← htk] at hq
    obtain ⟨n, hn⟩ : ∃ n, (if x.id ∈ idsI (L.take i) then 1 else 0 : Nat) = n := ⟨_, rfl⟩
    have hget := cnt_get hM x.id
    rw [hn] at hget
    have hn1 : n ≤ 1 := by rw [← hn]; split <;> omega
    obtain ⟨g, o, rfl⟩ := hA (by omega)
    obtain rfl := hT (by omega)
    refine awp_heap (mapE (fun k : Nat => uq k) (fun n : Nat => iq n) b M :: .own g1 29 [.slice none 0 0] :: .ro g o (icells L) :: rowE v 60 2 (icells (L.take i))) (HLe.refl _) ?_
    refine awp_skip ?_
    repeat (with_reducible (first | refine nx_block_normal ?_ | refine nx_scope_normal ?_))
    with_reducible first | refine nx_normal ?_ | refine nx_normalM ?_
    refine awp_seq (awp_block ?_)

    refine awp_seq_region (fun Z hZ => ?_)
    refine sx_indexAddr (o + i * 2) Try.underlying27 tyS60 rfl rfl (by omega) (by simp) rfl ?_
    refine sx_loadRo 2 rfl rfl (i * 2) rfl tyA60 tyS60 (icells_all hx) rfl ?_
    refine sx_alloc tyZ60 rfl (fun g2 => ?_)
    first | refine sx_store 0 rfl rfl rfl tyS60 (by first | (simp only [Value.cells]; first | done | rfl) | rfl) rfl rfl (by first | (simp only [List.length_cons, List.length_nil, Nat.reduceAdd, Nat.zero_add, Nat.add_zero]; first | done | rfl) | rfl) (by first | (simp only [List.take_succ_cons, List.take_zero, List.drop_succ_cons, List.drop_zero, List.cons_append, List.nil_append, List.append_nil, List.length_cons, List.length_nil, Nat.reduceAdd, Nat.zero_add, Nat.add_zero, Value.cells, wrV]; first | done | rfl) | rfl) (by first | (simp only [List.set_cons_succ, List.set_cons_zero]; first | done | rfl) | rfl) ?_ | refine sx_store 1 rfl rfl rfl tyS60 (by first | (simp only [Value.cells]; first | done | rfl) | rfl) rfl rfl (by first | (simp only [List.length_cons, List.length_nil, Nat.reduceAdd, Nat.zero_add, Nat.add_zero]; first | done | rfl) | rfl) (by first | (simp only [List.take_succ_cons, List.take_zero, List.drop_succ_cons, List.drop_zero, List.cons_append, List.nil_append, List.append_nil, List.length_cons, List.length_nil, Nat.reduceAdd, Nat.zero_add, Nat.add_zero, Value.cells, wrV]; first | done | rfl) | rfl) (by first | (simp only [List.set_cons_succ, List.set_cons_zero]; first | done | rfl) | rfl) ?_ | refine sx_store 2 rfl rfl rfl tyS60 (by first | (simp only [Value.cells]; first | done | rfl) | rfl) rfl rfl (by first | (simp only [List.length_cons, List.length_nil, Nat.reduceAdd, Nat.zero_add, Nat.add_zero]; first | done | rfl) | rfl) (by first | (simp only [List.take_succ_cons, List.take_zero, List.drop_succ_cons, List.drop_zero, List.cons_append, List.nil_append, List.append_nil, List.length_cons, List.length_nil, Nat.reduceAdd, Nat.zero_add, Nat.add_zero, Value.cells, wrV]; first | done | rfl) | rfl) (by first | (simp only [List.set_cons_succ, List.set_cons_zero]; first | done | rfl) | rfl) ?_ | refine sx_store 3 rfl rfl rfl tyS60 (by first | (simp only [Value.cells]; first | done | rfl) | rfl) rfl rfl (by first | (simp only [List.length_cons, List.length_nil, Nat.reduceAdd, Nat.zero_add, Nat.add_zero]; first | done | rfl) | rfl) (by first | (simp only [List.take_succ_cons, List.take_zero, List.drop_succ_cons, List.drop_zero, List.cons_append, List.nil_append, List.append_nil, List.length_cons, List.length_nil, Nat.reduceAdd, Nat.zero_add, Nat.add_zero, Value.cells, wrV]; first | done | rfl) | rfl) (by first | (simp only [List.set_cons_succ, List.set_cons_zero]; first | done | rfl) | rfl) ?_
    refine sx_nil (hZ _ _ ?_)
    refine awp_forget [(2, _), (4, _), (5, _), (7, _), (10, _), (11, _), (12, _)] (Kn.cons rfl (Kn.cons rfl (Kn.cons rfl (Kn.cons rfl (Kn.cons rfl (Kn.cons rfl (Kn.cons rfl (Kn.nil)))))))) ?_

    refine awp_seq ?_
    refine awp_seq_region (fun Z hZ => ?_)
    refine sx_move rfl rfl ?_
    refine sx_fieldAddr rfl tyF60_0 (by first | (simp only [Nat.reduceAdd, Nat.add_zero, Nat.zero_add]; first | done | rfl) | rfl) rfl ?_
    first | refine sx_load 0 rfl rfl tyA51 tyS51 rfl rfl ?_ | refine sx_load 1 rfl rfl tyA51 tyS51 rfl rfl ?_ | refine sx_load 2 rfl rfl tyA51 tyS51 rfl rfl ?_ | refine sx_load 3 rfl rfl tyA51 tyS51 rfl rfl ?_
    refine sx_lookup 1 keyU Try.underlying65 zeroI x.id _ rfl rfl rfl hget rfl ?_
    refine sx_add rfl rfl ((n + 1 : Nat) : Int) (by rw [IntWalk.i64_in _ (by omega)]; omega) rfl ?_
    refine sx_mapUpdate 1 keyU Try.underlying65 x.id (n + 1) rfl rfl rfl rfl rfl ?_
    refine sx_nil (hZ _ _ ?_)
    refine awp_forget [(2, _), (4, _), (5, _), (7, _), (10, _), (11, _), (12, _)] (Kn.cons rfl (Kn.cons rfl (Kn.cons rfl (Kn.cons rfl (Kn.cons rfl (Kn.cons rfl (Kn.cons rfl (Kn.nil)))))))) ?_
    refine awp_seq_region (fun Z hZ => ?_)
    refine sx_move rfl rfl ?_
    refine sx_fieldAddr rfl tyF60_0 (by first | (simp only [Nat.reduceAdd, Nat.add_zero, Nat.zero_add]; first | done | rfl) | rfl) rfl ?_
    first | refine sx_load 0 rfl rfl tyA51 tyS51 rfl rfl ?_ | refine sx_load 1 rfl rfl tyA51 tyS51 rfl rfl ?_ | refine sx_load 2 rfl rfl tyA51 tyS51 rfl rfl ?_ | refine sx_load 3 rfl rfl tyA51 tyS51 rfl rfl ?_
    refine sx_lookup 1 keyU Try.underlying65 zeroI x.id _ rfl rfl rfl (look_put M x.id (n + 1)) rfl ?_
    first | refine sx_gtr rfl rfl rfl ?_ | refine sx_sgtr rfl rfl rfl ?_
    refine sx_nil (hZ _ _ ?_)
    refine awp_forget [(2, _), (4, _), (5, _), (7, _), (10, _), (11, _), (12, _), (25, _)] (Kn.cons rfl (Kn.cons rfl (Kn.cons rfl (Kn.cons rfl (Kn.cons rfl (Kn.cons rfl (Kn.cons rfl (Kn.cons rfl (Kn.nil))))))))) ?_
    first | refine awp_cond rfl (fun h1 => ?_) (fun h1 => ?_) | refine awp_seq (awp_cond rfl (fun h1 => ?_) (fun h1 => ?_))
    · have hin : x.id ∈ idsI (L.take i) := by
        have : n = 1 := by simp at h1; omega
        rw [this] at hn
        split at hn
        · assumption
        · omega
      rw [if_pos hin] at hq
      rw [← hq]
      refine awp_seq_region (fun Z hZ => ?_)
      refine sx_build tyZ29 tyP29 rfl rfl (by first | (simp only [List.take_succ_cons, List.take_zero, List.drop_succ_cons, List.drop_zero, List.cons_append, List.nil_append, List.append_nil, List.length_cons, List.length_nil, Nat.reduceAdd, Nat.zero_add, Nat.add_zero, Value.cells, wrV, zrep_one, List.replicate_succ, List.replicate_zero, Nat.reduceMul, Nat.zero_mul]; first | done | rfl) | rfl) rfl ?_
      first | refine sx_store 0 rfl rfl rfl tyS29 (by first | (simp only [Value.cells]; first | done | rfl) | rfl) rfl rfl (by first | (simp only [List.length_cons, List.length_nil, Nat.reduceAdd, Nat.zero_add, Nat.add_zero]; first | done | rfl) | rfl) (by first | (simp only [List.take_succ_cons, List.take_zero, List.drop_succ_cons, List.drop_zero, List.cons_append, List.nil_append, List.append_nil, List.length_cons, List.length_nil, Nat.reduceAdd, Nat.zero_add, Nat.add_zero, Value.cells, wrV]; first | done | rfl) | rfl) (by first | (simp only [List.set_cons_succ, List.set_cons_zero]; first | done | rfl) | rfl) ?_ | refine sx_store 1 rfl rfl rfl tyS29 (by first | (simp only [Value.cells]; first | done | rfl) | rfl) rfl rfl (by first | (simp only [List.length_cons, List.length_nil, Nat.reduceAdd, Nat.zero_add, Nat.add_zero]; first | done | rfl) | rfl) (by first | (simp only [List.take_succ_cons, List.take_zero, List.drop_succ_cons, List.drop_zero, List.cons_append, List.nil_append, List.append_nil, List.length_cons, List.length_nil, Nat.reduceAdd, Nat.zero_add, Nat.add_zero, Value.cells, wrV]; first | done | rfl) | rfl) (by first | (simp only [List.set_cons_succ, List.set_cons_zero]; first | done | rfl) | rfl) ?_ | refine sx_store 2 rfl rfl rfl tyS29 (by first | (simp only [Value.cells]; first | done | rfl) | rfl) rfl rfl (by first | (simp only [List.length_cons, List.length_nil, Nat.reduceAdd, Nat.zero_add, Nat.add_zero]; first | done | rfl) | rfl) (by first | (simp only [List.take_succ_cons, List.take_zero, List.drop_succ_cons, List.drop_zero, List.cons_append, List.nil_append, List.append_nil, List.length_cons, List.length_nil, Nat.reduceAdd, Nat.zero_add, Nat.add_zero, Value.cells, wrV]; first | done | rfl) | rfl) (by first | (simp only [List.set_cons_succ, List.set_cons_zero]; first | done | rfl) | rfl) ?_ | refine sx_store 3 rfl rfl rfl tyS29 (by first | (simp only [Value.cells]; first | done | rfl) | rfl) rfl rfl (by first | (simp only [List.length_cons, List.length_nil, Nat.reduceAdd, Nat.zero_add, Nat.add_zero]; first | done | rfl) | rfl) (by first | (simp only [List.take_succ_cons, List.take_zero, List.drop_succ_cons, List.drop_zero, List.cons_append, List.nil_append, List.append_nil, List.length_cons, List.length_nil, Nat.reduceAdd, Nat.zero_add, Nat.add_zero, Value.cells, wrV]; first | done | rfl) | rfl) (by first | (simp only [List.set_cons_succ, List.set_cons_zero]; first | done | rfl) | rfl) ?_
      refine sx_assign rfl rfl ?_
      refine sx_nil (hZ _ _ ?_)
      refine awp_forget [(2, _), (3, _)] (Kn.cons rfl (Kn.cons rfl (Kn.nil))) ?_
      refine awp_ret ?_
      repeat (with_reducible (first | refine nx_then_ret ?_ | refine nx_block_ret ?_ | refine nx_scope_ret ?_))
      exact nx_ret2h [] rfl (ResOk.cell 2 rfl rfl tyA29 tyS29 rfl) rfl (HLe.sub (List.nil_sublist _)) ⟨_, rfl, .inr ⟨by decide, rfl, rfl⟩⟩
    have hin : x.id ∉ idsI (L.take i) := fun hc => by
      rw [if_pos hc] at hn
      simp at h1
      omega
    have hn0 : n = 0 := by rw [if_neg hin] at hn; omega
    subst hn0
    rw [if_neg hin] at hq
    obtain ⟨e, he⟩ : ∃ e, wrongQ x.id x.tx (decide (2048 ≤ i)) = e := ⟨_, rfl⟩
    have hw := wrong_fn x.id x.tx (decide (2048 ≤ i))
    rw [he] at hw hq
    have hlen : decide ((2048 : Int) ≤ ((i : Nat) : Int)) = decide (2048 ≤ i) := by rw [Bool.eq_iff_iff]; simp; omega
    obtain ⟨Av, cv, rfl, hAv⟩ := hv.form
    refine awp_skip ?_
    repeat (with_reducible (first | refine nx_block_normal ?_ | refine nx_scope_normal ?_))
    with_reducible first | refine nx_normal ?_ | refine nx_normalM ?_
    refine awp_seq ?_
    refine awp_seq_region (fun Z hZ => ?_)
    refine sx_fieldAddr rfl tyF60_0 (by first | (simp only [Nat.reduceAdd, Nat.add_zero, Nat.zero_add]; first | done | rfl) | rfl) rfl ?_
    first | refine sx_load 0 rfl rfl tyA51 tyS51 rfl rfl ?_ | refine sx_load 1 rfl rfl tyA51 tyS51 rfl rfl ?_ | refine sx_load 2 rfl rfl tyA51 tyS51 rfl rfl ?_ | refine sx_load 3 rfl rfl tyA51 tyS51 rfl rfl ?_
    refine sx_fieldAddr rfl tyF60_1 (by first | (simp only [Nat.reduceAdd, Nat.add_zero, Nat.zero_add]; first | done | rfl) | rfl) rfl ?_
    first | refine sx_load 0 rfl rfl tyA9 tyS9 rfl rfl ?_ | refine sx_load 1 rfl rfl tyA9 tyS9 rfl rfl ?_ | refine sx_load 2 rfl rfl tyA9 tyS9 rfl rfl ?_ | refine sx_load 3 rfl rfl tyA9 tyS9 rfl rfl ?_
    refine sx_move rfl rfl ?_
    first | refine sx_len Try.underlying27 rfl rfl ?_ | refine sx_lenS Try.underlying27 rfl rfl ?_
    first | refine sx_geq rfl rfl rfl ?_ | refine sx_sgeq rfl rfl rfl ?_
    refine sx_callP hw (by first | exact (congrArg (fun b => some [uq x.id, .string (str x.tx), .bool b]) hlen) | rfl) rfl ?_
    refine sx_assign rfl rfl ?_
    refine sx_nil (hZ _ _ ?_)
    refine awp_forget [(2, _), (4, _), (5, _), (7, _), (8, _), (10, _), (11, _), (12, _)] (Kn.cons rfl (Kn.cons rfl (Kn.cons rfl (Kn.cons rfl (Kn.cons rfl (Kn.cons rfl (Kn.cons rfl (Kn.cons rfl (Kn.nil))))))))) ?_
    refine awp_seq_region (fun Z hZ => ?_)
    refine sx_move rfl rfl ?_
    first | refine sx_neq rfl rfl rfl ?_ | refine sx_sneq rfl rfl rfl ?_
    refine sx_nil (hZ _ _ ?_)
    refine awp_forget [(2, _), (4, _), (5, _), (7, _), (8, _), (10, _), (11, _), (12, _), (36, _)] (Kn.cons rfl (Kn.cons rfl (Kn.cons rfl (Kn.cons rfl (Kn.cons rfl (Kn.cons rfl (Kn.cons rfl (Kn.cons rfl (Kn.cons rfl (Kn.nil)))))))))) ?_
    first | refine awp_cond rfl (fun h2 => ?_) (fun h2 => ?_) | refine awp_seq (awp_cond rfl (fun h2 => ?_) (fun h2 => ?_))
    · have he' : e ≠ 0 := by simp at h2; omega
      rw [if_pos he'] at hq
      rw [← hq]
      refine awp_seq_region (fun Z hZ => ?_)
      refine sx_build tyZ29 tyP29 rfl rfl (by first | (simp only [List.take_succ_cons, List.take_zero, List.drop_succ_cons, List.drop_zero, List.cons_append, List.nil_append, List.append_nil, List.length_cons, List.length_nil, Nat.reduceAdd, Nat.zero_add, Nat.add_zero, Value.cells, wrV, zrep_one, List.replicate_succ, List.replicate_zero, Nat.reduceMul, Nat.zero_mul]; first | done | rfl) | rfl) rfl ?_
      refine sx_move rfl rfl ?_
      first | refine sx_store 0 rfl rfl rfl tyS29 (by first | (simp only [Value.cells]; first | done | rfl) | rfl) rfl rfl (by first | (simp only [List.length_cons, List.length_nil, Nat.reduceAdd, Nat.zero_add, Nat.add_zero]; first | done | rfl) | rfl) (by first | (simp only [List.take_succ_cons, List.take_zero, List.drop_succ_cons, List.drop_zero, List.cons_append, List.nil_append, List.append_nil, List.length_cons, List.length_nil, Nat.reduceAdd, Nat.zero_add, Nat.add_zero, Value.cells, wrV]; first | done | rfl) | rfl) (by first | (simp only [List.set_cons_succ, List.set_cons_zero]; first | done | rfl) | rfl) ?_ | refine sx_store 1 rfl rfl rfl tyS29 (by first | (simp only [Value.cells]; first | done | rfl) | rfl) rfl rfl (by first | (simp only [List.length_cons, List.length_nil, Nat.reduceAdd, Nat.zero_add, Nat.add_zero]; first | done | rfl) | rfl) (by first | (simp only [List.take_succ_cons, List.take_zero, List.drop_succ_cons, List.drop_zero, List.cons_append, List.nil_append, List.append_nil, List.length_cons, List.length_nil, Nat.reduceAdd, Nat.zero_add, Nat.add_zero, Value.cells, wrV]; first | done | rfl) | rfl) (by first | (simp only [List.set_cons_succ, List.set_cons_zero]; first | done | rfl) | rfl) ?_ | refine sx_store 2 rfl rfl rfl tyS29 (by first | (simp only [Value.cells]; first | done | rfl) | rfl) rfl rfl (by first | (simp only [List.length_cons, List.length_nil, Nat.reduceAdd, Nat.zero_add, Nat.add_zero]; first | done | rfl) | rfl) (by first | (simp only [List.take_succ_cons, List.take_zero, List.drop_succ_cons, List.drop_zero, List.cons_append, List.nil_append, List.append_nil, List.length_cons, List.length_nil, Nat.reduceAdd, Nat.zero_add, Nat.add_zero, Value.cells, wrV]; first | done | rfl) | rfl) (by first | (simp only [List.set_cons_succ, List.set_cons_zero]; first | done | rfl) | rfl) ?_ | refine sx_store 3 rfl rfl rfl tyS29 (by first | (simp only [Value.cells]; first | done | rfl) | rfl) rfl rfl (by first | (simp only [List.length_cons, List.length_nil, Nat.reduceAdd, Nat.zero_add, Nat.add_zero]; first | done | rfl) | rfl) (by first | (simp only [List.take_succ_cons, List.take_zero, List.drop_succ_cons, List.drop_zero, List.cons_append, List.nil_append, List.append_nil, List.length_cons, List.length_nil, Nat.reduceAdd, Nat.zero_add, Nat.add_zero, Value.cells, wrV]; first | done | rfl) | rfl) (by first | (simp only [List.set_cons_succ, List.set_cons_zero]; first | done | rfl) | rfl) ?_
      refine sx_assign rfl rfl ?_
      refine sx_nil (hZ _ _ ?_)
      refine awp_forget [(2, _), (3, _)] (Kn.cons rfl (Kn.cons rfl (Kn.nil))) ?_
      refine awp_ret ?_
      repeat (with_reducible (first | refine nx_then_ret ?_ | refine nx_block_ret ?_ | refine nx_scope_ret ?_))
      exact nx_ret2h [] rfl (ResOk.cell 2 rfl rfl tyA29 tyS29 rfl) rfl (HLe.sub (List.nil_sublist _)) ⟨_, rfl, .inr ⟨he', rfl, rfl⟩⟩
    have he' : e = 0 := by simp at h2; omega
    rw [if_neg (by simpa using he')] at hq
    refine awp_skip ?_
    repeat (with_reducible (first | refine nx_block_normal ?_ | refine nx_scope_normal ?_))
    with_reducible first | refine nx_normal ?_ | refine nx_normalM ?_
    have hM2 : CntOk (aput M x.id 1) (idsI (L.take (i + 1))) := fun k => by
      rw [aget_put, htk, hM k]
      by_cases hk : x.id = k
      · subst hk
        simp
      · have hk' : ¬ k = x.id := fun h => hk h.symm
        simp [hk, hk']
    refine awp_region (fun Z hZ => ?_)
    refine sx_move rfl rfl ?_
    first | refine sx_loadA 0 rfl rfl tyA60 tyS60 (by first | (simp only [List.length_cons, List.length_nil, Nat.reduceAdd, Nat.zero_add, Nat.add_zero]; first | done | rfl) | rfl) (by first | (simp only [List.take_succ_cons, List.take_zero, List.drop_succ_cons, List.drop_zero, List.cons_append, List.nil_append, List.append_nil, List.length_cons, List.length_nil, Nat.reduceAdd, Nat.zero_add, Nat.add_zero, Value.cells, wrV]; first | done | rfl) | rfl) rfl ?_ | refine sx_loadA 1 rfl rfl tyA60 tyS60 (by first | (simp only [List.length_cons, List.length_nil, Nat.reduceAdd, Nat.zero_add, Nat.add_zero]; first | done | rfl) | rfl) (by first | (simp only [List.take_succ_cons, List.take_zero, List.drop_succ_cons, List.drop_zero, List.cons_append, List.nil_append, List.append_nil, List.length_cons, List.length_nil, Nat.reduceAdd, Nat.zero_add, Nat.add_zero, Value.cells, wrV]; first | done | rfl) | rfl) rfl ?_ | refine sx_loadA 2 rfl rfl tyA60 tyS60 (by first | (simp only [List.length_cons, List.length_nil, Nat.reduceAdd, Nat.zero_add, Nat.add_zero]; first | done | rfl) | rfl) (by first | (simp only [List.take_succ_cons, List.take_zero, List.drop_succ_cons, List.drop_zero, List.cons_append, List.nil_append, List.append_nil, List.length_cons, List.length_nil, Nat.reduceAdd, Nat.zero_add, Nat.add_zero, Value.cells, wrV]; first | done | rfl) | rfl) rfl ?_ | refine sx_loadA 3 rfl rfl tyA60 tyS60 (by first | (simp only [List.length_cons, List.length_nil, Nat.reduceAdd, Nat.zero_add, Nat.add_zero]; first | done | rfl) | rfl) (by first | (simp only [List.take_succ_cons, List.take_zero, List.drop_succ_cons, List.drop_zero, List.cons_append, List.nil_append, List.append_nil, List.length_cons, List.length_nil, Nat.reduceAdd, Nat.zero_add, Nat.add_zero, Value.cells, wrV]; first | done | rfl) | rfl) rfl ?_
    refine sx_buildSlice Try.underlying27 tyS60 tyZ60 rfl rfl rfl rfl (by first | (simp only [List.take_succ_cons, List.take_zero, List.drop_succ_cons, List.drop_zero, List.cons_append, List.nil_append, List.append_nil, List.length_cons, List.length_nil, Nat.reduceAdd, Nat.zero_add, Nat.add_zero, Value.cells, wrV, zrep_one, List.replicate_succ, List.replicate_zero, Nat.reduceMul, Nat.zero_mul]; first | done | rfl) | rfl) rfl (fun g3 => ?_)
    refine sx_appendE [_, _, _, _, _] elemIt rfl hv (by rw [icells_len, List.length_take]; omega) rfl (fun w hw => rd_own (i := 0) (xs := x.cells) rfl rfl hw) rfl (by show _ ≤ 9223372036854775807; omega) (by omega) (HLe.refl _) rfl (fun v2 hv2 => ?_)
    refine sx_assign rfl rfl ?_
    refine sx_nil (hZ _ _ ?_)
    refine nx_forget [(2, _), (4, _), (5, _), (10, _), (11, _), (12, _)] (Kn.cons rfl (Kn.cons rfl (Kn.cons rfl (Kn.cons rfl (Kn.cons rfl (Kn.cons rfl (Kn.nil))))))) ?_
    repeat (with_reducible (first | refine nx_block_normal ?_ | refine nx_scope_normal ?_))
    with_reducible first | refine nx_normal ?_ | refine nx_normalM ?_
    refine awp_region (fun Z hZ => ?_)
    refine sx_add rfl rfl ((i + 1 : Nat) : Int) (by rw [IntWalk.i64_in _ (by omega)]; omega) rfl ?_
    refine sx_move rfl rfl ?_
    refine sx_nil (hZ _ _ ?_)
    refine nx_forget [(2, _), (4, _), (5, _), (10, _), (11, _), (12, _)] (Kn.cons rfl (Kn.cons rfl (Kn.cons rfl (Kn.cons rfl (Kn.cons rfl (Kn.cons rfl (Kn.nil))))))) ?_
    refine nx_round (i + 1, v2, aput M x.id 1) ⟨by show i + 1 ≤ _; omega, hv2, hM2, hq⟩ (by simp; omega) (Kn.cons rfl (Kn.cons rfl (Kn.cons rfl (Kn.cons rfl (Kn.cons rfl (Kn.cons rfl Kn.nil)))))) ?_
    simp only
    rw [icells_take hx]
    exact HLe.drop 2 rfl
  · refine awp_exit ?_
    repeat (with_reducible (first | refine nx_then_exit ?_ | refine nx_block_other (by decide) ?_ | refine nx_scope_exit ?_))
    with_reducible refine nx_block_exit ?_
    repeat (with_reducible (first | refine nx_block_normal ?_ | refine nx_scope_normal ?_))
    with_reducible first | refine nx_normal ?_ | refine nx_normalM ?_
    have hke : i = L.length := by simp at h; omega
    subst hke
    rw [List.drop_length, ofE] at hq
    have h0 : ofQ L = 0 := hq.symm
    obtain ⟨o1, o2, o3, o4⟩ := of_ok h0
    rw [List.take_length, h0]
    have hol := o4.length_eq
    rcases Nat.eq_zero_or_pos L.length with hz | hz
    · obtain rfl : L = [] := List.length_eq_zero_iff.1 hz
      obtain ⟨Av, cv, rfl, hAv⟩ := hv.form
      refine awp_heap (.own g1 29 [.slice none 0 0] :: rowE (.slice Av 0 cv) 60 2 []) (HLe.sub ((List.Sublist.cons_cons _ (List.sublist_append_right T _)).trans (List.sublist_cons_self _ _))) ?_

      refine awp_seq_region (fun Z hZ => ?_)
      refine sx_move rfl rfl ?_
      refine sx_callP (sortE_fn Av cv) rfl rfl ?_
      refine sx_nil (hZ _ _ ?_)
      refine awp_forget [(2, _), (5, _)] (Kn.cons rfl (Kn.cons rfl (Kn.nil))) ?_
      refine awp_seq_region (fun Z hZ => ?_)
      refine sx_move rfl rfl ?_
      refine sx_build tyZ29 tyP29 rfl rfl (by first | (simp only [List.take_succ_cons, List.take_zero, List.drop_succ_cons, List.drop_zero, List.cons_append, List.nil_append, List.append_nil, List.length_cons, List.length_nil, Nat.reduceAdd, Nat.zero_add, Nat.add_zero, Value.cells, wrV, zrep_one, List.replicate_succ, List.replicate_zero, Nat.reduceMul, Nat.zero_mul]; first | done | rfl) | rfl) rfl ?_
      first | refine sx_store 0 rfl rfl rfl tyS29 (by first | (simp only [Value.cells]; first | done | rfl) | rfl) rfl rfl (by first | (simp only [List.length_cons, List.length_nil, Nat.reduceAdd, Nat.zero_add, Nat.add_zero]; first | done | rfl) | rfl) (by first | (simp only [List.take_succ_cons, List.take_zero, List.drop_succ_cons, List.drop_zero, List.cons_append, List.nil_append, List.append_nil, List.length_cons, List.length_nil, Nat.reduceAdd, Nat.zero_add, Nat.add_zero, Value.cells, wrV]; first | done | rfl) | rfl) (by first | (simp only [List.set_cons_succ, List.set_cons_zero]; first | done | rfl) | rfl) ?_
      refine sx_assign rfl rfl ?_
      refine sx_nil (hZ _ _ ?_)
      refine awp_forget [(2, _), (3, _)] (Kn.cons rfl (Kn.cons rfl (Kn.nil))) ?_
      refine awp_ret ?_
      repeat (with_reducible (first | refine nx_then_ret ?_ | refine nx_block_ret ?_ | refine nx_scope_ret ?_))
      exact nx_ret2h _ rfl (ResOk.cell 0 rfl rfl tyA29 tyS29 rfl) rfl (HLe.drop 1 rfl) ⟨_, rfl, .inl ⟨rfl, hv, rfl⟩⟩
    · obtain ⟨gv, cv, rfl⟩ := hv.some hz
      refine awp_heap ([.ob gv (RowP 60 2 L.length cv (icells L))] ++ [.own g1 29 [.slice none 0 0]]) ((HLe.swap _ _).trans (HLe.sub ((List.Sublist.cons_cons _ (List.sublist_append_right T _)).trans (List.sublist_cons_self _ _)))) ?_

      refine awp_seq_region (fun Z hZ => ?_)
      refine sx_move rfl rfl ?_
      refine sx_callO [.ob gv (RowP 60 2 L.length cv (icells L))] [.own g1 29 [.slice none 0 0]] (sort_fn gv L.length cv L rfl (by omega)) rfl (HLe.refl _) rfl ?_
      rintro v H' ⟨rfl, Ms, hp, hs, rfl⟩
      obtain rfl := sort_is o1 hp hs
      refine sx_heap [.ob gv (RowP 60 2 L.length cv (icells (sortI L))), .own g1 29 [.slice none 0 0]] (HLe.refl _) ?_
      refine sx_nil (hZ _ _ ?_)
      refine awp_forget [(2, _), (5, _)] (Kn.cons rfl (Kn.cons rfl (Kn.nil))) ?_
      refine awp_seq_region (fun Z hZ => ?_)
      refine sx_move rfl rfl ?_
      refine sx_build tyZ29 tyP29 rfl rfl (by first | (simp only [List.take_succ_cons, List.take_zero, List.drop_succ_cons, List.drop_zero, List.cons_append, List.nil_append, List.append_nil, List.length_cons, List.length_nil, Nat.reduceAdd, Nat.zero_add, Nat.add_zero, Value.cells, wrV, zrep_one, List.replicate_succ, List.replicate_zero, Nat.reduceMul, Nat.zero_mul]; first | done | rfl) | rfl) rfl ?_
      first | refine sx_store 0 rfl rfl rfl tyS29 (by first | (simp only [Value.cells]; first | done | rfl) | rfl) rfl rfl (by first | (simp only [List.length_cons, List.length_nil, Nat.reduceAdd, Nat.zero_add, Nat.add_zero]; first | done | rfl) | rfl) (by first | (simp only [List.take_succ_cons, List.take_zero, List.drop_succ_cons, List.drop_zero, List.cons_append, List.nil_append, List.append_nil, List.length_cons, List.length_nil, Nat.reduceAdd, Nat.zero_add, Nat.add_zero, Value.cells, wrV]; first | done | rfl) | rfl) (by first | (simp only [List.set_cons_succ, List.set_cons_zero]; first | done | rfl) | rfl) ?_ | refine sx_store 1 rfl rfl rfl tyS29 (by first | (simp only [Value.cells]; first | done | rfl) | rfl) rfl rfl (by first | (simp only [List.length_cons, List.length_nil, Nat.reduceAdd, Nat.zero_add, Nat.add_zero]; first | done | rfl) | rfl) (by first | (simp only [List.take_succ_cons, List.take_zero, List.drop_succ_cons, List.drop_zero, List.cons_append, List.nil_append, List.append_nil, List.length_cons, List.length_nil, Nat.reduceAdd, Nat.zero_add, Nat.add_zero, Value.cells, wrV]; first | done | rfl) | rfl) (by first | (simp only [List.set_cons_succ, List.set_cons_zero]; first | done | rfl) | rfl) ?_
      refine sx_assign rfl rfl ?_
      refine sx_nil (hZ _ _ ?_)
      refine awp_forget [(2, _), (3, _)] (Kn.cons rfl (Kn.cons rfl (Kn.nil))) ?_
      refine awp_ret ?_
      repeat (with_reducible (first | refine nx_then_ret ?_ | refine nx_block_ret ?_ | refine nx_scope_ret ?_))
      exact nx_ret2h [.ob gv (RowP 60 2 L.length cv (icells (sortI L)))] rfl (ResOk.cell 1 rfl rfl tyA29 tyS29 rfl) rfl (HLe.sub (List.sublist_append_left [_] [_])) ⟨_, rfl, .inl ⟨rfl, by rw [hol]; exact RowOk.mk gv _ cv, rfl⟩⟩
end Go.Proofs.Ytahmhcmfeloclaa
