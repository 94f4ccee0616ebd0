/- The walk of chart.Of. Conditions: the lists are not too long. The walks of a chart's zooms. Conditions: the lists are not too long. The walk of the document's Of for charts; what a put leaves, as a row. Conditions: the lists are not too long. The law's own helpers for charts: Back, Over, Own. Conditions: the lists are not too long. The small example of charts. No conditions. Steps for the laws of charts: calls whose rows stand at the end of memory; arguments. Conditions: the lists are not too long. Plain facts of charts, for the laws. No conditions. -/
import Derived.Test.YtmebmkkllhnmlaaGch1
import Derived.Test.YtmebmkkllhnmlaaLaySort
import Derived.Test.YtmebmkkllhnmlaaZo1
import Derived.Lib.ItoaNum
import Derived.Test.YtmebmkkllhnmlaaSxC
namespace Go.Proofs.Ytmebmkkllhnmlaa
open Go.RowKit
set_option linter.unusedVariables false
set_option linter.unusedSimpArgs false
theorem keyU : KeyOk Try.prog 66 (fun k : Nat => uq k) where
  eq a b w := by
    have h : ((a : Int) = (b : Int)) ↔ a = b := by omega
    simp [go_sem, Op.equal, Op.maxDepth, run_underlying Try.underlying66]
    rw [Bool.eq_iff_iff]
    simp [h]
  chk e a w := by
    rw [show (10000 : Nat) = 9999 + 1 from rfl, Instr.checkKey]
    simp [run_underlying Try.underlying66]
  und := ⟨_, Try.underlying66, .inr fun a b => by
    have h : ((a : Int) = (b : Int)) ↔ a = b := by omega
    simp only [Instr.sameNow, if_true]
    congr 1
    rw [Bool.eq_iff_iff]
    simp [h]⟩
  same a := by simp [Instr.sameBits]
theorem zeroI (w : World) : (zeroValue 3).run Try.prog w = .ok (iq (0 : Nat)) w := by kernel_rfl
/-- A map that counts what was seen. -/
def CntOk (M : List (Nat × Nat)) (seen : List Nat) : Prop := ∀ k, aget M k = if k ∈ seen then some 1 else none
theorem cnt_get {M : List (Nat × Nat)} {seen : List Nat} (h : CntOk M seen) (k : Nat) : (if false = true then Value.tuple #[((aget M k).map fun n : Nat => iq n).getD (iq (0 : Nat)), .bool (aget M k).isSome] else ((aget M k).map fun n : Nat => iq n).getD (iq (0 : Nat))) = iq ((if k ∈ seen then 1 else 0 : Nat) : Nat) := by
  rw [h k]
  by_cases hk : k ∈ seen <;> simp [hk]
theorem look_put (M : List (Nat × Nat)) (k v : Nat) : (if false = true then Value.tuple #[((aget (aput M k v) k).map fun n : Nat => iq n).getD (iq (0 : Nat)), .bool (aget (aput M k v) k).isSome] else ((aget (aput M k v) k).map fun n : Nat => iq n).getD (iq (0 : Nat))) = iq (v : Nat) := by
  rw [aget_put, if_pos rfl]
  rfl
theorem cof_fn (A : Option Addr) (c : Nat) (L : List It) (T : Heap) (hA : ArgOk A L.length) (hT : 0 < L.length → T = roE A (icells L)) (hro : Ro T) (hL : L.length ≤ 100000) :
    Fn Try.prog 36 [.slice A L.length c] T fun v H' => ∃ u, v = .tuple #[.agg #[u], iq (ofQ L)] ∧ ((ofQ L = 0 ∧ RowOk u (sortI L).length ∧ H' = rowE u 82 2 (icells (sortI L))) ∨ (ofQ L ≠ 0 ∧ u = .slice none 0 0 ∧ H' = [])) := by
  refine Fn.enter (N := 48) Try.func36 rfl (by kernel_rfl) rfl (fun w0 => ?_)

  refine awp_seq_region (fun Z hZ => ?_)
  refine sx_alloc tyZ29 rfl (fun g1 => ?_)
  refine sx_assign rfl rfl ?_
  refine sx_nil (hZ _ _ ?_)
  refine awp_forget [(0, _), (2, _)] (Kn.cons rfl (Kn.cons rfl (Kn.nil))) ?_
  refine awp_seq_region (fun Z hZ => ?_)
  refine sx_makeMap rfl (fun k : Nat => uq k) (fun n : Nat => iq n) (fun b => ?_)
  refine sx_assign rfl rfl ?_
  refine sx_nil (hZ _ _ ?_)
  refine awp_forget [(0, _), (2, _), (4, _)] (Kn.cons rfl (Kn.cons rfl (Kn.cons rfl (Kn.nil)))) ?_
  refine awp_seq_region (fun Z hZ => ?_)
  refine sx_assign rfl rfl ?_
  refine sx_nil (hZ _ _ ?_)
  refine awp_forget [(0, _), (2, _), (4, _), (5, _)] (Kn.cons rfl (Kn.cons rfl (Kn.cons rfl (Kn.cons rfl (Kn.nil))))) ?_
  refine awp_seq ?_
  refine awp_seq_region (fun Z hZ => ?_)
  refine sx_move rfl rfl ?_
  refine sx_len Try.underlying27 rfl rfl ?_
  refine sx_move rfl rfl ?_
  refine sx_nil (hZ _ _ ?_)
  refine awp_forget [(2, _), (4, _), (5, _), (10, _), (11, _), (12, _)] (Kn.cons rfl (Kn.cons rfl (Kn.cons rfl (Kn.cons rfl (Kn.cons rfl (Kn.cons rfl (Kn.nil))))))) ?_
  refine awp_block ?_
  refine awp_loop (ι := Nat × Value × List (Nat × Nat)) (fun i => [(2, ptr g1 0), (4, .map (some b)), (5, i.2.1), (10, .slice A L.length c), (11, iq (L.length : Nat)), (12, iq (i.1 : Nat))])
    (fun i => mapE (fun k : Nat => uq k) (fun n : Nat => iq n) b i.2.2 :: .own g1 29 [.slice none 0 0] :: (T ++ rowE i.2.1 82 2 (icells (L.take i.1))))
    (fun i => i.1 ≤ L.length ∧ RowOk i.2.1 i.1 ∧ CntOk i.2.2 (idsI (L.take i.1)) ∧ ofE (idsI (L.take i.1)) (L.drop i.1) = ofQ L) (fun i => L.length - i.1) (0, .slice none 0 0, []) ⟨by simp, RowOk.nil, fun k => by simp [idsI, aget], rfl⟩ (Kn.cons rfl (Kn.cons rfl (Kn.cons rfl (Kn.cons rfl (Kn.cons rfl (Kn.cons rfl Kn.nil)))))) (by simp [rowE]; exact HLe.refl _) ?_
  rintro ⟨i, v, M⟩ ⟨hi, hv, hM, hq⟩
  simp only at hi hv hM hq
  refine awp_seq_region (fun Z hZ => ?_)
  refine sx_lss rfl rfl rfl ?_
  refine sx_nil (hZ _ _ ?_)
  refine awp_forget [(2, _), (4, _), (5, _), (10, _), (11, _), (12, _), (13, _)] (Kn.cons rfl (Kn.cons rfl (Kn.cons rfl (Kn.cons rfl (Kn.cons rfl (Kn.cons rfl (Kn.cons rfl (Kn.nil)))))))) ?_
  refine awp_seq (awp_cond rfl (fun h => ?_) (fun h => ?_))
  · have hlt : i < L.length := by simpa using h
    have hx := itAt_at hlt
    obtain ⟨x, hxe⟩ : ∃ x, itAt L i = x := ⟨_, rfl⟩
    rw [hxe] at hx
    have hdr : L.drop i = x :: L.drop (i + 1) := by rw [List.drop_eq_getElem_cons hlt]; congr 1; exact (List.getElem?_eq_some_iff.1 hx).2
    have htk : idsI (L.take (i + 1)) = idsI (L.take i) ++ [x.id] := by rw [List.take_add_one, hx]; simp [idsI]
    have hsl : (idsI (L.take i)).length = i := by simp [idsI]; omega
    rw [hdr, ofE, hsl, ← htk] at hq
    obtain ⟨n, hn⟩ : ∃ n, (if x.id ∈ idsI (L.take i) then 1 else 0 : Nat) = n := ⟨_, rfl⟩
    have hget := cnt_get hM x.id
    rw [hn] at hget
    have hn1 : n ≤ 1 := by rw [← hn]; split <;> omega
    obtain ⟨g, o, rfl⟩ := hA (by omega)
    obtain rfl := hT (by omega)
    refine awp_heap (mapE (fun k : Nat => uq k) (fun n : Nat => iq n) b M :: .own g1 29 [.slice none 0 0] :: .ro g o (icells L) :: rowE v 82 2 (icells (L.take i))) (HLe.refl _) ?_
    refine awp_skip ?_
    with_reducible refine nx_normal ?_
    refine awp_seq (awp_block ?_)

    refine awp_seq_region (fun Z hZ => ?_)
    refine sx_indexAddr (o + i * 2) Try.underlying27 tyS82 rfl rfl (by omega) (by simp) rfl ?_
    refine sx_loadRo 2 rfl rfl (i * 2) rfl tyA82 tyS82 (icells_all hx) rfl ?_
    refine sx_alloc tyZ82 rfl (fun g2 => ?_)
    refine sx_store 0 rfl rfl rfl tyS82 (by first | (simp only [Value.cells]; first | done | rfl) | rfl) rfl rfl (by first | (simp only [List.length_cons, List.length_nil, Nat.reduceAdd, Nat.zero_add, Nat.add_zero]; first | done | rfl) | rfl) (by first | (simp only [List.take_succ_cons, List.take_zero, List.drop_succ_cons, List.drop_zero, List.cons_append, List.nil_append, List.append_nil, List.length_cons, List.length_nil, Nat.reduceAdd, Nat.zero_add, Nat.add_zero, Value.cells, wrV]; first | done | rfl) | rfl) (by first | (simp only [List.set_cons_succ, List.set_cons_zero]; first | done | rfl) | rfl) ?_
    refine sx_nil (hZ _ _ ?_)
    refine awp_forget [(2, _), (4, _), (5, _), (7, _), (10, _), (11, _), (12, _)] (Kn.cons rfl (Kn.cons rfl (Kn.cons rfl (Kn.cons rfl (Kn.cons rfl (Kn.cons rfl (Kn.cons rfl (Kn.nil)))))))) ?_

    refine awp_seq ?_
    refine awp_seq_region (fun Z hZ => ?_)
    refine sx_move rfl rfl ?_
    refine sx_fieldAddr rfl tyF82_0 (by first | (simp only [Nat.reduceAdd, Nat.add_zero, Nat.zero_add]; first | done | rfl) | rfl) rfl ?_
    refine sx_load 0 rfl rfl tyA66 tyS66 rfl rfl ?_
    refine sx_lookup 1 keyU Try.underlying115 zeroI x.id _ rfl rfl rfl hget rfl ?_
    refine sx_add rfl rfl ((n + 1 : Nat) : Int) (by rw [IntWalk.i64_in _ (by omega)]; omega) rfl ?_
    refine sx_mapUpdate 1 keyU Try.underlying115 x.id (n + 1) rfl rfl rfl rfl rfl ?_
    refine sx_nil (hZ _ _ ?_)
    refine awp_forget [(2, _), (4, _), (5, _), (7, _), (10, _), (11, _), (12, _)] (Kn.cons rfl (Kn.cons rfl (Kn.cons rfl (Kn.cons rfl (Kn.cons rfl (Kn.cons rfl (Kn.cons rfl (Kn.nil)))))))) ?_
    refine awp_seq_region (fun Z hZ => ?_)
    refine sx_move rfl rfl ?_
    refine sx_fieldAddr rfl tyF82_0 (by first | (simp only [Nat.reduceAdd, Nat.add_zero, Nat.zero_add]; first | done | rfl) | rfl) rfl ?_
    refine sx_load 0 rfl rfl tyA66 tyS66 rfl rfl ?_
    refine sx_lookup 1 keyU Try.underlying115 zeroI x.id _ rfl rfl rfl (look_put M x.id (n + 1)) rfl ?_
    refine sx_gtr rfl rfl rfl ?_
    refine sx_nil (hZ _ _ ?_)
    refine awp_forget [(2, _), (4, _), (5, _), (7, _), (10, _), (11, _), (12, _), (25, _)] (Kn.cons rfl (Kn.cons rfl (Kn.cons rfl (Kn.cons rfl (Kn.cons rfl (Kn.cons rfl (Kn.cons rfl (Kn.cons rfl (Kn.nil))))))))) ?_
    refine awp_cond rfl (fun h1 => ?_) (fun h1 => ?_)
    · have hin : x.id ∈ idsI (L.take i) := by
        have : n = 1 := by simp at h1; omega
        rw [this] at hn
        split at hn
        · assumption
        · omega
      rw [if_pos hin] at hq
      rw [← hq]
      refine awp_seq_region (fun Z hZ => ?_)
      refine sx_build tyZ29 tyP29 rfl rfl (by first | (simp only [List.take_succ_cons, List.take_zero, List.drop_succ_cons, List.drop_zero, List.cons_append, List.nil_append, List.append_nil, List.length_cons, List.length_nil, Nat.reduceAdd, Nat.zero_add, Nat.add_zero, Value.cells, wrV, zrep_one, List.replicate_succ, List.replicate_zero, Nat.reduceMul, Nat.zero_mul]; first | done | rfl) | rfl) rfl ?_
      refine sx_store 2 rfl rfl rfl tyS29 (by first | (simp only [Value.cells]; first | done | rfl) | rfl) rfl rfl (by first | (simp only [List.length_cons, List.length_nil, Nat.reduceAdd, Nat.zero_add, Nat.add_zero]; first | done | rfl) | rfl) (by first | (simp only [List.take_succ_cons, List.take_zero, List.drop_succ_cons, List.drop_zero, List.cons_append, List.nil_append, List.append_nil, List.length_cons, List.length_nil, Nat.reduceAdd, Nat.zero_add, Nat.add_zero, Value.cells, wrV]; first | done | rfl) | rfl) (by first | (simp only [List.set_cons_succ, List.set_cons_zero]; first | done | rfl) | rfl) ?_
      refine sx_assign rfl rfl ?_
      refine sx_nil (hZ _ _ ?_)
      refine awp_forget [(2, _), (3, _)] (Kn.cons rfl (Kn.cons rfl (Kn.nil))) ?_
      refine awp_ret ?_
      repeat (with_reducible (first | refine nx_then_ret ?_ | refine nx_block_ret ?_))
      exact nx_ret2h [] rfl (ResOk.cell 2 rfl rfl tyA29 tyS29 rfl) rfl (HLe.sub (List.nil_sublist _)) ⟨_, rfl, .inr ⟨by decide, rfl, rfl⟩⟩
    have hin : x.id ∉ idsI (L.take i) := fun hc => by
      rw [if_pos hc] at hn
      simp at h1
      omega
    have hn0 : n = 0 := by rw [if_neg hin] at hn; omega
    subst hn0
    rw [if_neg hin] at hq
    obtain ⟨e, he⟩ : ∃ e, wrongQ x.id x.tx (decide (2048 ≤ i)) = e := ⟨_, rfl⟩
    have hw := wrong_fn x.id x.tx (decide (2048 ≤ i))
    rw [he] at hw hq
    have hlen : decide ((2048 : Int) ≤ ((i : Nat) : Int)) = decide (2048 ≤ i) := by rw [Bool.eq_iff_iff]; simp; omega
    obtain ⟨Av, cv, rfl, hAv⟩ := hv.form
    refine awp_skip ?_
    with_reducible refine nx_normal ?_
    refine awp_seq ?_
    refine awp_seq_region (fun Z hZ => ?_)
    refine sx_fieldAddr rfl tyF82_0 (by first | (simp only [Nat.reduceAdd, Nat.add_zero, Nat.zero_add]; first | done | rfl) | rfl) rfl ?_
    refine sx_load 0 rfl rfl tyA66 tyS66 rfl rfl ?_
    refine sx_fieldAddr rfl tyF82_1 (by first | (simp only [Nat.reduceAdd, Nat.add_zero, Nat.zero_add]; first | done | rfl) | rfl) rfl ?_
    refine sx_load 0 rfl rfl tyA9 tyS9 rfl rfl ?_
    refine sx_move rfl rfl ?_
    refine sx_len Try.underlying27 rfl rfl ?_
    refine sx_geq rfl rfl rfl ?_
    refine sx_callP hw (by first | exact (congrArg (fun b => some [uq x.id, .string (str x.tx), .bool b]) hlen) | rfl) rfl ?_
    refine sx_assign rfl rfl ?_
    refine sx_nil (hZ _ _ ?_)
    refine awp_forget [(2, _), (4, _), (5, _), (7, _), (8, _), (10, _), (11, _), (12, _)] (Kn.cons rfl (Kn.cons rfl (Kn.cons rfl (Kn.cons rfl (Kn.cons rfl (Kn.cons rfl (Kn.cons rfl (Kn.cons rfl (Kn.nil))))))))) ?_
    refine awp_seq_region (fun Z hZ => ?_)
    refine sx_move rfl rfl ?_
    refine sx_neq rfl rfl rfl ?_
    refine sx_nil (hZ _ _ ?_)
    refine awp_forget [(2, _), (4, _), (5, _), (7, _), (8, _), (10, _), (11, _), (12, _), (36, _)] (Kn.cons rfl (Kn.cons rfl (Kn.cons rfl (Kn.cons rfl (Kn.cons rfl (Kn.cons rfl (Kn.cons rfl (Kn.cons rfl (Kn.cons rfl (Kn.nil)))))))))) ?_
    refine awp_cond rfl (fun h2 => ?_) (fun h2 => ?_)
    · have he' : e ≠ 0 := by simp at h2; omega
      rw [if_pos he'] at hq
      rw [← hq]
      refine awp_seq_region (fun Z hZ => ?_)
      refine sx_build tyZ29 tyP29 rfl rfl (by first | (simp only [List.take_succ_cons, List.take_zero, List.drop_succ_cons, List.drop_zero, List.cons_append, List.nil_append, List.append_nil, List.length_cons, List.length_nil, Nat.reduceAdd, Nat.zero_add, Nat.add_zero, Value.cells, wrV, zrep_one, List.replicate_succ, List.replicate_zero, Nat.reduceMul, Nat.zero_mul]; first | done | rfl) | rfl) rfl ?_
      refine sx_move rfl rfl ?_
      refine sx_store 2 rfl rfl rfl tyS29 (by first | (simp only [Value.cells]; first | done | rfl) | rfl) rfl rfl (by first | (simp only [List.length_cons, List.length_nil, Nat.reduceAdd, Nat.zero_add, Nat.add_zero]; first | done | rfl) | rfl) (by first | (simp only [List.take_succ_cons, List.take_zero, List.drop_succ_cons, List.drop_zero, List.cons_append, List.nil_append, List.append_nil, List.length_cons, List.length_nil, Nat.reduceAdd, Nat.zero_add, Nat.add_zero, Value.cells, wrV]; first | done | rfl) | rfl) (by first | (simp only [List.set_cons_succ, List.set_cons_zero]; first | done | rfl) | rfl) ?_
      refine sx_assign rfl rfl ?_
      refine sx_nil (hZ _ _ ?_)
      refine awp_forget [(2, _), (3, _)] (Kn.cons rfl (Kn.cons rfl (Kn.nil))) ?_
      refine awp_ret ?_
      repeat (with_reducible (first | refine nx_then_ret ?_ | refine nx_block_ret ?_))
      exact nx_ret2h [] rfl (ResOk.cell 2 rfl rfl tyA29 tyS29 rfl) rfl (HLe.sub (List.nil_sublist _)) ⟨_, rfl, .inr ⟨he', rfl, rfl⟩⟩
    have he' : e = 0 := by simp at h2; omega
    rw [if_neg (by simpa using he')] at hq
    refine awp_skip ?_
    with_reducible refine nx_normal ?_
    have hM2 : CntOk (aput M x.id 1) (idsI (L.take (i + 1))) := fun k => by
      rw [aget_put, htk, hM k]
      by_cases hk : x.id = k
      · subst hk
        simp
      · have hk' : ¬ k = x.id := fun h => hk h.symm
        simp [hk, hk']
    refine awp_region (fun Z hZ => ?_)
    refine sx_move rfl rfl ?_
    refine sx_loadA 0 rfl rfl tyA82 tyS82 (by first | (simp only [List.length_cons, List.length_nil, Nat.reduceAdd, Nat.zero_add, Nat.add_zero]; first | done | rfl) | rfl) (by first | (simp only [List.take_succ_cons, List.take_zero, List.drop_succ_cons, List.drop_zero, List.cons_append, List.nil_append, List.append_nil, List.length_cons, List.length_nil, Nat.reduceAdd, Nat.zero_add, Nat.add_zero, Value.cells, wrV]; first | done | rfl) | rfl) rfl ?_
    refine sx_buildSlice Try.underlying27 tyS82 tyZ82 rfl rfl rfl rfl (by first | (simp only [List.take_succ_cons, List.take_zero, List.drop_succ_cons, List.drop_zero, List.cons_append, List.nil_append, List.append_nil, List.length_cons, List.length_nil, Nat.reduceAdd, Nat.zero_add, Nat.add_zero, Value.cells, wrV, zrep_one, List.replicate_succ, List.replicate_zero, Nat.reduceMul, Nat.zero_mul]; first | done | rfl) | rfl) rfl (fun g3 => ?_)
    refine sx_appendE [_, _, _, _, _] elemIt rfl hv (by rw [icells_len, List.length_take]; omega) rfl (fun w hw => rd_own (i := 0) (xs := x.cells) rfl rfl hw) rfl (by show _ ≤ 9223372036854775807; omega) (by omega) (HLe.refl _) rfl (fun v2 hv2 => ?_)
    refine sx_assign rfl rfl ?_
    refine sx_nil (hZ _ _ ?_)
    refine nx_forget [(2, _), (4, _), (5, _), (10, _), (11, _), (12, _)] (Kn.cons rfl (Kn.cons rfl (Kn.cons rfl (Kn.cons rfl (Kn.cons rfl (Kn.cons rfl (Kn.nil))))))) ?_
    repeat (with_reducible refine nx_block_normal ?_)
    with_reducible refine nx_normal ?_
    refine awp_region (fun Z hZ => ?_)
    refine sx_add rfl rfl ((i + 1 : Nat) : Int) (by rw [IntWalk.i64_in _ (by omega)]; omega) rfl ?_
    refine sx_move rfl rfl ?_
    refine sx_nil (hZ _ _ ?_)
    refine nx_forget [(2, _), (4, _), (5, _), (10, _), (11, _), (12, _)] (Kn.cons rfl (Kn.cons rfl (Kn.cons rfl (Kn.cons rfl (Kn.cons rfl (Kn.cons rfl (Kn.nil))))))) ?_
    refine nx_round (i + 1, v2, aput M x.id 1) ⟨by show i + 1 ≤ _; omega, hv2, hM2, hq⟩ (by simp; omega) (Kn.cons rfl (Kn.cons rfl (Kn.cons rfl (Kn.cons rfl (Kn.cons rfl (Kn.cons rfl Kn.nil)))))) ?_
    simp only
    rw [icells_take hx]
    exact HLe.drop 2 rfl
  · refine awp_exit ?_
    repeat (with_reducible refine nx_then_exit ?_)
    with_reducible refine nx_block_exit ?_
    with_reducible refine nx_normal ?_
    have hke : i = L.length := by simp at h; omega
    subst hke
    rw [List.drop_length, ofE] at hq
    have h0 : ofQ L = 0 := hq.symm
    obtain ⟨o1, o2, o3, o4⟩ := of_ok h0
    rw [List.take_length, h0]
    have hol := o4.length_eq
    rcases Nat.eq_zero_or_pos L.length with hz | hz
    · obtain rfl : L = [] := List.length_eq_zero_iff.1 hz
      obtain ⟨Av, cv, rfl, hAv⟩ := hv.form
      refine awp_heap (.own g1 29 [.slice none 0 0] :: rowE (.slice Av 0 cv) 82 2 []) (HLe.sub ((List.Sublist.cons_cons _ (List.sublist_append_right T _)).trans (List.sublist_cons_self _ _))) ?_

      refine awp_seq_region (fun Z hZ => ?_)
      refine sx_move rfl rfl ?_
      refine sx_callP (sortE_fn Av cv) rfl rfl ?_
      refine sx_nil (hZ _ _ ?_)
      refine awp_forget [(2, _), (5, _)] (Kn.cons rfl (Kn.cons rfl (Kn.nil))) ?_
      refine awp_seq_region (fun Z hZ => ?_)
      refine sx_move rfl rfl ?_
      refine sx_build tyZ29 tyP29 rfl rfl (by first | (simp only [List.take_succ_cons, List.take_zero, List.drop_succ_cons, List.drop_zero, List.cons_append, List.nil_append, List.append_nil, List.length_cons, List.length_nil, Nat.reduceAdd, Nat.zero_add, Nat.add_zero, Value.cells, wrV, zrep_one, List.replicate_succ, List.replicate_zero, Nat.reduceMul, Nat.zero_mul]; first | done | rfl) | rfl) rfl ?_
      first | refine sx_store 0 rfl rfl rfl tyS29 (by first | (simp only [Value.cells]; first | done | rfl) | rfl) rfl rfl (by first | (simp only [List.length_cons, List.length_nil, Nat.reduceAdd, Nat.zero_add, Nat.add_zero]; first | done | rfl) | rfl) (by first | (simp only [List.take_succ_cons, List.take_zero, List.drop_succ_cons, List.drop_zero, List.cons_append, List.nil_append, List.append_nil, List.length_cons, List.length_nil, Nat.reduceAdd, Nat.zero_add, Nat.add_zero, Value.cells, wrV]; first | done | rfl) | rfl) (by first | (simp only [List.set_cons_succ, List.set_cons_zero]; first | done | rfl) | rfl) ?_
      refine sx_assign rfl rfl ?_
      refine sx_nil (hZ _ _ ?_)
      refine awp_forget [(2, _), (3, _)] (Kn.cons rfl (Kn.cons rfl (Kn.nil))) ?_
      refine awp_ret ?_
      exact nx_ret2h _ rfl (ResOk.cell 0 rfl rfl tyA29 tyS29 rfl) rfl (HLe.drop 1 rfl) ⟨_, rfl, .inl ⟨rfl, hv, rfl⟩⟩
    · obtain ⟨gv, cv, rfl⟩ := hv.some hz
      refine awp_heap ([.ob gv (RowP 82 2 L.length cv (icells L))] ++ [.own g1 29 [.slice none 0 0]]) ((HLe.swap _ _).trans (HLe.sub ((List.Sublist.cons_cons _ (List.sublist_append_right T _)).trans (List.sublist_cons_self _ _)))) ?_

      refine awp_seq_region (fun Z hZ => ?_)
      refine sx_move rfl rfl ?_
      refine sx_callO [.ob gv (RowP 82 2 L.length cv (icells L))] [.own g1 29 [.slice none 0 0]] (sort_fn gv L.length cv L rfl (by omega)) rfl (HLe.refl _) rfl ?_
      rintro v H' ⟨rfl, Ms, hp, hs, rfl⟩
      obtain rfl := sort_is o1 hp hs
      refine sx_heap [.ob gv (RowP 82 2 L.length cv (icells (sortI L))), .own g1 29 [.slice none 0 0]] (HLe.refl _) ?_
      refine sx_nil (hZ _ _ ?_)
      refine awp_forget [(2, _), (5, _)] (Kn.cons rfl (Kn.cons rfl (Kn.nil))) ?_
      refine awp_seq_region (fun Z hZ => ?_)
      refine sx_move rfl rfl ?_
      refine sx_build tyZ29 tyP29 rfl rfl (by first | (simp only [List.take_succ_cons, List.take_zero, List.drop_succ_cons, List.drop_zero, List.cons_append, List.nil_append, List.append_nil, List.length_cons, List.length_nil, Nat.reduceAdd, Nat.zero_add, Nat.add_zero, Value.cells, wrV, zrep_one, List.replicate_succ, List.replicate_zero, Nat.reduceMul, Nat.zero_mul]; first | done | rfl) | rfl) rfl ?_
      refine sx_store 1 rfl rfl rfl tyS29 (by first | (simp only [Value.cells]; first | done | rfl) | rfl) rfl rfl (by first | (simp only [List.length_cons, List.length_nil, Nat.reduceAdd, Nat.zero_add, Nat.add_zero]; first | done | rfl) | rfl) (by first | (simp only [List.take_succ_cons, List.take_zero, List.drop_succ_cons, List.drop_zero, List.cons_append, List.nil_append, List.append_nil, List.length_cons, List.length_nil, Nat.reduceAdd, Nat.zero_add, Nat.add_zero, Value.cells, wrV]; first | done | rfl) | rfl) (by first | (simp only [List.set_cons_succ, List.set_cons_zero]; first | done | rfl) | rfl) ?_
      refine sx_assign rfl rfl ?_
      refine sx_nil (hZ _ _ ?_)
      refine awp_forget [(2, _), (3, _)] (Kn.cons rfl (Kn.cons rfl (Kn.nil))) ?_
      refine awp_ret ?_
      exact nx_ret2h [.ob gv (RowP 82 2 L.length cv (icells (sortI L)))] rfl (ResOk.cell 1 rfl rfl tyA29 tyS29 rfl) rfl (HLe.sub (List.sublist_append_left [_] [_])) ⟨_, rfl, .inl ⟨rfl, by rw [hol]; exact RowOk.mk gv _ cv, rfl⟩⟩
end Go.Proofs.Ytmebmkkllhnmlaa

namespace Go.Proofs.Ytmebmkkllhnmlaa
open Go.RowKit
set_option linter.unusedVariables false
set_option linter.unusedSimpArgs false
/-- The least zoom, and the greatest. -/
def zLo (L : List It) : Int := if L = [] then 0 else zoomQ (itAt L 0).id
def zHi (L : List It) : Int := if L = [] then 0 else zoomQ (itAt L (L.length - 1)).id
end Go.Proofs.Ytmebmkkllhnmlaa

namespace Go.Proofs.Ytmebmkkllhnmlaa
open Go.RowKit
set_option linter.unusedVariables false
set_option linter.unusedSimpArgs false
def putE (k : Nat) (s : List UInt8) (L : List It) : Nat := wrongQ k s (fullQ k L)
def putQ (k : Nat) (s : List UInt8) (L : List It) : List It := if putE k s L = 0 then cPut k s L else L
theorem rfull_eq {L : List It} (hr : Rise L) (k : Nat) : rfullQ k L = fullQ k L := by
  unfold rfullQ fullQ
  rw [(get_eq hr k).1]
theorem rput_fn2 (A : Option Addr) (c : Nat) (L : List It) (T : Heap) (hA : ArgOk A L.length) (hT : 0 < L.length → T = roE A (icells L)) (hro : Ro T) (hL : L.length ≤ 100000) (hr : Rise L) (k : Nat) (s : List UInt8) :
    Fn Try.prog 37 [.slice A L.length c, uq k, .string (str s)] T fun v H' => ∃ u, v = .tuple #[u, iq (putE k s L)] ∧ ((putE k s L = 0 ∧ RowOk u (cPut k s L).length ∧ H' = rowE u 78 2 (icells (cPut k s L))) ∨ (¬ putE k s L = 0 ∧ u = .slice A L.length c ∧ H' = [])) := by
  have h := rput_fn A c L T hA hT hro hL k s
  rw [rfull_eq hr, ← put_eq hr] at h
  exact h
theorem put_fn2 (A : Option Addr) (c : Nat) (L : List It) (T : Heap) (hA : SlIn A L.length c) (hT : 0 < L.length → T = roE A (icells L)) (hro : Ro T) (hL : L.length ≤ 100000) (hr : Rise L) (k : Nat) (s : List UInt8) :
    Fn Try.prog 35 [chV A L.length c, uq k, .string (str s)] T fun v H' => ∃ u, v = .tuple #[.agg #[u], iq (putE k s L)] ∧ ((putE k s L = 0 ∧ RowOk u (cPut k s L).length ∧ H' = rowE u 82 2 (icells (cPut k s L))) ∨ (¬ putE k s L = 0 ∧ u = .slice A L.length c ∧ H' = [])) :=
  put_fn A c L T hA hT hro hL hr k s
theorem putQ_new {k : Nat} {s : List UInt8} {L : List It} (h : putE k s L = 0) : putQ k s L = cPut k s L := by unfold putQ; rw [if_pos h]
theorem putQ_old {k : Nat} {s : List UInt8} {L : List It} (h : ¬ putE k s L = 0) : putQ k s L = L := by unfold putQ; rw [if_neg h]
theorem ChOk.putQ {L : List It} (h : ChOk L) (k : Nat) (s : List UInt8) : ChOk (putQ k s L) := by
  unfold Go.Proofs.Ytmebmkkllhnmlaa.putQ
  split
  · rename_i h1; exact h.put h1
  · exact h
section
variable {P : Program} {N : Frm} {w0 w : World} {Wr : List Nat} {ops : Array Oper} {rest : List Oper} {fr : Fr} {H : Heap} {Z : Fr → Heap → Prop} {d ty : Nat} {pos : String} {after : Array Edge}
theorem sx_put {xs : List Operand} {ts : Array TypeId} {A : Option Addr} {c : Nat} (L : List It) (k : Nat) (s : List UInt8) (hA : SlIn A L.length c) (hS : (roE A (icells L)).Sublist H) (hok : ChOk L) (hx : evs fr xs = some [chV A L.length c, uq k, .string (str s)]) (hN : Nat.ble (d + 1) N.n = true)
    (h : ∀ A' c', SlIn A' (putQ k s L).length c' → sx Try.prog N w0 Wr ops rest ((d, .tuple #[chV A' (putQ k s L).length c', iq (putE k s L)]) :: fr) (roE A' (icells (putQ k s L)) ++ H) Z) :
    sx Try.prog N w0 Wr ops (⟨some d, .call { callee := .value (.func 35), args := xs.toArray, argTypes := ts }, ty, pos, after, none⟩ :: rest) fr H Z :=
  sx_callRow (fun u => .tuple #[.agg #[u], iq (putE k s L)]) (roE A (icells L)) (put_fn2 A c L _ hA (fun _ => rfl) (Ro.roE _ _) (by have := hok.len; omega) hok.rise k s) hx hS (Ro.roE _ _) hN
    (fun hp => by rw [putQ_new hp]; exact ⟨rfl, rfl⟩) (fun hp => by rw [putQ_old hp]; exact ⟨rfl, hA, hS⟩) h
end
end Go.Proofs.Ytmebmkkllhnmlaa

namespace Go.Proofs.Ytmebmkkllhnmlaa
open Go.RowKit
set_option linter.unusedVariables false
set_option linter.unusedSimpArgs false
section
variable {P : Program} {N : Frm} {w0 w : World} {Wr : List Nat} {ops : Array Oper} {rest : List Oper} {fr : Fr} {H : Heap} {Z : Fr → Heap → Prop} {d ty : Nat} {pos : String} {after : Array Edge}
theorem row_none {A : Option Addr} {n c : Nat} (hv : RowOk (.slice A n c) n) : A = none → c = 0 := fun ha => by
  rcases hv with ⟨h1, _⟩ | ⟨g, c', h1⟩
  · injection h1
  · injection h1 with h2 _ _; rw [ha] at h2; cases h2
/-- A call that reads a row of one's own, and hands back a new one, if p, or this. -/
theorem sx_callRowW {f : FuncId} {xs : List Operand} {vs : List Value} {ts : Array TypeId} {e : TypeId} {size n n1 n2 c : Nat} {A : Option Addr} {xs0 ys zs : List Value} {p : Prop} (mk : Value → Value) (X : Heap) (hv : RowOk (.slice A n1 c) n1) (hH : HLe (X ++ rowE (.slice A n1 c) e size xs0) H)
    (hc : SlIn A n1 c → Fn P f vs (roE A xs0) fun v H' => ∃ u, v = mk u ∧ ((p ∧ RowOk u n ∧ H' = rowE u e size ys) ∨ (¬ p ∧ u = .slice A n1 c ∧ H' = []))) (hx : evs fr xs = some vs) (hN : Nat.ble (d + 1) N.n = true)
    (hnew : p → n = n2 ∧ ys = zs) (hold : ¬ p → n1 = n2 ∧ xs0 = zs)
    (h : ∀ u, RowOk u n2 → (¬ p → u = .slice A n1 c) → sx P N w0 Wr ops rest ((d, mk u) :: fr) (X ++ rowE u e size zs) Z) :
    sx P N w0 Wr ops (⟨some d, .call { callee := .value (.func f), args := xs.toArray, argTypes := ts }, ty, pos, after, none⟩ :: rest) fr H Z := by
  refine sx_heap _ hH ?_
  refine sx_pure (fun w hw => row_cap hv (fun x hx => List.mem_append_right _ hx) hw) (fun hcap => ?_)
  obtain ⟨A2, c2, he, hA, hle⟩ := hv.ro
  injection he with e1 _ e3
  subst e1 e3
  refine sx_callVU (roE A xs0) (hc ⟨hA, hcap.1, row_none hv⟩) hx (row_view hle X _ _ _) (Ro.roE _ _) hN ?_
  rintro v H' ⟨u, rfl, ⟨hp, hu, rfl⟩ | ⟨hp, rfl, rfl⟩⟩
  · obtain ⟨rfl, rfl⟩ := hnew hp
    rw [rowE_flt]
    exact sx_heap (X ++ rowE u e size ys) ((HLe.swap _ _).trans (HLe.sub (List.Sublist.append_left (List.sublist_append_left _ _) _))) (h u hu (fun hn => absurd hp hn))
  · obtain ⟨rfl, rfl⟩ := hold hp
    exact h _ hv (fun _ => rfl)
end
/-- What an argument's items are. -/
def ItsTx (L : List It) : Prop := ∀ e ∈ L, e.id < 18446744073709551616 ∧ e.tx.length ≤ maxLen
theorem over_fn (A : Option Addr) (c : Nat) (L : List It) (T : Heap) (hA : ArgOk A L.length) (hT : 0 < L.length → T = roE A (icells L)) (hro : Ro T) (hL : L.length ≤ maxLen) (hE : ItsTx L) (m b : Nat) (hm : m ≤ maxLen) (hb : b ≤ maxLen) :
    Fn Try.prog 8 [.slice A L.length c, iq m, iq b] T fun v _ => v = .bool (decide (b < cBytes L ∨ m < L.length)) := by
  have hL' : L.length ≤ 9223372036854775807 := hL
  have hm' : m ≤ 9223372036854775807 := hm
  have hb' : b ≤ 9223372036854775807 := hb
  refine Fn.enter (N := 28) Try.func8 rfl (by kernel_rfl) rfl (fun w0 => ?_)

  refine awp_seq_region (fun Z hZ => ?_)
  refine sx_assign rfl rfl ?_
  refine sx_nil (hZ _ _ ?_)
  refine awp_forget [(0, _), (1, _), (2, _)] (Kn.cons rfl (Kn.cons rfl (Kn.cons rfl (Kn.nil)))) ?_
  refine awp_seq ?_
  refine awp_seq_region (fun Z hZ => ?_)
  refine sx_assign rfl rfl ?_
  refine sx_nil (hZ _ _ ?_)
  refine awp_forget [(0, _), (1, _), (2, _), (7, _)] (Kn.cons rfl (Kn.cons rfl (Kn.cons rfl (Kn.cons rfl (Kn.nil))))) ?_
  refine awp_block ?_
  refine awp_loop (ι := Nat) (fun k => [(0, .slice A L.length c), (1, iq (m : Nat)), (2, iq ((b - cBytes (L.take k) : Nat) : Nat)), (7, iq (k : Nat))]) (fun _ => T)
    (fun k => k ≤ L.length ∧ cBytes (L.take k) ≤ b) (fun k => L.length - k) 0 ⟨by simp, by simp [cBytes]⟩ (Kn.cons rfl (Kn.cons rfl (Kn.cons (by simp [cBytes, lk, Nat.beq]) (Kn.cons rfl Kn.nil)))) (HLe.refl _) ?_
  rintro k ⟨hk, hq⟩

  refine awp_seq ?_
  refine awp_seq_region (fun Z hZ => ?_)
  refine sx_move rfl rfl ?_
  refine sx_move rfl rfl ?_
  refine sx_len Try.underlying22 rfl rfl ?_
  refine sx_lss rfl rfl rfl ?_
  refine sx_nil (hZ _ _ ?_)
  refine awp_forget [(0, _), (1, _), (2, _), (7, _), (11, _)] (Kn.cons rfl (Kn.cons rfl (Kn.cons rfl (Kn.cons rfl (Kn.cons rfl (Kn.nil)))))) ?_
  refine awp_cond rfl (fun h => ?_) (fun h => ?_)
  · have hlt : k < L.length := by simpa using h
    have hx := itAt_at hlt
    have hs := cBytes_snoc hx
    have hl := cBytes_le L (k + 1)
    obtain ⟨x, hxe⟩ : ∃ x, itAt L k = x := ⟨_, rfl⟩
    rw [hxe] at hx hs
    have htl : x.tx.length ≤ 9223372036854775807 := (hE x (List.mem_of_getElem? hx)).2
    obtain ⟨g, o, rfl⟩ := hA (by omega)
    obtain rfl := hT (by omega)
    refine awp_skip ?_
    with_reducible refine nx_normal ?_
    refine awp_seq (awp_block ?_)

    refine awp_seq_region (fun Z hZ => ?_)
    refine sx_move rfl rfl ?_
    refine sx_move rfl rfl ?_
    refine sx_move rfl rfl ?_
    refine sx_indexAddr (o + k * 2) Try.underlying22 tyS78 rfl rfl (by omega) (by simp) rfl ?_
    refine sx_fieldAddr rfl tyF78_1 (by first | (simp only [Nat.reduceAdd, Nat.add_zero, Nat.zero_add]; first | done | rfl) | rfl) rfl ?_
    refine sx_loadRo 0 rfl rfl (k * 2 + 1) rfl tyA9 tyS9 (icells_tx hx) rfl ?_
    refine sx_lenS Try.underlying9 rfl rfl ?_
    refine sx_sub rfl rfl (((b - cBytes (L.take k) : Nat) : Int) - (x.tx.length : Nat)) (by rw [IntWalk.i64_in _ (by omega)]) rfl ?_
    refine sx_assign rfl rfl ?_
    refine sx_nil (hZ _ _ ?_)
    refine awp_forget [(0, _), (1, _), (2, _), (7, _)] (Kn.cons rfl (Kn.cons rfl (Kn.cons rfl (Kn.cons rfl (Kn.nil))))) ?_
    refine awp_seq_region (fun Z hZ => ?_)
    refine sx_move rfl rfl ?_
    refine sx_lss rfl rfl rfl ?_
    refine sx_nil (hZ _ _ ?_)
    refine awp_forget [(0, _), (1, _), (2, _), (7, _), (23, _)] (Kn.cons rfl (Kn.cons rfl (Kn.cons rfl (Kn.cons rfl (Kn.cons rfl (Kn.nil)))))) ?_
    refine awp_cond rfl (fun h2 => ?_) (fun h2 => ?_)
    · have h2' : b < cBytes L := by simp at h2; omega
      rw [decide_eq_true (p := b < cBytes L ∨ m < L.length) (.inl h2')]
      refine awp_seq_region (fun Z hZ => ?_)
      refine sx_assign rfl rfl ?_
      refine sx_nil (hZ _ _ ?_)
      refine awp_forget [(6, _)] (Kn.cons rfl (Kn.nil)) ?_
      refine awp_ret ?_
      repeat (with_reducible (first | refine nx_then_ret ?_ | refine nx_block_ret ?_))
      exact nx_ret1 rfl rfl rfl
    have h2' : cBytes (L.take (k + 1)) ≤ b := by simp at h2; omega
    have h3 : ((b - cBytes (L.take k) : Nat) : Int) - (x.tx.length : Nat) = ((b - cBytes (L.take (k + 1)) : Nat) : Int) := by omega
    rw [h3]
    refine awp_skip ?_
    repeat (with_reducible refine nx_block_normal ?_)
    with_reducible refine nx_normal ?_
    refine awp_region (fun Z hZ => ?_)
    refine sx_move rfl rfl ?_
    refine sx_add rfl rfl ((k + 1 : Nat) : Int) (by rw [IntWalk.i64_in _ (by omega)]; omega) rfl ?_
    refine sx_assign rfl rfl ?_
    refine sx_nil (hZ _ _ ?_)
    refine nx_forget [(0, _), (1, _), (2, _), (7, _)] (Kn.cons rfl (Kn.cons rfl (Kn.cons rfl (Kn.cons rfl (Kn.nil))))) ?_
    exact nx_round (k + 1) ⟨by omega, h2'⟩ (by omega) (Kn.cons rfl (Kn.cons rfl (Kn.cons rfl (Kn.cons rfl Kn.nil)))) (HLe.refl _)
  · refine awp_exit ?_
    repeat (with_reducible refine nx_then_exit ?_)
    with_reducible refine nx_block_exit ?_
    with_reducible refine nx_normal ?_
    have hke : k = L.length := by simp at h; omega
    subst hke
    rw [List.take_length] at hq
    have hd : decide (b < cBytes L ∨ m < L.length) = decide ((m : Int) < (L.length : Int)) := by
      rw [Bool.eq_iff_iff]
      simp
      omega
    rw [hd]
    refine awp_seq_region (fun Z hZ => ?_)
    refine sx_move rfl rfl ?_
    refine sx_len Try.underlying22 rfl rfl ?_
    refine sx_move rfl rfl ?_
    refine sx_gtr rfl rfl rfl ?_
    refine sx_assign rfl rfl ?_
    refine sx_nil (hZ _ _ ?_)
    refine awp_forget [(6, _)] (Kn.cons rfl (Kn.nil)) ?_
    refine awp_ret ?_
    exact nx_ret1 rfl rfl rfl
/-- Items that are put, as far as they may be. -/
def ownQ (L : List It) : List It := L.foldl (fun acc e => putQ e.id e.tx acc) []
theorem ownQ_snoc (L : List It) (x : It) : ownQ (L ++ [x]) = putQ x.id x.tx (ownQ L) := by simp [ownQ]
theorem ownQ_ok (L : List It) : ChOk (ownQ L) := by
  have h : ∀ (L acc : List It), ChOk acc → ChOk (L.foldl (fun acc e => putQ e.id e.tx acc) acc) := by
    intro L
    induction L with
    | nil => exact fun _ h => h
    | cons e r ih => exact fun acc h => ih _ (h.putQ _ _)
  exact h L [] ChOk.nil
theorem own_fn (A : Option Addr) (c : Nat) (L : List It) (T : Heap) (hA : ArgOk A L.length) (hT : 0 < L.length → T = roE A (icells L)) (hro : Ro T) (hL : L.length ≤ 100000) :
    Fn Try.prog 10 [.slice A L.length c] T fun v H' => ∃ u1 u2, v = .tuple #[.agg #[u1], u2] ∧ RowOk u1 (ownQ L).length ∧ RowOk u2 (ownQ L).length ∧ H' = rowE u1 82 2 (icells (ownQ L)) ++ rowE u2 78 2 (icells (ownQ L)) := by
  refine Fn.enter (N := 55) Try.func10 rfl (by kernel_rfl) rfl (fun w0 => ?_)

  refine awp_seq_region (fun Z hZ => ?_)
  refine sx_alloc tyZ29 rfl (fun g1 => ?_)
  refine sx_assign rfl rfl ?_
  refine sx_nil (hZ _ _ ?_)
  refine awp_forget [(0, _), (2, _)] (Kn.cons rfl (Kn.cons rfl (Kn.nil))) ?_
  refine awp_seq_region (fun Z hZ => ?_)
  refine sx_alloc tyZ29 rfl (fun g2 => ?_)
  refine sx_nil (hZ _ _ ?_)
  refine awp_forget [(0, _), (2, _), (4, _)] (Kn.cons rfl (Kn.cons rfl (Kn.cons rfl (Kn.nil)))) ?_
  refine awp_seq_region (fun Z hZ => ?_)
  refine sx_assign rfl rfl ?_
  refine sx_nil (hZ _ _ ?_)
  refine awp_forget [(0, _), (2, _), (4, _), (5, _)] (Kn.cons rfl (Kn.cons rfl (Kn.cons rfl (Kn.cons rfl (Kn.nil))))) ?_
  refine awp_seq ?_
  refine awp_seq_region (fun Z hZ => ?_)
  refine sx_assign rfl rfl ?_
  refine sx_nil (hZ _ _ ?_)
  refine awp_forget [(0, _), (2, _), (4, _), (5, _), (6, _)] (Kn.cons rfl (Kn.cons rfl (Kn.cons rfl (Kn.cons rfl (Kn.cons rfl (Kn.nil)))))) ?_
  refine awp_block ?_
  refine awp_loop (ι := Nat × Value × Value) (fun i => [(0, .slice A L.length c), (2, ptr g1 0), (4, ptr g2 0), (5, i.2.2), (6, iq (i.1 : Nat))])
    (fun i => .own g2 29 [i.2.1] :: .own g1 29 [.slice none 0 0] :: (T ++ (rowE i.2.1 82 2 (icells (ownQ (L.take i.1))) ++ rowE i.2.2 78 2 (icells (ownQ (L.take i.1))))))
    (fun i => i.1 ≤ L.length ∧ RowOk i.2.1 (ownQ (L.take i.1)).length ∧ RowOk i.2.2 (ownQ (L.take i.1)).length) (fun i => L.length - i.1) (0, .slice none 0 0, .slice none 0 0) ⟨by simp, RowOk.nil, RowOk.nil⟩ (Kn.cons rfl (Kn.cons rfl (Kn.cons rfl (Kn.cons rfl (Kn.cons rfl Kn.nil))))) (by simp [rowE]; exact HLe.refl _) ?_
  rintro ⟨i, u1, u2⟩ ⟨hi, hu1, hu2⟩
  simp only at hi hu1 hu2

  refine awp_seq ?_
  refine awp_seq_region (fun Z hZ => ?_)
  refine sx_move rfl rfl ?_
  refine sx_move rfl rfl ?_
  refine sx_len Try.underlying22 rfl rfl ?_
  refine sx_lss rfl rfl rfl ?_
  refine sx_nil (hZ _ _ ?_)
  refine awp_forget [(0, _), (2, _), (4, _), (5, _), (6, _), (14, _)] (Kn.cons rfl (Kn.cons rfl (Kn.cons rfl (Kn.cons rfl (Kn.cons rfl (Kn.cons rfl (Kn.nil))))))) ?_
  refine awp_cond rfl (fun h => ?_) (fun h => ?_)
  · have hlt : i < L.length := by simpa using h
    have hx := itAt_at hlt
    obtain ⟨x, hxe⟩ : ∃ x, itAt L i = x := ⟨_, rfl⟩
    rw [hxe] at hx
    have htk : L.take (i + 1) = L.take i ++ [x] := by rw [List.take_add_one, hx]; rfl
    have hok := ownQ_ok (L.take i)
    have hsn := ownQ_snoc (L.take i) x
    rw [← htk] at hsn
    obtain ⟨O, hO⟩ : ∃ O, ownQ (L.take i) = O := ⟨_, rfl⟩
    obtain ⟨e, he⟩ : ∃ e, putE x.id x.tx O = e := ⟨_, rfl⟩
    have hll := hok.len
    rw [hO] at hok hsn hu1 hu2 hll ⊢
    have hput := fun A c (hA : SlIn A O.length c) => put_fn2 A c O (roE A (icells O)) hA (fun _ => rfl) (Ro.roE _ _) (by omega) hok.rise x.id x.tx
    have hputR := fun A c (hA : SlIn A O.length c) => rput_fn2 A c O (roE A (icells O)) hA.arg (fun _ => rfl) (Ro.roE _ _) (by omega) hok.rise x.id x.tx
    have hq1 : putE x.id x.tx O = 0 → (cPut x.id x.tx O).length = (putQ x.id x.tx O).length ∧ icells (cPut x.id x.tx O) = icells (putQ x.id x.tx O) := fun hp => by rw [putQ_new hp]; exact ⟨rfl, rfl⟩
    have hq2 : ¬ putE x.id x.tx O = 0 → O.length = (putQ x.id x.tx O).length ∧ icells O = icells (putQ x.id x.tx O) := fun hp => by rw [putQ_old hp]; exact ⟨rfl, rfl⟩
    rw [he] at hput hputR hq1 hq2
    rw [← hsn] at hq1 hq2
    obtain ⟨g, o, rfl⟩ := hA (by omega)
    obtain rfl := hT (by omega)
    obtain ⟨A1, c1, rfl, hA1⟩ := hu1.form
    obtain ⟨A2, c2, rfl, hA2⟩ := hu2.form
    refine awp_heap (.own g2 29 [.slice A1 O.length c1] :: .ro g o (icells L) :: .own g1 29 [.slice none 0 0] :: (rowE (.slice A1 O.length c1) 82 2 (icells O) ++ rowE (.slice A2 O.length c2) 78 2 (icells O))) (fun _ _ _ hw => hw.perm (List.Perm.cons _ (List.Perm.swap _ _ _))) ?_
    refine awp_skip ?_
    with_reducible refine nx_normal ?_
    refine awp_seq (awp_block ?_)

    refine awk_seq_region (fun j : Value × Nat => [(0, .slice (some ⟨g, o, none⟩) L.length c), (2, ptr g1 0), (4, ptr g2 0), (5, .slice A2 O.length c2), (6, iq (i : Nat)), (7, ptr j.2 0), (8, iq (e : Nat))]) (fun j => .own j.2 29 [j.1] :: .ro g o (icells L) :: .own g2 29 [.slice A1 O.length c1] :: .own g1 29 [.slice none 0 0] :: (rowE j.1 82 2 (icells (ownQ (L.take (i + 1)))) ++ rowE (.slice A2 O.length c2) 78 2 (icells O))) (fun j => RowOk j.1 (ownQ (L.take (i + 1))).length ∧ (¬ e = 0 → j.1 = .slice A1 O.length c1)) _ [11, 15, 16] [(0, true), (1, true), (2, true), (3, true), (4, true), (5, true), (6, true), (7, true), (8, true), (9, true), (10, true), (11, false), (12, true), (13, true), (14, true), (15, false), (16, false), (17, true)] [(0, true), (1, true), (2, true), (3, true), (4, true), (5, true), (6, true), (7, true), (8, true), (9, true), (10, true), (15, false), (11, false), (12, true), (13, true), (14, true), (16, false), (17, true)] mixed (by kernel_rfl) (HLe.pick [0, 1] (by simp) (by simp only [pick, List.filterMap_cons, List.filterMap_nil, List.getElem?_cons_succ, List.getElem?_cons_zero]; rfl)) ?_ ?_ ?_
    · refine tw_p rfl ?_
      refine sv_loadA 0 rfl rfl tyA29 tyS29 (by first | (simp only [List.length_cons, List.length_nil, Nat.reduceAdd, Nat.zero_add, Nat.add_zero]; first | done | rfl) | rfl) (by first | (simp only [List.take_succ_cons, List.take_zero, List.drop_succ_cons, List.drop_zero, List.cons_append, List.nil_append, List.append_nil, List.length_cons, List.length_nil, Nat.reduceAdd, Nat.zero_add, Nat.add_zero, Value.cells, wrV]; first | done | rfl) | rfl) rfl ?_
      refine sv_nil ?_
      refine tw_p rfl ?_
      refine sv_move rfl rfl ?_
      refine sv_nil ?_
      refine tw_p rfl ?_
      refine sv_move rfl rfl ?_
      refine sv_nil ?_
      refine tw_p rfl ?_
      refine sv_indexAddr (o + i * 2) Try.underlying22 tyS78 rfl rfl (by omega) (by simp) rfl ?_
      refine sv_nil ?_
      refine tw_p rfl ?_
      refine sv_fieldAddr rfl tyF78_0 (by first | (simp only [Nat.reduceAdd, Nat.add_zero, Nat.zero_add]; first | done | rfl) | rfl) rfl ?_
      refine sv_nil ?_
      refine tw_p rfl ?_
      refine sv_loadRo 1 rfl rfl (i * 2) rfl tyA66 tyS66 (icells_id hx) rfl ?_
      refine sv_nil ?_
      refine tw_p rfl ?_
      refine sv_move rfl rfl ?_
      refine sv_nil ?_
      refine tw_p rfl ?_
      refine sv_move rfl rfl ?_
      refine sv_nil ?_
      refine tw_p rfl ?_
      refine sv_indexAddr (o + i * 2) Try.underlying22 tyS78 rfl rfl (by omega) (by simp) rfl ?_
      refine sv_nil ?_
      refine tw_p rfl ?_
      refine sv_fieldAddr rfl tyF78_1 (by first | (simp only [Nat.reduceAdd, Nat.add_zero, Nat.zero_add]; first | done | rfl) | rfl) rfl ?_
      refine sv_nil ?_
      refine tw_p rfl ?_
      refine sv_loadRo 1 rfl rfl (i * 2 + 1) rfl tyA9 tyS9 (icells_tx hx) rfl ?_
      refine sv_nil ?_
      refine tw_g rfl ?_
      refine sx_callRowW (fun u => .tuple #[.agg #[u], iq e]) _ hu1 (HLe.toEnd [_, _, _] _ _) (hput A1 c1) rfl rfl hq1 hq2 (fun u3 hu3 hs3 => ?_)
      obtain ⟨A3, c3, rfl, _⟩ := hu3.form
      refine sx_nil ⟨HLe.pick [0, 1] (by simp) rfl, ?_⟩
      refine tw_p rfl ?_
      refine sv_move rfl rfl ?_
      refine sv_nil ?_
      refine tw_p rfl ?_
      refine sv_extract rfl rfl rfl ?_
      refine sv_nil ?_
      refine tw_p rfl ?_
      refine sv_extract rfl rfl rfl ?_
      refine sv_nil ?_
      refine tw_g rfl ?_
      refine sx_alloc tyZ29 rfl (fun g3 => ?_)
      refine sx_nil ⟨HLe.pick [1, 2] (by simp) rfl, ?_⟩
      refine tw_g rfl ?_
      refine sx_store 0 rfl rfl rfl tyS29 (by first | (simp only [Value.cells]; first | done | rfl) | rfl) rfl rfl (by first | (simp only [List.length_cons, List.length_nil, Nat.reduceAdd, Nat.zero_add, Nat.add_zero]; first | done | rfl) | rfl) (by first | (simp only [List.take_succ_cons, List.take_zero, List.drop_succ_cons, List.drop_zero, List.cons_append, List.nil_append, List.append_nil, List.length_cons, List.length_nil, Nat.reduceAdd, Nat.zero_add, Nat.add_zero, Value.cells, wrV]; first | done | rfl) | rfl) (by first | (simp only [List.set_cons_succ, List.set_cons_zero]; first | done | rfl) | rfl) ?_
      refine sx_nil ⟨HLe.pick [1, 2] (by simp) rfl, ?_⟩
      refine tw_p rfl ?_
      refine sv_assign rfl rfl ?_
      refine sv_nil ?_
      refine tw_nil ?_
      exact ⟨(_, g3), ⟨hu3, hs3⟩, Kn.cons rfl (Kn.cons rfl (Kn.cons rfl (Kn.cons rfl (Kn.cons rfl (Kn.cons rfl (Kn.cons rfl Kn.nil)))))), fun _ _ _ hw => hw.perm (.cons _ ((List.Perm.swap _ _ _).trans (.cons _ (.cons _ (.cons _ List.perm_append_comm)))))⟩
    · refine tw_p rfl ?_
      refine sv_loadA 0 rfl rfl tyA29 tyS29 (by first | (simp only [List.length_cons, List.length_nil, Nat.reduceAdd, Nat.zero_add, Nat.add_zero]; first | done | rfl) | rfl) (by first | (simp only [List.take_succ_cons, List.take_zero, List.drop_succ_cons, List.drop_zero, List.cons_append, List.nil_append, List.append_nil, List.length_cons, List.length_nil, Nat.reduceAdd, Nat.zero_add, Nat.add_zero, Value.cells, wrV]; first | done | rfl) | rfl) rfl ?_
      refine sv_nil ?_
      refine tw_p rfl ?_
      refine sv_move rfl rfl ?_
      refine sv_nil ?_
      refine tw_p rfl ?_
      refine sv_move rfl rfl ?_
      refine sv_nil ?_
      refine tw_p rfl ?_
      refine sv_indexAddr (o + i * 2) Try.underlying22 tyS78 rfl rfl (by omega) (by simp) rfl ?_
      refine sv_nil ?_
      refine tw_p rfl ?_
      refine sv_fieldAddr rfl tyF78_0 (by first | (simp only [Nat.reduceAdd, Nat.add_zero, Nat.zero_add]; first | done | rfl) | rfl) rfl ?_
      refine sv_nil ?_
      refine tw_p rfl ?_
      refine sv_loadRo 1 rfl rfl (i * 2) rfl tyA66 tyS66 (icells_id hx) rfl ?_
      refine sv_nil ?_
      refine tw_p rfl ?_
      refine sv_move rfl rfl ?_
      refine sv_nil ?_
      refine tw_p rfl ?_
      refine sv_move rfl rfl ?_
      refine sv_nil ?_
      refine tw_p rfl ?_
      refine sv_indexAddr (o + i * 2) Try.underlying22 tyS78 rfl rfl (by omega) (by simp) rfl ?_
      refine sv_nil ?_
      refine tw_p rfl ?_
      refine sv_fieldAddr rfl tyF78_1 (by first | (simp only [Nat.reduceAdd, Nat.add_zero, Nat.zero_add]; first | done | rfl) | rfl) rfl ?_
      refine sv_nil ?_
      refine tw_p rfl ?_
      refine sv_loadRo 1 rfl rfl (i * 2 + 1) rfl tyA9 tyS9 (icells_tx hx) rfl ?_
      refine sv_nil ?_
      refine tw_g rfl ?_
      refine sx_alloc tyZ29 rfl (fun g3 => ?_)
      refine sx_nil ⟨HLe.pick [1, 2] (by simp) rfl, ?_⟩
      refine tw_g rfl ?_
      refine sx_callRowW (fun u => .tuple #[.agg #[u], iq e]) _ hu1 (HLe.toEnd [_, _, _, _] _ _) (hput A1 c1) rfl rfl hq1 hq2 (fun u3 hu3 hs3 => ?_)
      obtain ⟨A3, c3, rfl, _⟩ := hu3.form
      refine sx_nil ⟨HLe.pick [1, 2] (by simp) rfl, ?_⟩
      refine tw_p rfl ?_
      refine sv_move rfl rfl ?_
      refine sv_nil ?_
      refine tw_p rfl ?_
      refine sv_extract rfl rfl rfl ?_
      refine sv_nil ?_
      refine tw_p rfl ?_
      refine sv_extract rfl rfl rfl ?_
      refine sv_nil ?_
      refine tw_g rfl ?_
      refine sx_store 0 rfl rfl rfl tyS29 (by first | (simp only [Value.cells]; first | done | rfl) | rfl) rfl rfl (by first | (simp only [List.length_cons, List.length_nil, Nat.reduceAdd, Nat.zero_add, Nat.add_zero]; first | done | rfl) | rfl) (by first | (simp only [List.take_succ_cons, List.take_zero, List.drop_succ_cons, List.drop_zero, List.cons_append, List.nil_append, List.append_nil, List.length_cons, List.length_nil, Nat.reduceAdd, Nat.zero_add, Nat.add_zero, Value.cells, wrV]; first | done | rfl) | rfl) (by first | (simp only [List.set_cons_succ, List.set_cons_zero]; first | done | rfl) | rfl) ?_
      refine sx_nil ⟨HLe.pick [1, 2] (by simp) rfl, ?_⟩
      refine tw_p rfl ?_
      refine sv_assign rfl rfl ?_
      refine sv_nil ?_
      refine tw_nil ?_
      exact ⟨(_, g3), ⟨hu3, hs3⟩, Kn.cons rfl (Kn.cons rfl (Kn.cons rfl (Kn.cons rfl (Kn.cons rfl (Kn.cons rfl (Kn.cons rfl Kn.nil)))))), fun _ _ _ hw => hw.perm (.cons _ ((List.Perm.swap _ _ _).trans (.cons _ (.cons _ (.cons _ List.perm_append_comm)))))⟩
    rintro ⟨u3, g7⟩ ⟨hu3, hs3⟩
    simp only at hu3 hs3
    obtain ⟨A3, c3, rfl, _⟩ := hu3.form
    refine awp_heap (.own g7 29 [.slice A3 (ownQ (L.take (i + 1))).length c3] :: .ro g o (icells L) :: .own g2 29 [.slice A1 O.length c1] :: .own g1 29 [.slice none 0 0] :: (rowE (.slice A3 (ownQ (L.take (i + 1))).length c3) 82 2 (icells (ownQ (L.take (i + 1)))) ++ rowE (.slice A2 O.length c2) 78 2 (icells O))) (HLe.refl _) ?_

    refine awp_cut (ι := Value) (fun u => [(0, .slice (some ⟨g, o, none⟩) L.length c), (2, ptr g1 0), (4, ptr g2 0), (5, .slice A2 O.length c2), (6, iq (i : Nat))]) (fun u => .ro g o (icells L) :: .own g2 29 [u] :: .own g1 29 [.slice none 0 0] :: (rowE u 82 2 (icells (ownQ (L.take (i + 1)))) ++ rowE (.slice A2 O.length c2) 78 2 (icells O))) (fun u => RowOk u (ownQ (L.take (i + 1))).length) ?_ ?_
    · refine awp_seq_region (fun Z hZ => ?_)
      refine sx_move rfl rfl ?_
      refine sx_eql rfl rfl rfl ?_
      refine sx_nil (hZ _ _ ?_)
      refine awp_forget [(0, _), (2, _), (4, _), (5, _), (6, _), (7, _), (33, _)] (Kn.cons rfl (Kn.cons rfl (Kn.cons rfl (Kn.cons rfl (Kn.cons rfl (Kn.cons rfl (Kn.cons rfl (Kn.nil)))))))) ?_
      refine awp_cond rfl (fun h2 => ?_) (fun h2 => ?_)
      · refine awp_region (fun Z hZ => ?_)
        refine sx_loadA 0 rfl rfl tyA29 tyS29 (by first | (simp only [List.length_cons, List.length_nil, Nat.reduceAdd, Nat.zero_add, Nat.add_zero]; first | done | rfl) | rfl) (by first | (simp only [List.take_succ_cons, List.take_zero, List.drop_succ_cons, List.drop_zero, List.cons_append, List.nil_append, List.append_nil, List.length_cons, List.length_nil, Nat.reduceAdd, Nat.zero_add, Nat.add_zero, Value.cells, wrV]; first | done | rfl) | rfl) rfl ?_
        refine sx_store 2 rfl rfl rfl tyS29 (by first | (simp only [Value.cells]; first | done | rfl) | rfl) rfl rfl (by first | (simp only [List.length_cons, List.length_nil, Nat.reduceAdd, Nat.zero_add, Nat.add_zero]; first | done | rfl) | rfl) (by first | (simp only [List.take_succ_cons, List.take_zero, List.drop_succ_cons, List.drop_zero, List.cons_append, List.nil_append, List.append_nil, List.length_cons, List.length_nil, Nat.reduceAdd, Nat.zero_add, Nat.add_zero, Value.cells, wrV]; first | done | rfl) | rfl) (by first | (simp only [List.set_cons_succ, List.set_cons_zero]; first | done | rfl) | rfl) ?_
        refine sx_nil (hZ _ _ ?_)
        refine nx_forget [(0, _), (2, _), (4, _), (5, _), (6, _)] (Kn.cons rfl (Kn.cons rfl (Kn.cons rfl (Kn.cons rfl (Kn.cons rfl (Kn.nil)))))) ?_
        refine nx_cut _ hu3 (Kn.cons rfl (Kn.cons rfl (Kn.cons rfl (Kn.cons rfl (Kn.cons rfl Kn.nil))))) ?_
        exact HLe.drop 1 rfl
      · have he0 : ¬ e = 0 := by simp at h2; omega
        have hs4 := hs3 he0
        rw [hs4] at hu3 ⊢
        refine awp_skip ?_
        refine nx_cut _ hu3 (Kn.cons rfl (Kn.cons rfl (Kn.cons rfl (Kn.cons rfl (Kn.cons rfl Kn.nil))))) ?_
        exact HLe.drop 1 rfl
    rintro u4 hu4
    refine awp_heap (.ro g o (icells L) :: .own g2 29 [u4] :: .own g1 29 [.slice none 0 0] :: (rowE u4 82 2 (icells (ownQ (L.take (i + 1)))) ++ rowE (.slice A2 O.length c2) 78 2 (icells O))) (HLe.refl _) ?_

    refine aww_seq_region _ [(0, true), (1, true), (2, true), (3, true), (4, true), (5, true), (6, true), (7, true), (8, true), (9, true), (10, true), (11, false), (12, true), (13, true), (14, true), (15, true), (16, true)] mixed (by kernel_rfl) (HLe.pick [0] (by simp) (by simp only [pick, List.filterMap_cons, List.filterMap_nil, List.getElem?_cons_succ, List.getElem?_cons_zero]; rfl)) (fun Z hZ => ?_)
    refine tw_p rfl ?_
    refine sv_move rfl rfl ?_
    refine sv_nil ?_
    refine tw_p rfl ?_
    refine sv_move rfl rfl ?_
    refine sv_nil ?_
    refine tw_p rfl ?_
    refine sv_move rfl rfl ?_
    refine sv_nil ?_
    refine tw_p rfl ?_
    refine sv_indexAddr (o + i * 2) Try.underlying22 tyS78 rfl rfl (by omega) (by simp) rfl ?_
    refine sv_nil ?_
    refine tw_p rfl ?_
    refine sv_fieldAddr rfl tyF78_0 (by first | (simp only [Nat.reduceAdd, Nat.add_zero, Nat.zero_add]; first | done | rfl) | rfl) rfl ?_
    refine sv_nil ?_
    refine tw_p rfl ?_
    refine sv_loadRo 0 rfl rfl (i * 2) rfl tyA66 tyS66 (icells_id hx) rfl ?_
    refine sv_nil ?_
    refine tw_p rfl ?_
    refine sv_move rfl rfl ?_
    refine sv_nil ?_
    refine tw_p rfl ?_
    refine sv_move rfl rfl ?_
    refine sv_nil ?_
    refine tw_p rfl ?_
    refine sv_indexAddr (o + i * 2) Try.underlying22 tyS78 rfl rfl (by omega) (by simp) rfl ?_
    refine sv_nil ?_
    refine tw_p rfl ?_
    refine sv_fieldAddr rfl tyF78_1 (by first | (simp only [Nat.reduceAdd, Nat.add_zero, Nat.zero_add]; first | done | rfl) | rfl) rfl ?_
    refine sv_nil ?_
    refine tw_p rfl ?_
    refine sv_loadRo 0 rfl rfl (i * 2 + 1) rfl tyA9 tyS9 (icells_tx hx) rfl ?_
    refine sv_nil ?_
    refine tw_g rfl ?_
    refine sx_callRowW (fun u => .tuple #[u, iq e]) (.ro g o (icells L) :: .own g2 29 [u4] :: .own g1 29 [.slice none 0 0] :: rowE u4 82 2 (icells (ownQ (L.take (i + 1))))) hu2 (HLe.refl _) (hputR A2 c2) rfl rfl hq1 hq2 (fun u5 hu5 hs5 => ?_)
    refine sx_nil ⟨HLe.pick [0] (by simp) rfl, ?_⟩
    refine tw_p rfl ?_
    refine sv_move rfl rfl ?_
    refine sv_nil ?_
    refine tw_p rfl ?_
    refine sv_extract rfl rfl rfl ?_
    refine sv_nil ?_
    refine tw_p rfl ?_
    refine sv_extract rfl rfl rfl ?_
    refine sv_nil ?_
    refine tw_p rfl ?_
    refine sv_assign rfl rfl ?_
    refine sv_nil ?_
    refine tw_p rfl ?_
    refine sv_assign rfl rfl ?_
    refine sv_nil ?_
    refine tw_nil (hZ _ _ ?_)
    refine awp_forget [(0, _), (2, _), (4, _), (5, _), (6, _), (9, _), (10, _)] (Kn.cons rfl (Kn.cons rfl (Kn.cons rfl (Kn.cons rfl (Kn.cons rfl (Kn.cons rfl (Kn.cons rfl (Kn.nil)))))))) ?_
    refine awp_seq_region (fun Z hZ => ?_)
    refine sx_move rfl rfl ?_
    refine sx_eql rfl rfl rfl ?_
    refine sx_nil (hZ _ _ ?_)
    refine awp_forget [(0, _), (2, _), (4, _), (5, _), (6, _), (9, _), (51, _)] (Kn.cons rfl (Kn.cons rfl (Kn.cons rfl (Kn.cons rfl (Kn.cons rfl (Kn.cons rfl (Kn.cons rfl (Kn.nil)))))))) ?_

    refine awp_cond rfl (fun h2 => ?_) (fun h2 => ?_)
    · refine awp_region (fun Z hZ => ?_)
      refine sx_move rfl rfl ?_
      refine sx_assign rfl rfl ?_
      refine sx_nil (hZ _ _ ?_)
      refine nx_forget [(0, _), (2, _), (4, _), (5, _), (6, _)] (Kn.cons rfl (Kn.cons rfl (Kn.cons rfl (Kn.cons rfl (Kn.cons rfl (Kn.nil)))))) ?_
      repeat (with_reducible refine nx_block_normal ?_)
      with_reducible refine nx_normal ?_
      refine awp_region (fun Z hZ => ?_)
      refine sx_move rfl rfl ?_
      refine sx_add rfl rfl ((i + 1 : Nat) : Int) (by rw [IntWalk.i64_in _ (by omega)]; omega) rfl ?_
      refine sx_assign rfl rfl ?_
      refine sx_nil (hZ _ _ ?_)
      refine nx_forget [(0, _), (2, _), (4, _), (5, _), (6, _)] (Kn.cons rfl (Kn.cons rfl (Kn.cons rfl (Kn.cons rfl (Kn.cons rfl (Kn.nil)))))) ?_
      exact nx_round (i + 1, u4, u5) ⟨by show i + 1 ≤ _; omega, hu4, hu5⟩ (by simp; omega) (Kn.cons rfl (Kn.cons rfl (Kn.cons rfl (Kn.cons rfl (Kn.cons rfl Kn.nil))))) (fun _ _ _ hw => hw.perm ((List.Perm.swap _ _ _).trans (.cons _ (List.Perm.swap _ _ _))))
    · have he0 : ¬ e = 0 := by simp at h2; omega
      obtain rfl := hs5 he0
      refine awp_skip ?_
      repeat (with_reducible refine nx_block_normal ?_)
      with_reducible refine nx_normal ?_
      refine awp_region (fun Z hZ => ?_)
      refine sx_move rfl rfl ?_
      refine sx_add rfl rfl ((i + 1 : Nat) : Int) (by rw [IntWalk.i64_in _ (by omega)]; omega) rfl ?_
      refine sx_assign rfl rfl ?_
      refine sx_nil (hZ _ _ ?_)
      refine nx_forget [(0, _), (2, _), (4, _), (5, _), (6, _)] (Kn.cons rfl (Kn.cons rfl (Kn.cons rfl (Kn.cons rfl (Kn.cons rfl (Kn.nil)))))) ?_
      exact nx_round (i + 1, u4, .slice A2 O.length c2) ⟨by show i + 1 ≤ _; omega, hu4, hu5⟩ (by simp; omega) (Kn.cons rfl (Kn.cons rfl (Kn.cons rfl (Kn.cons rfl (Kn.cons rfl Kn.nil))))) (fun _ _ _ hw => hw.perm ((List.Perm.swap _ _ _).trans (.cons _ (List.Perm.swap _ _ _))))
  · refine awp_exit ?_
    repeat (with_reducible refine nx_then_exit ?_)
    with_reducible refine nx_block_exit ?_
    with_reducible refine nx_normal ?_
    have hke : i = L.length := by simp at h; omega
    subst hke
    rw [List.take_length] at hu1 hu2 ⊢
    obtain ⟨A1, c1, rfl, _⟩ := hu1.form

    refine awp_seq_region (fun Z hZ => ?_)
    refine sx_loadA 0 rfl rfl tyA29 tyS29 (by first | (simp only [List.length_cons, List.length_nil, Nat.reduceAdd, Nat.zero_add, Nat.add_zero]; first | done | rfl) | rfl) (by first | (simp only [List.take_succ_cons, List.take_zero, List.drop_succ_cons, List.drop_zero, List.cons_append, List.nil_append, List.append_nil, List.length_cons, List.length_nil, Nat.reduceAdd, Nat.zero_add, Nat.add_zero, Value.cells, wrV]; first | done | rfl) | rfl) rfl ?_
    refine sx_move rfl rfl ?_
    refine sx_store 1 rfl rfl rfl tyS29 (by first | (simp only [Value.cells]; first | done | rfl) | rfl) rfl rfl (by first | (simp only [List.length_cons, List.length_nil, Nat.reduceAdd, Nat.zero_add, Nat.add_zero]; first | done | rfl) | rfl) (by first | (simp only [List.take_succ_cons, List.take_zero, List.drop_succ_cons, List.drop_zero, List.cons_append, List.nil_append, List.append_nil, List.length_cons, List.length_nil, Nat.reduceAdd, Nat.zero_add, Nat.add_zero, Value.cells, wrV]; first | done | rfl) | rfl) (by first | (simp only [List.set_cons_succ, List.set_cons_zero]; first | done | rfl) | rfl) ?_
    refine sx_assign rfl rfl ?_
    refine sx_nil (hZ _ _ ?_)
    refine awp_forget [(2, _), (3, _)] (Kn.cons rfl (Kn.cons rfl (Kn.nil))) ?_
    refine awp_ret ?_
    exact nx_ret2h _ rfl (ResOk.cell 1 rfl rfl tyA29 tyS29 rfl) rfl (HLe.sub ((List.sublist_append_right T _).trans (List.sublist_append_right [_, _] _))) ⟨_, _, rfl, hu1, hu2, rfl⟩
end Go.Proofs.Ytmebmkkllhnmlaa

namespace Go.Proofs.Ytmebmkkllhnmlaa
open Go.RowKit
set_option linter.unusedVariables false
set_option linter.unusedSimpArgs false
def chC : List It := [⟨5, [98]⟩]
def chD : List It := [⟨0, [97]⟩, ⟨5, [98]⟩]
def chT : List It := [⟨1, [120]⟩, ⟨1, [121]⟩]
def chA : List It := [⟨0, [97]⟩]
theorem slIn_pos {A : Option Addr} {n c : Nat} (h : SlIn A n c) (hn : 0 < n) : ∃ g o, A = some ⟨g, o, none⟩ := h.arg hn
theorem ChOk.its {L : List It} (h : ChOk L) : ItsOk L := fun e he => by have := h.lt e he; omega
end Go.Proofs.Ytmebmkkllhnmlaa

namespace Go.Proofs.Ytmebmkkllhnmlaa
open Go.RowKit
set_option linter.unusedVariables false
set_option linter.unusedSimpArgs false
set_option linter.unusedSectionVars false
theorem HLe.two {T U H : Heap} (h1 : T.Sublist H) (h2 : U.Sublist H) (hU : Ro U) : HLe (T ++ U) H := (HLe.sub (List.Sublist.append_right h1 U)).trans (HLe.dup h2 hU)
theorem Sat.both {w : World} {T U : Heap} (h : Sat w [] T w) (k : Sat w [] U w) (hT : Ro T) (hU : Ro U) : Sat w [] (T ++ U) w :=
  ⟨h.only, fun e he => by
    rcases List.mem_append.1 he with he | he
    · exact h.ents e he
    · exact k.ents e he, List.pairwise_append.2 ⟨h.sep, k.sep, fun a ha b hb hw => by
      rw [hT a ha, hU b hb] at hw
      cases hw⟩⟩
theorem sum_le (L : List It) (n : Nat) (h : ∀ e ∈ L, e.tx.length ≤ n) : cBytes L ≤ L.length * n := by
  induction L with
  | nil => simp [cBytes]
  | cons e r ih =>
    have h1 := ih fun x hx => h x (List.mem_cons_of_mem _ hx)
    have h2 := h e List.mem_cons_self
    simp only [cBytes, List.map_cons, List.sum_cons, List.length_cons] at h1 ⊢
    rw [Nat.succ_mul]
    omega
theorem ChOk.bytes {L : List It} (h : ChOk L) : cBytes L ≤ 1000000000000 := by
  have h1 := sum_le L 65536 fun e he => (h.tx e he).2
  have h2 := h.len
  have h3 := Nat.mul_le_mul_right 65536 h2
  omega
theorem alike_str {L : List TypeDesc} {cs : List Value} (h : Alike (.string :: L) cs) : ∃ (s : List UInt8) (c : List Value), cs = .string (str s) :: c ∧ s.length ≤ maxLen ∧ Alike L c := by
  cases h with
  | cons h1 h2 =>
    obtain ⟨l, rfl, hl⟩ := h1
    exact ⟨l, _, rfl, hl, h2⟩
/-- What items make. -/
def ofL (L : List It) : List It := if ofQ L = 0 then sortI L else []
theorem ofL_ok (L : List It) : ChOk (ofL L) := by
  unfold ofL
  split
  · rename_i h; exact (of_ok h).2.2.1
  · exact ChOk.nil
section
variable {N : Frm} {w0 w : World} {Wr : List Nat} {ops : Array Oper} {rest : List Oper} {fr : Fr} {H : Heap} {Z : Fr → Heap → Prop} {d ty : Nat} {pos : String} {after : Array Edge} {xs : List Operand} {ts : Array TypeId} {A B : Option Addr} {c c2 : Nat}
theorem sx_putE (L : List It) (k : Nat) (s : List UInt8) (hA : SlIn A L.length c) (hS : (roE A (icells L)).Sublist H) (hok : ChOk L) (hx : evs fr xs = some [chV A L.length c, uq k, .string (str s)]) (hN : Nat.ble (d + 1) N.n = true)
    (h : ∀ A' c', SlIn A' (putQ k s L).length c' → sx Try.prog N w0 Wr ops rest ((d, .tuple #[chV A' (putQ k s L).length c', iq (putE k s L)]) :: fr) (H ++ roE A' (icells (putQ k s L))) Z) : sx Try.prog N w0 Wr ops ((⟨some d, .call { callee := .value (.func 35), args := xs.toArray, argTypes := ts }, ty, pos, after, none⟩ : Oper) :: rest) fr H Z :=
  sx_put L k s hA hS hok hx hN fun A' c' hA' => sx_heap _ (HLe.swap _ _) (h A' c' hA')
theorem sx_itemsE (L : List It) (hA : SlIn A L.length c) (hS : (roE A (icells L)).Sublist H) (hL : L.length ≤ 100000) (hx : evs fr xs = some [chV A L.length c]) (hN : Nat.ble (d + 1) N.n = true)
    (h : ∀ A' c', SlIn A' L.length c' → sx Try.prog N w0 Wr ops rest ((d, .slice A' L.length c') :: fr) (H ++ roE A' (icells L)) Z) : sx Try.prog N w0 Wr ops ((⟨some d, .call { callee := .value (.func 33), args := xs.toArray, argTypes := ts }, ty, pos, after, none⟩ : Oper) :: rest) fr H Z :=
  sx_callI (roE A (icells L)) (items_fn A c L _ hA.arg (fun _ => rfl) hA.nil (Ro.roE _ _) hL) hx hS (Ro.roE _ _) hN fun A' c' hA' => sx_heap _ (HLe.swap _ _) (h A' c' hA')
theorem sx_ofE (L : List It) (T : Heap) (hA : ArgOk A L.length) (hT : 0 < L.length → T = roE A (icells L)) (hro : Ro T) (hS : T.Sublist H) (hL : L.length ≤ 100000) (hx : evs fr xs = some [.slice A L.length c]) (hN : Nat.ble (d + 1) N.n = true)
    (h : ∀ A' c', SlIn A' (ofL L).length c' → sx Try.prog N w0 Wr ops rest ((d, .tuple #[chV A' (ofL L).length c', iq (ofQ L)]) :: fr) (H ++ roE A' (icells (ofL L))) Z) : sx Try.prog N w0 Wr ops ((⟨some d, .call { callee := .value (.func 36), args := xs.toArray, argTypes := ts }, ty, pos, after, none⟩ : Oper) :: rest) fr H Z :=
  sx_callRow (fun u => .tuple #[.agg #[u], iq (ofQ L)]) T (cof_fn A c L T hA hT hro hL) hx hS hro hN (fun hp => by unfold ofL; rw [if_pos hp]; exact ⟨rfl, rfl⟩)
    (fun hp => by unfold ofL; rw [if_neg hp]; exact ⟨rfl, ⟨.inl ⟨rfl, rfl⟩, Nat.le_refl _, fun _ => rfl⟩, List.nil_sublist _⟩) fun A' c' hA' => sx_heap _ (HLe.swap _ _) (h A' c' hA')
theorem sx_ownE (L : List It) (T : Heap) (hA : ArgOk A L.length) (hT : 0 < L.length → T = roE A (icells L)) (hro : Ro T) (hS : T.Sublist H) (hL : L.length ≤ 100000) (hx : evs fr xs = some [.slice A L.length c]) (hN : Nat.ble (d + 1) N.n = true)
    (h : ∀ A1 c1 A2 c2, SlIn A1 (ownQ L).length c1 → SlIn A2 (ownQ L).length c2 → sx Try.prog N w0 Wr ops rest ((d, .tuple #[chV A1 (ownQ L).length c1, .slice A2 (ownQ L).length c2]) :: fr) ((H ++ roE A1 (icells (ownQ L))) ++ roE A2 (icells (ownQ L))) Z) : sx Try.prog N w0 Wr ops ((⟨some d, .call { callee := .value (.func 10), args := xs.toArray, argTypes := ts }, ty, pos, after, none⟩ : Oper) :: rest) fr H Z :=
  sx_callU T (own_fn A c L T hA hT hro hL) hx hS hro hN (by
    rintro v H' ⟨u1, u2, rfl, hu1, hu2, rfl⟩
    rw [((rowE_wrs _ _ _ _).append (rowE_wrs _ _ _ _)).filter]
    obtain ⟨A1, c1, rfl, hA1, hle1⟩ := hu1.ro
    obtain ⟨A2, c2, rfl, hA2, hle2⟩ := hu2.ro
    refine sx_pure (fun w hw => row_cap hu1 (fun x hx => List.mem_append_left _ (List.mem_append_left _ hx)) hw) (fun hc1 => ?_)
    refine sx_pure (fun w hw => row_cap hu2 (fun x hx => List.mem_append_left _ (List.mem_append_right _ hx)) hw) (fun hc2 => ?_)
    refine sx_heap _ ?_ (h A1 c1 A2 c2 ⟨hA1, hc1.1, row_none hu1⟩ ⟨hA2, hc2.1, row_none hu2⟩)
    rw [List.append_assoc]
    refine (HLe.swap _ _).trans ?_
    refine HLe.trans ?_ (by rw [List.append_assoc]; exact hle1 [] _ _ _ _)
    rw [List.append_assoc]
    exact hle2 _ _ _ _ _)
theorem sx_cget (L : List It) (k : Nat) (hA : SlIn A L.length c) (h1 : (roE A (icells L)).Sublist H) (hok : ChOk L) (hx : evs fr xs = some [chV A L.length c, uq k]) (hN : Nat.ble (d + 1) N.n = true)
    (h : sx Try.prog N w0 Wr ops rest ((d, .tuple #[.string (str (cGet k L)), .bool (cHas k L)]) :: fr) H Z) : sx Try.prog N w0 Wr ops ((⟨some d, .call { callee := .value (.func 29), args := xs.toArray, argTypes := ts }, ty, pos, after, none⟩ : Oper) :: rest) fr H Z :=
  sx_callV (roE A (icells L)) (get_fn A c L _ hA.arg (fun _ => rfl) (Ro.roE _ _) (by have := hok.len; omega) hok.rise k) hx (HLe.sub h1) (Ro.roE _ _) hN h
theorem sx_riget (L : List It) (k : Nat) (hA : SlIn A L.length c) (h1 : (roE A (icells L)).Sublist H) (hok : ChOk L) (hx : evs fr xs = some [.slice A L.length c, uq k]) (hN : Nat.ble (d + 1) N.n = true)
    (h : sx Try.prog N w0 Wr ops rest ((d, .tuple #[.string (str (cGet k L)), .bool (cHas k L)]) :: fr) H Z) : sx Try.prog N w0 Wr ops ((⟨some d, .call { callee := .value (.func 41), args := xs.toArray, argTypes := ts }, ty, pos, after, none⟩ : Oper) :: rest) fr H Z :=
  sx_callV (roE A (icells L)) (by have := rget_fn A c L _ hA.arg (fun _ => rfl) (by have := hok.len; omega) k; rwa [← (get_eq hok.rise k).1, ← (get_eq hok.rise k).2] at this) hx (HLe.sub h1) (Ro.roE _ _) hN h
end
set_option maxRecDepth 100000
theorem leaves_it : leaves Try.prog 5 78 = some [.int .u64, .string] := by kernel_rfl
def It.ok (e : It) : Prop := e.id < 18446744073709551616 ∧ e.tx.length ≤ maxLen
theorem it_of (r : List Value) (h : Alike [.int .u64, .string] r) : ∃ x : It, x.ok ∧ r = x.cells := by
  obtain ⟨a, c, rfl, ha, a1⟩ := alike_u64 h
  obtain ⟨s, c, rfl, hs, a2⟩ := alike_str a1
  cases a2
  exact ⟨⟨a, s⟩, ⟨ha, hs⟩, rfl⟩
theorem open_its {H : Type} {enc : TypeId × Value → H} {w : World} {b0 : Nat} {r : Reach} {v : Value} {d : DataW H} {p : List MemPlace}
    (hv : Value.okWide Try.prog w r b0 22 v) (h : DataW.Trod enc Try.prog w 0 (fun _ => true) true 22 v d p) :
    ∃ A c, ∃ L : List It, ∃ T : Heap, v = .slice A L.length c ∧ ArgOk A L.length ∧ L.length ≤ maxLen ∧ ItsTx L ∧ (0 < L.length → T = roE A (icells L)) ∧ Ro T ∧ Sat w [] T w ∧ L.length ≤ c := by
  obtain ⟨A, n, c, rows, hv2, h1, h2, h3, h4⟩ := open_rows 5 Try.underlying22 leaves_it (by kernel_rfl) (Nat.succ_pos _) hv h
  have hcap : n ≤ c := by
    obtain ⟨a0, len0, cap0, rfl⟩ := Go.WideShapes.okWide_slice Try.underlying22 hv
    injection hv2 with e1 e2 e3
    obtain ⟨fuel, hf⟩ := h
    rcases Go.Deep.open_slice Try.underlying22 hf with ⟨hcs, _⟩ | ⟨a, len, cap, m', n', D, Pl, hcs, _, hl, hm, hmm, _, hi⟩
    · simp [Value.cells] at hcs
      omega
    · simp [Value.cells] at hcs
      omega
  subst hv2
  obtain ⟨L, h5, h6, h7⟩ := rows_as (f := It.cells) (ok := It.ok) it_of rows h3
  have hn : L.length = n := by omega
  subst hn
  rw [h5] at h4
  by_cases h0 : 0 < L.length
  · exact ⟨A, c, L, roE A (icells L), rfl, arg_ok h4, h2, h7, fun _ => rfl, Ro.roE _ _, arg_sat h4 h0, hcap⟩
  · exact ⟨A, c, L, [], rfl, arg_ok h4, h2, h7, fun h => absurd h h0, Ro.nil, Sat.nil w, hcap⟩
end Go.Proofs.Ytmebmkkllhnmlaa

namespace Go.Proofs.Ytmebmkkllhnmlaa
open Go.RowKit
set_option linter.unusedVariables false
set_option linter.unusedSimpArgs false
/-- As many tiles as there may be. -/
def bigL (n : Nat) : List It := (List.range n).map fun i => ⟨3 * i, [116]⟩
end Go.Proofs.Ytmebmkkllhnmlaa
