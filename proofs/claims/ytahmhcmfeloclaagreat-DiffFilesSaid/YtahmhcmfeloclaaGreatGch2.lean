/- The walk of chart.Of. Conditions: the lists are not too long. The walks of an identifier's zoom, the program's and the document's; of a chart's zooms. Conditions: the lists are not too long. The walk of the document's Of for charts; what a put leaves, as a row. Conditions: the lists are not too long. The law's own helpers for charts: Back, Over, Own. Conditions: the lists are not too long. The small example of charts. No conditions. Steps for the laws of charts: calls whose rows stand at the end of memory; arguments. Conditions: the lists are not too long. Plain facts of charts, for the laws. No conditions. -/
import Derived.Test.YtahmhcmfeloclaaGreatGch1
import Derived.Test.YtahmhcmfeloclaaGreatLaySort
import Derived.Lib.ItoaNum
import Derived.Test.YtahmhcmfeloclaaGreatSxC
namespace Go.Proofs.YtahmhcmfeloclaaGreat
open Go.RowKit
set_option linter.unusedVariables false
set_option linter.unusedSimpArgs false
theorem keyU : KeyOk Tryz.prog 38 (fun k : Nat => uq k) where
  eq a b w := by
    have h : ((a : Int) = (b : Int)) ↔ a = b := by omega
    simp [go_sem, Op.equal, Op.maxDepth, run_underlying Tryz.underlying38]
    rw [Bool.eq_iff_iff]
    simp [h]
  chk e a w := by
    rw [show (10000 : Nat) = 9999 + 1 from rfl, Instr.checkKey]
    simp [run_underlying Tryz.underlying38]
  und := ⟨_, Tryz.underlying38, .inr fun a b => by
    have h : ((a : Int) = (b : Int)) ↔ a = b := by omega
    simp only [Instr.sameNow, if_true]
    congr 1
    rw [Bool.eq_iff_iff]
    simp [h]⟩
  same a := by simp [Instr.sameBits]
theorem zeroI (w : World) : (zeroValue 3).run Tryz.prog w = .ok (iq (0 : Nat)) w := by kernel_rfl
/-- A map that counts what was seen. -/
def CntOk (M : List (Nat × Nat)) (seen : List Nat) : Prop := ∀ k, aget M k = if k ∈ seen then some 1 else none
theorem cnt_get {M : List (Nat × Nat)} {seen : List Nat} (h : CntOk M seen) (k : Nat) : (if false = true then Value.tuple #[((aget M k).map fun n : Nat => iq n).getD (iq (0 : Nat)), .bool (aget M k).isSome] else ((aget M k).map fun n : Nat => iq n).getD (iq (0 : Nat))) = iq ((if k ∈ seen then 1 else 0 : Nat) : Nat) := by
  rw [h k]
  by_cases hk : k ∈ seen <;> simp [hk]
theorem look_put (M : List (Nat × Nat)) (k v : Nat) : (if false = true then Value.tuple #[((aget (aput M k v) k).map fun n : Nat => iq n).getD (iq (0 : Nat)), .bool (aget (aput M k v) k).isSome] else ((aget (aput M k v) k).map fun n : Nat => iq n).getD (iq (0 : Nat))) = iq (v : Nat) := by
  rw [aget_put, if_pos rfl]
  rfl
theorem cof_fn (A : Option Addr) (c : Nat) (L : List It) (T : Heap) (hA : ArgOk A L.length) (hT : 0 < L.length → T = roE A (icells L)) (hro : Ro T) (hL : L.length ≤ 100000) :
    Fn Tryz.prog 9 [.slice A L.length c] T fun v H' => ∃ u, v = .tuple #[.agg #[u], iq (ofQ L)] ∧ ((ofQ L = 0 ∧ RowOk u (sortI L).length ∧ H' = rowE u 40 2 (icells (sortI L))) ∨ (ofQ L ≠ 0 ∧ u = .slice none 0 0 ∧ H' = [])) := by
  refine Fn.enter (N := 48) Tryz.func9 rfl (by kernel_rfl) rfl (fun w0 => ?_)

  refine awp_seq_region (fun Z hZ => ?_)
  refine sx_alloc tyZ35 rfl (fun g1 => ?_)
  refine sx_assign rfl rfl ?_
  refine sx_nil (hZ _ _ ?_)
  refine awp_forget [(0, _), (2, _)] (Kn.cons rfl (Kn.cons rfl (Kn.nil))) ?_
  refine awp_seq_region (fun Z hZ => ?_)
  refine sx_makeMap rfl (fun k : Nat => uq k) (fun n : Nat => iq n) (fun b => ?_)
  refine sx_assign rfl rfl ?_
  refine sx_nil (hZ _ _ ?_)
  refine awp_forget [(0, _), (2, _), (4, _)] (Kn.cons rfl (Kn.cons rfl (Kn.cons rfl (Kn.nil)))) ?_
  refine awp_seq_region (fun Z hZ => ?_)
  refine sx_assign rfl rfl ?_
  refine sx_nil (hZ _ _ ?_)
  refine awp_forget [(0, _), (2, _), (4, _), (5, _)] (Kn.cons rfl (Kn.cons rfl (Kn.cons rfl (Kn.cons rfl (Kn.nil))))) ?_
  refine awp_seq ?_
  refine awp_seq_region (fun Z hZ => ?_)
  refine sx_move rfl rfl ?_
  refine sx_len Tryz.underlying33 rfl rfl ?_
  refine sx_move rfl rfl ?_
  refine sx_nil (hZ _ _ ?_)
  refine awp_forget [(2, _), (4, _), (5, _), (10, _), (11, _), (12, _)] (Kn.cons rfl (Kn.cons rfl (Kn.cons rfl (Kn.cons rfl (Kn.cons rfl (Kn.cons rfl (Kn.nil))))))) ?_
  refine awp_block ?_
  refine awp_loop (ι := Nat × Value × List (Nat × Nat)) (fun i => [(2, ptr g1 0), (4, .map (some b)), (5, i.2.1), (10, .slice A L.length c), (11, iq (L.length : Nat)), (12, iq (i.1 : Nat))])
    (fun i => mapE (fun k : Nat => uq k) (fun n : Nat => iq n) b i.2.2 :: .own g1 35 [.slice none 0 0] :: (T ++ rowE i.2.1 40 2 (icells (L.take i.1))))
    (fun i => i.1 ≤ L.length ∧ RowOk i.2.1 i.1 ∧ CntOk i.2.2 (idsI (L.take i.1)) ∧ ofE (idsI (L.take i.1)) (L.drop i.1) = ofQ L) (fun i => L.length - i.1) (0, .slice none 0 0, []) ⟨by simp, RowOk.nil, fun k => by simp [idsI, aget], rfl⟩ (Kn.cons rfl (Kn.cons rfl (Kn.cons rfl (Kn.cons rfl (Kn.cons rfl (Kn.cons rfl Kn.nil)))))) (by simp [rowE]; exact HLe.refl _) ?_
  rintro ⟨i, v, M⟩ ⟨hi, hv, hM, hq⟩
  simp only at hi hv hM hq
  refine awp_seq_region (fun Z hZ => ?_)
  refine sx_lss rfl rfl rfl ?_
  refine sx_nil (hZ _ _ ?_)
  refine awp_forget [(2, _), (4, _), (5, _), (10, _), (11, _), (12, _), (13, _)] (Kn.cons rfl (Kn.cons rfl (Kn.cons rfl (Kn.cons rfl (Kn.cons rfl (Kn.cons rfl (Kn.cons rfl (Kn.nil)))))))) ?_
  refine awp_seq (awp_cond rfl (fun h => ?_) (fun h => ?_))
  · have hlt : i < L.length := by simpa using h
    have hx := itAt_at hlt
    obtain ⟨x, hxe⟩ : ∃ x, itAt L i = x := ⟨_, rfl⟩
    rw [hxe] at hx
    have hdr : L.drop i = x :: L.drop (i + 1) := by rw [List.drop_eq_getElem_cons hlt]; congr 1; exact (List.getElem?_eq_some_iff.1 hx).2
    have htk : idsI (L.take (i + 1)) = idsI (L.take i) ++ [x.id] := by rw [List.take_add_one, hx]; simp [idsI]
    have hsl : (idsI (L.take i)).length = i := by simp [idsI]; omega
    rw [hdr, ofE, hsl, ← htk] at hq
    obtain ⟨n, hn⟩ : ∃ n, (if x.id ∈ idsI (L.take i) then 1 else 0 : Nat) = n := ⟨_, rfl⟩
    have hget := cnt_get hM x.id
    rw [hn] at hget
    have hn1 : n ≤ 1 := by rw [← hn]; split <;> omega
    obtain ⟨g, o, rfl⟩ := hA (by omega)
    obtain rfl := hT (by omega)
    refine awp_heap (mapE (fun k : Nat => uq k) (fun n : Nat => iq n) b M :: .own g1 35 [.slice none 0 0] :: .ro g o (icells L) :: rowE v 40 2 (icells (L.take i))) (HLe.refl _) ?_
    refine awp_skip ?_
    with_reducible refine nx_normal ?_
    refine awp_seq (awp_block ?_)

    refine awp_seq_region (fun Z hZ => ?_)
    refine sx_indexAddr (o + i * 2) Tryz.underlying33 tyS40 rfl rfl (by omega) (by simp) rfl ?_
    refine sx_loadRo 2 rfl rfl (i * 2) rfl tyA40 tyS40 (icells_all hx) rfl ?_
    refine sx_alloc tyZ40 rfl (fun g2 => ?_)
    refine sx_store 0 rfl rfl rfl tyS40 (by first | (simp only [Value.cells]; first | done | rfl) | rfl) rfl rfl (by first | (simp only [List.length_cons, List.length_nil, Nat.reduceAdd, Nat.zero_add, Nat.add_zero]; first | done | rfl) | rfl) (by first | (simp only [List.take_succ_cons, List.take_zero, List.drop_succ_cons, List.drop_zero, List.cons_append, List.nil_append, List.append_nil, List.length_cons, List.length_nil, Nat.reduceAdd, Nat.zero_add, Nat.add_zero, Value.cells, wrV]; first | done | rfl) | rfl) (by first | (simp only [List.set_cons_succ, List.set_cons_zero]; first | done | rfl) | rfl) ?_
    refine sx_nil (hZ _ _ ?_)
    refine awp_forget [(2, _), (4, _), (5, _), (7, _), (10, _), (11, _), (12, _)] (Kn.cons rfl (Kn.cons rfl (Kn.cons rfl (Kn.cons rfl (Kn.cons rfl (Kn.cons rfl (Kn.cons rfl (Kn.nil)))))))) ?_

    refine awp_seq ?_
    refine awp_seq_region (fun Z hZ => ?_)
    refine sx_move rfl rfl ?_
    refine sx_fieldAddr rfl tyF40_0 (by first | (simp only [Nat.reduceAdd, Nat.add_zero, Nat.zero_add]; first | done | rfl) | rfl) rfl ?_
    refine sx_load 0 rfl rfl tyA38 tyS38 rfl rfl ?_
    refine sx_lookup 1 keyU Tryz.underlying53 zeroI x.id _ rfl rfl rfl hget rfl ?_
    refine sx_add rfl rfl ((n + 1 : Nat) : Int) (by rw [IntWalk.i64_in _ (by omega)]; omega) rfl ?_
    refine sx_mapUpdate 1 keyU Tryz.underlying53 x.id (n + 1) rfl rfl rfl rfl rfl ?_
    refine sx_nil (hZ _ _ ?_)
    refine awp_forget [(2, _), (4, _), (5, _), (7, _), (10, _), (11, _), (12, _)] (Kn.cons rfl (Kn.cons rfl (Kn.cons rfl (Kn.cons rfl (Kn.cons rfl (Kn.cons rfl (Kn.cons rfl (Kn.nil)))))))) ?_
    refine awp_seq_region (fun Z hZ => ?_)
    refine sx_move rfl rfl ?_
    refine sx_fieldAddr rfl tyF40_0 (by first | (simp only [Nat.reduceAdd, Nat.add_zero, Nat.zero_add]; first | done | rfl) | rfl) rfl ?_
    refine sx_load 0 rfl rfl tyA38 tyS38 rfl rfl ?_
    refine sx_lookup 1 keyU Tryz.underlying53 zeroI x.id _ rfl rfl rfl (look_put M x.id (n + 1)) rfl ?_
    refine sx_gtr rfl rfl rfl ?_
    refine sx_nil (hZ _ _ ?_)
    refine awp_forget [(2, _), (4, _), (5, _), (7, _), (10, _), (11, _), (12, _), (25, _)] (Kn.cons rfl (Kn.cons rfl (Kn.cons rfl (Kn.cons rfl (Kn.cons rfl (Kn.cons rfl (Kn.cons rfl (Kn.cons rfl (Kn.nil))))))))) ?_
    refine awp_cond rfl (fun h1 => ?_) (fun h1 => ?_)
    · have hin : x.id ∈ idsI (L.take i) := by
        have : n = 1 := by simp at h1; omega
        rw [this] at hn
        split at hn
        · assumption
        · omega
      rw [if_pos hin] at hq
      rw [← hq]
      refine awp_seq_region (fun Z hZ => ?_)
      refine sx_build tyZ35 tyP35 rfl rfl (by first | (simp only [List.take_succ_cons, List.take_zero, List.drop_succ_cons, List.drop_zero, List.cons_append, List.nil_append, List.append_nil, List.length_cons, List.length_nil, Nat.reduceAdd, Nat.zero_add, Nat.add_zero, Value.cells, wrV, zrep_one, List.replicate_succ, List.replicate_zero, Nat.reduceMul, Nat.zero_mul]; first | done | rfl) | rfl) rfl ?_
      refine sx_store 2 rfl rfl rfl tyS35 (by first | (simp only [Value.cells]; first | done | rfl) | rfl) rfl rfl (by first | (simp only [List.length_cons, List.length_nil, Nat.reduceAdd, Nat.zero_add, Nat.add_zero]; first | done | rfl) | rfl) (by first | (simp only [List.take_succ_cons, List.take_zero, List.drop_succ_cons, List.drop_zero, List.cons_append, List.nil_append, List.append_nil, List.length_cons, List.length_nil, Nat.reduceAdd, Nat.zero_add, Nat.add_zero, Value.cells, wrV]; first | done | rfl) | rfl) (by first | (simp only [List.set_cons_succ, List.set_cons_zero]; first | done | rfl) | rfl) ?_
      refine sx_assign rfl rfl ?_
      refine sx_nil (hZ _ _ ?_)
      refine awp_forget [(2, _), (3, _)] (Kn.cons rfl (Kn.cons rfl (Kn.nil))) ?_
      refine awp_ret ?_
      repeat (with_reducible (first | refine nx_then_ret ?_ | refine nx_block_ret ?_))
      exact nx_ret2h [] rfl (ResOk.cell 2 rfl rfl tyA35 tyS35 rfl) rfl (HLe.sub (List.nil_sublist _)) ⟨_, rfl, .inr ⟨by decide, rfl, rfl⟩⟩
    have hin : x.id ∉ idsI (L.take i) := fun hc => by
      rw [if_pos hc] at hn
      simp at h1
      omega
    have hn0 : n = 0 := by rw [if_neg hin] at hn; omega
    subst hn0
    rw [if_neg hin] at hq
    obtain ⟨e, he⟩ : ∃ e, wrongQ x.id x.tx (decide (2048 ≤ i)) = e := ⟨_, rfl⟩
    have hw := wrong_fn x.id x.tx (decide (2048 ≤ i))
    rw [he] at hw hq
    have hlen : decide ((2048 : Int) ≤ ((i : Nat) : Int)) = decide (2048 ≤ i) := by rw [Bool.eq_iff_iff]; simp; omega
    obtain ⟨Av, cv, rfl, hAv⟩ := hv.form
    refine awp_skip ?_
    with_reducible refine nx_normal ?_
    refine awp_seq ?_
    refine awp_seq_region (fun Z hZ => ?_)
    refine sx_fieldAddr rfl tyF40_0 (by first | (simp only [Nat.reduceAdd, Nat.add_zero, Nat.zero_add]; first | done | rfl) | rfl) rfl ?_
    refine sx_load 0 rfl rfl tyA38 tyS38 rfl rfl ?_
    refine sx_fieldAddr rfl tyF40_1 (by first | (simp only [Nat.reduceAdd, Nat.add_zero, Nat.zero_add]; first | done | rfl) | rfl) rfl ?_
    refine sx_load 0 rfl rfl tyA9 tyS9 rfl rfl ?_
    refine sx_move rfl rfl ?_
    refine sx_len Tryz.underlying33 rfl rfl ?_
    refine sx_geq rfl rfl rfl ?_
    refine sx_callP hw (by first | exact (congrArg (fun b => some [uq x.id, .string (str x.tx), .bool b]) hlen) | rfl) rfl ?_
    refine sx_assign rfl rfl ?_
    refine sx_nil (hZ _ _ ?_)
    refine awp_forget [(2, _), (4, _), (5, _), (7, _), (8, _), (10, _), (11, _), (12, _)] (Kn.cons rfl (Kn.cons rfl (Kn.cons rfl (Kn.cons rfl (Kn.cons rfl (Kn.cons rfl (Kn.cons rfl (Kn.cons rfl (Kn.nil))))))))) ?_
    refine awp_seq_region (fun Z hZ => ?_)
    refine sx_move rfl rfl ?_
    refine sx_neq rfl rfl rfl ?_
    refine sx_nil (hZ _ _ ?_)
    refine awp_forget [(2, _), (4, _), (5, _), (7, _), (8, _), (10, _), (11, _), (12, _), (36, _)] (Kn.cons rfl (Kn.cons rfl (Kn.cons rfl (Kn.cons rfl (Kn.cons rfl (Kn.cons rfl (Kn.cons rfl (Kn.cons rfl (Kn.cons rfl (Kn.nil)))))))))) ?_
    refine awp_cond rfl (fun h2 => ?_) (fun h2 => ?_)
    · have he' : e ≠ 0 := by simp at h2; omega
      rw [if_pos he'] at hq
      rw [← hq]
      refine awp_seq_region (fun Z hZ => ?_)
      refine sx_build tyZ35 tyP35 rfl rfl (by first | (simp only [List.take_succ_cons, List.take_zero, List.drop_succ_cons, List.drop_zero, List.cons_append, List.nil_append, List.append_nil, List.length_cons, List.length_nil, Nat.reduceAdd, Nat.zero_add, Nat.add_zero, Value.cells, wrV, zrep_one, List.replicate_succ, List.replicate_zero, Nat.reduceMul, Nat.zero_mul]; first | done | rfl) | rfl) rfl ?_
      refine sx_move rfl rfl ?_
      refine sx_store 2 rfl rfl rfl tyS35 (by first | (simp only [Value.cells]; first | done | rfl) | rfl) rfl rfl (by first | (simp only [List.length_cons, List.length_nil, Nat.reduceAdd, Nat.zero_add, Nat.add_zero]; first | done | rfl) | rfl) (by first | (simp only [List.take_succ_cons, List.take_zero, List.drop_succ_cons, List.drop_zero, List.cons_append, List.nil_append, List.append_nil, List.length_cons, List.length_nil, Nat.reduceAdd, Nat.zero_add, Nat.add_zero, Value.cells, wrV]; first | done | rfl) | rfl) (by first | (simp only [List.set_cons_succ, List.set_cons_zero]; first | done | rfl) | rfl) ?_
      refine sx_assign rfl rfl ?_
      refine sx_nil (hZ _ _ ?_)
      refine awp_forget [(2, _), (3, _)] (Kn.cons rfl (Kn.cons rfl (Kn.nil))) ?_
      refine awp_ret ?_
      repeat (with_reducible (first | refine nx_then_ret ?_ | refine nx_block_ret ?_))
      exact nx_ret2h [] rfl (ResOk.cell 2 rfl rfl tyA35 tyS35 rfl) rfl (HLe.sub (List.nil_sublist _)) ⟨_, rfl, .inr ⟨he', rfl, rfl⟩⟩
    have he' : e = 0 := by simp at h2; omega
    rw [if_neg (by simpa using he')] at hq
    refine awp_skip ?_
    with_reducible refine nx_normal ?_
    have hM2 : CntOk (aput M x.id 1) (idsI (L.take (i + 1))) := fun k => by
      rw [aget_put, htk, hM k]
      by_cases hk : x.id = k
      · subst hk
        simp
      · have hk' : ¬ k = x.id := fun h => hk h.symm
        simp [hk, hk']
    refine awp_region (fun Z hZ => ?_)
    refine sx_move rfl rfl ?_
    refine sx_loadA 0 rfl rfl tyA40 tyS40 (by first | (simp only [List.length_cons, List.length_nil, Nat.reduceAdd, Nat.zero_add, Nat.add_zero]; first | done | rfl) | rfl) (by first | (simp only [List.take_succ_cons, List.take_zero, List.drop_succ_cons, List.drop_zero, List.cons_append, List.nil_append, List.append_nil, List.length_cons, List.length_nil, Nat.reduceAdd, Nat.zero_add, Nat.add_zero, Value.cells, wrV]; first | done | rfl) | rfl) rfl ?_
    refine sx_buildSlice Tryz.underlying33 tyS40 tyZ40 rfl rfl rfl rfl (by first | (simp only [List.take_succ_cons, List.take_zero, List.drop_succ_cons, List.drop_zero, List.cons_append, List.nil_append, List.append_nil, List.length_cons, List.length_nil, Nat.reduceAdd, Nat.zero_add, Nat.add_zero, Value.cells, wrV, zrep_one, List.replicate_succ, List.replicate_zero, Nat.reduceMul, Nat.zero_mul]; first | done | rfl) | rfl) rfl (fun g3 => ?_)
    refine sx_appendE [_, _, _, _, _] elemIt rfl hv (by rw [icells_len, List.length_take]; omega) rfl (fun w hw => rd_own (i := 0) (xs := x.cells) rfl rfl hw) rfl (by show _ ≤ 9223372036854775807; omega) (by omega) (HLe.refl _) rfl (fun v2 hv2 => ?_)
    refine sx_assign rfl rfl ?_
    refine sx_nil (hZ _ _ ?_)
    refine nx_forget [(2, _), (4, _), (5, _), (10, _), (11, _), (12, _)] (Kn.cons rfl (Kn.cons rfl (Kn.cons rfl (Kn.cons rfl (Kn.cons rfl (Kn.cons rfl (Kn.nil))))))) ?_
    repeat (with_reducible refine nx_block_normal ?_)
    with_reducible refine nx_normal ?_
    refine awp_region (fun Z hZ => ?_)
    refine sx_add rfl rfl ((i + 1 : Nat) : Int) (by rw [IntWalk.i64_in _ (by omega)]; omega) rfl ?_
    refine sx_move rfl rfl ?_
    refine sx_nil (hZ _ _ ?_)
    refine nx_forget [(2, _), (4, _), (5, _), (10, _), (11, _), (12, _)] (Kn.cons rfl (Kn.cons rfl (Kn.cons rfl (Kn.cons rfl (Kn.cons rfl (Kn.cons rfl (Kn.nil))))))) ?_
    refine nx_round (i + 1, v2, aput M x.id 1) ⟨by show i + 1 ≤ _; omega, hv2, hM2, hq⟩ (by simp; omega) (Kn.cons rfl (Kn.cons rfl (Kn.cons rfl (Kn.cons rfl (Kn.cons rfl (Kn.cons rfl Kn.nil)))))) ?_
    simp only
    rw [icells_take hx]
    exact HLe.drop 2 rfl
  · refine awp_exit ?_
    repeat (with_reducible refine nx_then_exit ?_)
    with_reducible refine nx_block_exit ?_
    with_reducible refine nx_normal ?_
    have hke : i = L.length := by simp at h; omega
    subst hke
    rw [List.drop_length, ofE] at hq
    have h0 : ofQ L = 0 := hq.symm
    obtain ⟨o1, o2, o3, o4⟩ := of_ok h0
    rw [List.take_length, h0]
    have hol := o4.length_eq
    rcases Nat.eq_zero_or_pos L.length with hz | hz
    · obtain rfl : L = [] := List.length_eq_zero_iff.1 hz
      obtain ⟨Av, cv, rfl, hAv⟩ := hv.form
      refine awp_heap (.own g1 35 [.slice none 0 0] :: rowE (.slice Av 0 cv) 40 2 []) (HLe.sub ((List.Sublist.cons_cons _ (List.sublist_append_right T _)).trans (List.sublist_cons_self _ _))) ?_

      refine awp_seq_region (fun Z hZ => ?_)
      refine sx_move rfl rfl ?_
      refine sx_callP (sortE_fn Av cv) rfl rfl ?_
      refine sx_nil (hZ _ _ ?_)
      refine awp_forget [(2, _), (5, _)] (Kn.cons rfl (Kn.cons rfl (Kn.nil))) ?_
      refine awp_seq_region (fun Z hZ => ?_)
      refine sx_move rfl rfl ?_
      refine sx_build tyZ35 tyP35 rfl rfl (by first | (simp only [List.take_succ_cons, List.take_zero, List.drop_succ_cons, List.drop_zero, List.cons_append, List.nil_append, List.append_nil, List.length_cons, List.length_nil, Nat.reduceAdd, Nat.zero_add, Nat.add_zero, Value.cells, wrV, zrep_one, List.replicate_succ, List.replicate_zero, Nat.reduceMul, Nat.zero_mul]; first | done | rfl) | rfl) rfl ?_
      first | refine sx_store 0 rfl rfl rfl tyS35 (by first | (simp only [Value.cells]; first | done | rfl) | rfl) rfl rfl (by first | (simp only [List.length_cons, List.length_nil, Nat.reduceAdd, Nat.zero_add, Nat.add_zero]; first | done | rfl) | rfl) (by first | (simp only [List.take_succ_cons, List.take_zero, List.drop_succ_cons, List.drop_zero, List.cons_append, List.nil_append, List.append_nil, List.length_cons, List.length_nil, Nat.reduceAdd, Nat.zero_add, Nat.add_zero, Value.cells, wrV]; first | done | rfl) | rfl) (by first | (simp only [List.set_cons_succ, List.set_cons_zero]; first | done | rfl) | rfl) ?_
      refine sx_assign rfl rfl ?_
      refine sx_nil (hZ _ _ ?_)
      refine awp_forget [(2, _), (3, _)] (Kn.cons rfl (Kn.cons rfl (Kn.nil))) ?_
      refine awp_ret ?_
      exact nx_ret2h _ rfl (ResOk.cell 0 rfl rfl tyA35 tyS35 rfl) rfl (HLe.drop 1 rfl) ⟨_, rfl, .inl ⟨rfl, hv, rfl⟩⟩
    · obtain ⟨gv, cv, rfl⟩ := hv.some hz
      refine awp_heap ([.ob gv (RowP 40 2 L.length cv (icells L))] ++ [.own g1 35 [.slice none 0 0]]) ((HLe.swap _ _).trans (HLe.sub ((List.Sublist.cons_cons _ (List.sublist_append_right T _)).trans (List.sublist_cons_self _ _)))) ?_

      refine awp_seq_region (fun Z hZ => ?_)
      refine sx_move rfl rfl ?_
      refine sx_callO [.ob gv (RowP 40 2 L.length cv (icells L))] [.own g1 35 [.slice none 0 0]] (sort_fn gv L.length cv L rfl (by omega)) rfl (HLe.refl _) rfl ?_
      rintro v H' ⟨rfl, Ms, hp, hs, rfl⟩
      obtain rfl := sort_is o1 hp hs
      refine sx_heap [.ob gv (RowP 40 2 L.length cv (icells (sortI L))), .own g1 35 [.slice none 0 0]] (HLe.refl _) ?_
      refine sx_nil (hZ _ _ ?_)
      refine awp_forget [(2, _), (5, _)] (Kn.cons rfl (Kn.cons rfl (Kn.nil))) ?_
      refine awp_seq_region (fun Z hZ => ?_)
      refine sx_move rfl rfl ?_
      refine sx_build tyZ35 tyP35 rfl rfl (by first | (simp only [List.take_succ_cons, List.take_zero, List.drop_succ_cons, List.drop_zero, List.cons_append, List.nil_append, List.append_nil, List.length_cons, List.length_nil, Nat.reduceAdd, Nat.zero_add, Nat.add_zero, Value.cells, wrV, zrep_one, List.replicate_succ, List.replicate_zero, Nat.reduceMul, Nat.zero_mul]; first | done | rfl) | rfl) rfl ?_
      refine sx_store 1 rfl rfl rfl tyS35 (by first | (simp only [Value.cells]; first | done | rfl) | rfl) rfl rfl (by first | (simp only [List.length_cons, List.length_nil, Nat.reduceAdd, Nat.zero_add, Nat.add_zero]; first | done | rfl) | rfl) (by first | (simp only [List.take_succ_cons, List.take_zero, List.drop_succ_cons, List.drop_zero, List.cons_append, List.nil_append, List.append_nil, List.length_cons, List.length_nil, Nat.reduceAdd, Nat.zero_add, Nat.add_zero, Value.cells, wrV]; first | done | rfl) | rfl) (by first | (simp only [List.set_cons_succ, List.set_cons_zero]; first | done | rfl) | rfl) ?_
      refine sx_assign rfl rfl ?_
      refine sx_nil (hZ _ _ ?_)
      refine awp_forget [(2, _), (3, _)] (Kn.cons rfl (Kn.cons rfl (Kn.nil))) ?_
      refine awp_ret ?_
      exact nx_ret2h [.ob gv (RowP 40 2 L.length cv (icells (sortI L)))] rfl (ResOk.cell 1 rfl rfl tyA35 tyS35 rfl) rfl (HLe.sub (List.sublist_append_left [_] [_])) ⟨_, rfl, .inl ⟨rfl, by rw [hol]; exact RowOk.mk gv _ cv, rfl⟩⟩
end Go.Proofs.YtahmhcmfeloclaaGreat

namespace Go.Proofs.YtahmhcmfeloclaaGreat
open Go.RowKit
set_option linter.unusedVariables false
set_option linter.unusedSimpArgs false
/-- An identifier's zoom. -/
def zoomQ (k : Nat) : Int := if 6004799503160661 ≤ k then -1 else (((Lib.bitLen (3 * k + 1) - 1) / 2 : Nat) : Int)
/-- How many tiles the zooms ahead have. -/
def base4 : Nat → Nat
  | 0 => 0
  | z + 1 => base4 z + 4 ^ z
/-- The least zoom, and the greatest. -/
def zLo (L : List It) : Int := if L = [] then 0 else zoomQ (itAt L 0).id
def zHi (L : List It) : Int := if L = [] then 0 else zoomQ (itAt L (L.length - 1)).id
end Go.Proofs.YtahmhcmfeloclaaGreat

namespace Go.Proofs.YtahmhcmfeloclaaGreat
open Go.RowKit
set_option linter.unusedVariables false
set_option linter.unusedSimpArgs false
def putE (k : Nat) (s : List UInt8) (L : List It) : Nat := wrongQ k s (fullQ k L)
def putQ (k : Nat) (s : List UInt8) (L : List It) : List It := if putE k s L = 0 then cPut k s L else L
theorem put_fn2 (A : Option Addr) (c : Nat) (L : List It) (T : Heap) (hA : SlIn A L.length c) (hT : 0 < L.length → T = roE A (icells L)) (hro : Ro T) (hL : L.length ≤ 100000) (hr : Rise L) (k : Nat) (s : List UInt8) :
    Fn Tryz.prog 36 [chV A L.length c, uq k, .string (str s)] T fun v H' => ∃ u, v = .tuple #[.agg #[u], iq (putE k s L)] ∧ ((putE k s L = 0 ∧ RowOk u (cPut k s L).length ∧ H' = rowE u 40 2 (icells (cPut k s L))) ∨ (¬ putE k s L = 0 ∧ u = .slice A L.length c ∧ H' = [])) :=
  put_fn A c L T hA hT hro hL hr k s
theorem del_fn2 (A : Option Addr) (c : Nat) (L : List It) (T : Heap) (hA : SlIn A L.length c) (hT : 0 < L.length → T = roE A (icells L)) (hro : Ro T) (hL : L.length ≤ 100000) (hr : Rise L) (k : Nat) :
    Fn Tryz.prog 35 [chV A L.length c, uq k] T fun v H' => ∃ u, v = .agg #[u] ∧ ((cHas k L = true ∧ RowOk u (cDel k L).length ∧ H' = rowE u 40 2 (icells (cDel k L))) ∨ (¬ cHas k L = true ∧ u = .slice A L.length c ∧ H' = [])) := by
  have h := del_fn A c L T hA hT hro hL hr k
  refine ⟨h.1, fun w hw => (h.2 w hw).mono ?_⟩
  rintro e w' ⟨v, H', he, ⟨u, hv, h1 | ⟨h1, h2⟩⟩, hS⟩
  · exact ⟨v, H', he, ⟨u, hv, .inl h1⟩, hS⟩
  · exact ⟨v, H', he, ⟨u, hv, .inr ⟨by rw [h1]; decide, h2⟩⟩, hS⟩
theorem del_same {k : Nat} {L : List It} (h : ¬ cHas k L = true) : cDel k L = L := by unfold cDel; rw [if_neg h]
theorem putQ_new {k : Nat} {s : List UInt8} {L : List It} (h : putE k s L = 0) : putQ k s L = cPut k s L := by unfold putQ; rw [if_pos h]
theorem putQ_old {k : Nat} {s : List UInt8} {L : List It} (h : ¬ putE k s L = 0) : putQ k s L = L := by unfold putQ; rw [if_neg h]
theorem ChOk.putQ {L : List It} (h : ChOk L) (k : Nat) (s : List UInt8) : ChOk (putQ k s L) := by
  unfold Go.Proofs.YtahmhcmfeloclaaGreat.putQ
  split
  · rename_i h1; exact h.put h1
  · exact h
section
variable {P : Program} {N : Frm} {w0 w : World} {Wr : List Nat} {ops : Array Oper} {rest : List Oper} {fr : Fr} {H : Heap} {Z : Fr → Heap → Prop} {d ty : Nat} {pos : String} {after : Array Edge}
end
theorem rget_mem (k : Nat) (L : List It) : (rGet k L).isSome = decide (k ∈ idsI L) := by
  induction L with
  | nil => simp [rGet, idsI]
  | cons e r ih =>
    rw [rGet]
    by_cases h : e.id = k
    · simp [h, idsI]
    · have h' : ¬ k = e.id := fun hh => h hh.symm
      rw [if_neg h, ih]
      simp [idsI, h']
end Go.Proofs.YtahmhcmfeloclaaGreat

namespace Go.Proofs.YtahmhcmfeloclaaGreat
open Go.RowKit
set_option linter.unusedVariables false
set_option linter.unusedSimpArgs false
section
variable {P : Program} {N : Frm} {w0 w : World} {Wr : List Nat} {ops : Array Oper} {rest : List Oper} {fr : Fr} {H : Heap} {Z : Fr → Heap → Prop} {d ty : Nat} {pos : String} {after : Array Edge}
theorem row_none {A : Option Addr} {n c : Nat} (hv : RowOk (.slice A n c) n) : A = none → c = 0 := fun ha => by
  rcases hv with ⟨h1, _⟩ | ⟨g, c', h1⟩
  · injection h1
  · injection h1 with h2 _ _; rw [ha] at h2; cases h2
/-- A call that reads a row of one's own, and hands back a new one, if p, or this. -/
theorem sx_callRowW {f : FuncId} {xs : List Operand} {vs : List Value} {ts : Array TypeId} {e : TypeId} {size n n1 n2 c : Nat} {A : Option Addr} {xs0 ys zs : List Value} {p : Prop} (mk : Value → Value) (X : Heap) (hv : RowOk (.slice A n1 c) n1) (hH : HLe (X ++ rowE (.slice A n1 c) e size xs0) H)
    (hc : SlIn A n1 c → Fn P f vs (roE A xs0) fun v H' => ∃ u, v = mk u ∧ ((p ∧ RowOk u n ∧ H' = rowE u e size ys) ∨ (¬ p ∧ u = .slice A n1 c ∧ H' = []))) (hx : evs fr xs = some vs) (hN : Nat.ble (d + 1) N.n = true)
    (hnew : p → n = n2 ∧ ys = zs) (hold : ¬ p → n1 = n2 ∧ xs0 = zs)
    (h : ∀ u, RowOk u n2 → (¬ p → u = .slice A n1 c) → sx P N w0 Wr ops rest ((d, mk u) :: fr) (X ++ rowE u e size zs) Z) :
    sx P N w0 Wr ops (⟨some d, .call { callee := .value (.func f), args := xs.toArray, argTypes := ts }, ty, pos, after, none⟩ :: rest) fr H Z := by
  refine sx_heap _ hH ?_
  refine sx_pure (fun w hw => row_cap hv (fun x hx => List.mem_append_right _ hx) hw) (fun hcap => ?_)
  obtain ⟨A2, c2, he, hA, hle⟩ := hv.ro
  injection he with e1 _ e3
  subst e1 e3
  refine sx_callVU (roE A xs0) (hc ⟨hA, hcap.1, row_none hv⟩) hx (row_view hle X _ _ _) (Ro.roE _ _) hN ?_
  rintro v H' ⟨u, rfl, ⟨hp, hu, rfl⟩ | ⟨hp, rfl, rfl⟩⟩
  · obtain ⟨rfl, rfl⟩ := hnew hp
    rw [rowE_flt]
    exact sx_heap (X ++ rowE u e size ys) ((HLe.swap _ _).trans (HLe.sub (List.Sublist.append_left (List.sublist_append_left _ _) _))) (h u hu (fun hn => absurd hp hn))
  · obtain ⟨rfl, rfl⟩ := hold hp
    exact h _ hv (fun _ => rfl)
end
/-- What an argument's items are. -/
def ItsTx (L : List It) : Prop := ∀ e ∈ L, e.id < 18446744073709551616 ∧ e.tx.length ≤ maxLen
/-- Items that are put, as far as they may be. -/
def ownQ (L : List It) : List It := L.foldl (fun acc e => putQ e.id e.tx acc) []
end Go.Proofs.YtahmhcmfeloclaaGreat

namespace Go.Proofs.YtahmhcmfeloclaaGreat
open Go.RowKit
set_option linter.unusedVariables false
set_option linter.unusedSimpArgs false
def chC : List It := [⟨5, [98]⟩]
def chD : List It := [⟨0, [97]⟩, ⟨5, [98]⟩]
def chT : List It := [⟨1, [120]⟩, ⟨1, [121]⟩]
def chA : List It := [⟨0, [97]⟩]
theorem slIn_pos {A : Option Addr} {n c : Nat} (h : SlIn A n c) (hn : 0 < n) : ∃ g o, A = some ⟨g, o, none⟩ := h.arg hn
theorem ChOk.its {L : List It} (h : ChOk L) : ItsOk L := fun e he => by have := h.lt e he; omega
end Go.Proofs.YtahmhcmfeloclaaGreat

namespace Go.Proofs.YtahmhcmfeloclaaGreat
open Go.RowKit
set_option linter.unusedVariables false
set_option linter.unusedSimpArgs false
set_option linter.unusedSectionVars false
theorem HLe.two {T U H : Heap} (h1 : T.Sublist H) (h2 : U.Sublist H) (hU : Ro U) : HLe (T ++ U) H := (HLe.sub (List.Sublist.append_right h1 U)).trans (HLe.dup h2 hU)
theorem Sat.both {w : World} {T U : Heap} (h : Sat w [] T w) (k : Sat w [] U w) (hT : Ro T) (hU : Ro U) : Sat w [] (T ++ U) w :=
  ⟨h.only, fun e he => by
    rcases List.mem_append.1 he with he | he
    · exact h.ents e he
    · exact k.ents e he, List.pairwise_append.2 ⟨h.sep, k.sep, fun a ha b hb hw => by
      rw [hT a ha, hU b hb] at hw
      cases hw⟩⟩
theorem sum_le (L : List It) (n : Nat) (h : ∀ e ∈ L, e.tx.length ≤ n) : cBytes L ≤ L.length * n := by
  induction L with
  | nil => simp [cBytes]
  | cons e r ih =>
    have h1 := ih fun x hx => h x (List.mem_cons_of_mem _ hx)
    have h2 := h e List.mem_cons_self
    simp only [cBytes, List.map_cons, List.sum_cons, List.length_cons] at h1 ⊢
    rw [Nat.succ_mul]
    omega
theorem ChOk.bytes {L : List It} (h : ChOk L) : cBytes L ≤ 1000000000000 := by
  have h1 := sum_le L 65536 fun e he => (h.tx e he).2
  have h2 := h.len
  have h3 := Nat.mul_le_mul_right 65536 h2
  omega
/-- What items make. -/
def ofL (L : List It) : List It := if ofQ L = 0 then sortI L else []
theorem ofL_ok (L : List It) : ChOk (ofL L) := by
  unfold ofL
  split
  · rename_i h; exact (of_ok h).2.2.1
  · exact ChOk.nil
section
variable {N : Frm} {w0 w : World} {Wr : List Nat} {ops : Array Oper} {rest : List Oper} {fr : Fr} {H : Heap} {Z : Fr → Heap → Prop} {d ty : Nat} {pos : String} {after : Array Edge} {xs : List Operand} {ts : Array TypeId} {A B : Option Addr} {c c2 : Nat}
theorem sx_itemsE (L : List It) (hA : SlIn A L.length c) (hS : (roE A (icells L)).Sublist H) (hL : L.length ≤ 100000) (hx : evs fr xs = some [chV A L.length c]) (hN : Nat.ble (d + 1) N.n = true)
    (h : ∀ A' c', SlIn A' L.length c' → sx Tryz.prog N w0 Wr ops rest ((d, .slice A' L.length c') :: fr) (H ++ roE A' (icells L)) Z) : sx Tryz.prog N w0 Wr ops ((⟨some d, .call { callee := .value (.func 33), args := xs.toArray, argTypes := ts }, ty, pos, after, none⟩ : Oper) :: rest) fr H Z :=
  sx_callI (roE A (icells L)) (items_fn A c L _ hA.arg (fun _ => rfl) hA.nil (Ro.roE _ _) hL) hx hS (Ro.roE _ _) hN fun A' c' hA' => sx_heap _ (HLe.swap _ _) (h A' c' hA')
theorem sx_ofE (L : List It) (T : Heap) (hA : ArgOk A L.length) (hT : 0 < L.length → T = roE A (icells L)) (hro : Ro T) (hS : T.Sublist H) (hL : L.length ≤ 100000) (hx : evs fr xs = some [.slice A L.length c]) (hN : Nat.ble (d + 1) N.n = true)
    (h : ∀ A' c', SlIn A' (ofL L).length c' → sx Tryz.prog N w0 Wr ops rest ((d, .tuple #[chV A' (ofL L).length c', iq (ofQ L)]) :: fr) (H ++ roE A' (icells (ofL L))) Z) : sx Tryz.prog N w0 Wr ops ((⟨some d, .call { callee := .value (.func 9), args := xs.toArray, argTypes := ts }, ty, pos, after, none⟩ : Oper) :: rest) fr H Z :=
  sx_callRow (fun u => .tuple #[.agg #[u], iq (ofQ L)]) T (cof_fn A c L T hA hT hro hL) hx hS hro hN (fun hp => by unfold ofL; rw [if_pos hp]; exact ⟨rfl, rfl⟩)
    (fun hp => by unfold ofL; rw [if_neg hp]; exact ⟨rfl, ⟨.inl ⟨rfl, rfl⟩, Nat.le_refl _, fun _ => rfl⟩, List.nil_sublist _⟩) fun A' c' hA' => sx_heap _ (HLe.swap _ _) (h A' c' hA')
theorem sx_csame (L M : List It) (hA : SlIn A L.length c) (hB : SlIn B M.length c2) (h1 : (roE A (icells L)).Sublist H) (h2 : (roE B (icells M)).Sublist H) (hL : L.length ≤ maxLen) (hM : M.length ≤ maxLen) (hx : evs fr xs = some [chV A L.length c, chV B M.length c2]) (hN : Nat.ble (d + 1) N.n = true)
    (h : sx Tryz.prog N w0 Wr ops rest ((d, .bool (sameI L M)) :: fr) H Z) : sx Tryz.prog N w0 Wr ops ((⟨some d, .call { callee := .value (.func 13), args := xs.toArray, argTypes := ts }, ty, pos, after, none⟩ : Oper) :: rest) fr H Z :=
  sx_callV (roE A (icells L) ++ roE B (icells M)) (csame_fn A c L _ hA.arg (fun _ => rfl) (Ro.roE _ _) hL B c2 M _ hB.arg (fun _ => rfl) (Ro.roE _ _) hM) hx (HLe.two h1 h2 (Ro.roE _ _)) ((Ro.roE _ _).append (Ro.roE _ _)) hN h
theorem sx_cget (L : List It) (k : Nat) (hA : SlIn A L.length c) (h1 : (roE A (icells L)).Sublist H) (hok : ChOk L) (hx : evs fr xs = some [chV A L.length c, uq k]) (hN : Nat.ble (d + 1) N.n = true)
    (h : sx Tryz.prog N w0 Wr ops rest ((d, .tuple #[.string (str (cGet k L)), .bool (cHas k L)]) :: fr) H Z) : sx Tryz.prog N w0 Wr ops ((⟨some d, .call { callee := .value (.func 34), args := xs.toArray, argTypes := ts }, ty, pos, after, none⟩ : Oper) :: rest) fr H Z :=
  sx_callV (roE A (icells L)) (get_fn A c L _ hA.arg (fun _ => rfl) (Ro.roE _ _) (by have := hok.len; omega) hok.rise k) hx (HLe.sub h1) (Ro.roE _ _) hN h
end
set_option maxRecDepth 100000
def It.ok (e : It) : Prop := e.id < 18446744073709551616 ∧ e.tx.length ≤ maxLen
end Go.Proofs.YtahmhcmfeloclaaGreat

namespace Go.Proofs.YtahmhcmfeloclaaGreat
open Go.RowKit
set_option linter.unusedVariables false
set_option linter.unusedSimpArgs false
theorem ofE_zero : ∀ (M : List It) (seen : List Nat), (seen ++ idsI M).Nodup → seen.length + M.length ≤ 2048 → (∀ e ∈ M, e.id < 6004799503160661 ∧ e.tx ≠ [] ∧ e.tx.length ≤ 65536) → ofE seen M = 0
  | [], _, _, _, _ => rfl
  | e :: r, seen, hn, hl, hg => by
    have h1 := hg e List.mem_cons_self
    have h2 : e.id ∉ seen := fun hm => by
      have := List.nodup_append.1 hn
      exact this.2.2 e.id hm e.id (by simp [idsI]) rfl
    have h3 : ¬ 2048 ≤ seen.length := by simp at hl; omega
    have hw : wrongQ e.id e.tx (decide (2048 ≤ seen.length)) = 0 := by
      unfold wrongQ
      rw [if_neg (by omega), if_neg h1.2.1, if_neg (by omega), decide_eq_false h3]
      rfl
    rw [ofE, if_neg h2, hw, if_neg (by simp)]
    refine ofE_zero r (seen ++ [e.id]) (by simpa [idsI] using hn) (by simp at hl ⊢; omega) fun x hx => hg x (List.mem_cons_of_mem _ hx)
theorem of_perm {O M : List It} (hO : ChOk O) (hp : M.Perm O) : ofQ M = 0 ∧ ofL M = O := by
  have hn : (idsI O).Nodup := by
    unfold idsI
    have := hO.rise
    exact (List.pairwise_map.2 (this.imp fun h => Nat.ne_of_lt h))
  have hnM : (idsI M).Nodup := (hp.map fun e : It => e.id).nodup_iff.2 hn
  have h0 : ofQ M = 0 := ofE_zero M [] (by simpa using hnM) (by have := hp.length_eq; have := hO.len; simp; omega) fun e he => by
    have hm := hp.mem_iff.1 he
    exact ⟨hO.lt e hm, hO.tx e hm⟩
  refine ⟨h0, ?_⟩
  unfold ofL
  rw [if_pos h0]
  exact (sort_is hnM hp.symm (hO.rise.imp fun h => Nat.le_of_lt h)).symm
theorem put_get {L : List It} (hr : Rise L) {k : Nat} {s : List UInt8} (h : putE k s L = 0) : cHas k (putQ k s L) = true ∧ cGet k (putQ k s L) = s := by
  rw [putQ_new h]
  obtain ⟨X, Y, hh, ⟨t, rfl⟩ | rfl⟩ := it_half hr k
  · rw [hh.put1, hh.has1, hh.get1]; exact ⟨rfl, rfl⟩
  · rw [hh.put0, hh.has1, hh.get1]; exact ⟨rfl, rfl⟩
theorem chas_mem {L : List It} (hr : Rise L) (k : Nat) : cHas k L = decide (k ∈ idsI L) := by rw [(get_eq hr k).1, rget_mem]
/-- As many tiles as there may be. -/
def bigL (n : Nat) : List It := (List.range n).map fun i => ⟨3 * i, [116]⟩
end Go.Proofs.YtahmhcmfeloclaaGreat
