/- The walk of diff.Apply. Conditions: the lists are not too long. The walk of the document's Apply. Conditions: the lists are not too long. The walk of the document's Between. Conditions: the lists are not too long. Steps for the laws of changes: calls whose rows stand at the end of memory; the way of an archive that is empty. Conditions: the lists are not too long. The small example of changes. No conditions. Whether changes are too many; changes as arguments. No conditions. -/
import Derived.Test.YtahmhcmfeloclaaGreatGdf1
namespace Go.Proofs.YtahmhcmfeloclaaGreat
open Go.RowKit
set_option linter.unusedVariables false
set_option linter.unusedSimpArgs false
/-- A chart at hand: a row of one's own, or the one that came in. -/
def St (A : Option Addr) (c : Nat) (O0 : List It) (u : Value) (O : List It) (Hp : Heap) : Prop := (RowOk u O.length ∧ Hp = rowE u 40 2 (icells O)) ∨ (u = .slice A O0.length c ∧ O = O0 ∧ Hp = [])
section
variable {N : Frm} {w0 : World} {Wr : List Nat} {ops : Array Oper} {rest : List Oper} {fr : Fr} {H : Heap} {Z : Fr → Heap → Prop} {d ty : Nat} {pos : String} {after : Array Edge} {xs : List Operand} {ts : Array TypeId} {A : Option Addr} {c : Nat}
theorem sx_gmake {O0 O : List It} {u : Value} {Hp : Heap} (X : Heap) (x : Chg) (hSt : St A c O0 u O Hp) (hok : ChOk O) (hA : SlIn A O0.length c) (hX : (roE A (icells O0)).Sublist X) (hx : evs fr xs = some [x.val, .agg #[u]]) (hN : Nat.ble (d + 1) N.n = true)
    (h : ∀ u' Hp', St A c O0 u' (mkO x O) Hp' → sx Tryz.prog N w0 Wr ops rest ((d, .tuple #[.agg #[u'], iq (mkE x O)]) :: fr) (X ++ Hp') Z) :
    sx Tryz.prog N w0 Wr ops ((⟨some d, .call { callee := .value (.func 22), args := xs.toArray, argTypes := ts }, ty, pos, after, none⟩ : Oper) :: rest) fr (X ++ Hp) Z := by
  rcases hSt with ⟨hu, rfl⟩ | ⟨rfl, rfl, rfl⟩
  · obtain ⟨A1, c1, rfl, _⟩ := hu.form
    exact sx_callRowW (fun u => .tuple #[.agg #[u], iq (mkE x O)]) X hu (HLe.refl _) (fun h1 => gmake_fn A1 c1 O x h1 hok) hx hN (fun _ => ⟨rfl, rfl⟩) (fun hp => by rw [mk_same hp]; exact ⟨rfl, rfl⟩) fun u hu' _ => h u _ (.inl ⟨hu', rfl⟩)
  · refine sx_callVU (roE A (icells O)) (gmake_fn A c O x hA hok) hx (HLe.sub (hX.trans (List.sublist_append_left _ _))) (Ro.roE _ _) hN ?_
    rintro v H' ⟨u, rfl, ⟨hp, hu, rfl⟩ | ⟨hp, rfl, rfl⟩⟩
    · rw [rowE_flt]
      refine sx_heap (X ++ rowE u 40 2 (icells (mkO x O))) ((HLe.swap _ _).trans (HLe.sub (List.Sublist.append_left (List.sublist_append_left _ _) _))) (h u _ (.inl ⟨hu, rfl⟩))
    · exact h _ _ (.inr ⟨rfl, mk_same hp, rfl⟩)
end
theorem app_step {O : List It} {seen : List Nat} {x : Chg} {r : List Chg} : appR O seen (x :: r) = if x.old = x.new then (2, O) else if x.id ∈ seen then (22, O) else if mkE x O = 0 then appR (mkO x O) (seen ++ [x.id]) r else (mkE x O, O) := rfl
theorem gapply_fn (A : Option Addr) (c : Nat) (O : List It) (hA : SlIn A O.length c) (hok : ChOk O) (B : Option Addr) (d : Nat) (L : List Chg) (U : Heap) (hB : ArgOk B L.length) (hU : 0 < L.length → U = roE B (gcells L)) (hro : Ro U) (hL : L.length ≤ 100000) :
    Fn Tryz.prog 11 [chV A O.length c, .slice B L.length d] (roE A (icells O) ++ U) fun v H' => ∃ u, v = .tuple #[.agg #[u], iq (appE O L)] ∧ St A c O u (appO O L) H' := by
  refine Fn.enter (N := 48) Tryz.func11 rfl (by kernel_rfl) rfl (fun w0 => ?_)

  refine awp_seq_region (fun Z hZ => ?_)
  refine sx_box rfl rfl rfl (fun g1 => ?_)
  refine sx_alloc tyZ35 rfl (fun g2 => ?_)
  refine sx_assign rfl rfl ?_
  refine sx_nil (hZ _ _ ?_)
  refine awp_forget [(1, _), (2, _), (4, _)] (Kn.cons rfl (Kn.cons rfl (Kn.cons rfl (Kn.nil)))) ?_

  refine awp_seq_region (fun Z hZ => ?_)
  refine sx_loadA 1 rfl rfl tyA35 tyS35 (by first | (simp only [List.length_cons, List.length_nil, Nat.reduceAdd, Nat.zero_add, Nat.add_zero]; first | done | rfl) | rfl) (by first | (simp only [List.take_succ_cons, List.take_zero, List.drop_succ_cons, List.drop_zero, List.cons_append, List.nil_append, List.append_nil, List.length_cons, List.length_nil, Nat.reduceAdd, Nat.zero_add, Nat.add_zero, Value.cells, wrV]; first | done | rfl) | rfl) rfl ?_
  refine sx_alloc tyZ35 rfl (fun g3 => ?_)
  refine sx_store 0 rfl rfl rfl tyS35 (by first | (simp only [Value.cells]; first | done | rfl) | rfl) rfl rfl (by first | (simp only [List.length_cons, List.length_nil, Nat.reduceAdd, Nat.zero_add, Nat.add_zero]; first | done | rfl) | rfl) (by first | (simp only [List.take_succ_cons, List.take_zero, List.drop_succ_cons, List.drop_zero, List.cons_append, List.nil_append, List.append_nil, List.length_cons, List.length_nil, Nat.reduceAdd, Nat.zero_add, Nat.add_zero, Value.cells, wrV]; first | done | rfl) | rfl) (by first | (simp only [List.set_cons_succ, List.set_cons_zero]; first | done | rfl) | rfl) ?_
  refine sx_nil (hZ _ _ ?_)
  refine awp_forget [(1, _), (2, _), (4, _), (6, _)] (Kn.cons rfl (Kn.cons rfl (Kn.cons rfl (Kn.cons rfl (Kn.nil))))) ?_

  refine awp_seq_region (fun Z hZ => ?_)
  refine sx_makeMap rfl (fun k : Nat => uq k) (fun n : Nat => iq n) (fun b => ?_)
  refine sx_assign rfl rfl ?_
  refine sx_nil (hZ _ _ ?_)
  refine awp_forget [(1, _), (2, _), (4, _), (6, _), (7, _)] (Kn.cons rfl (Kn.cons rfl (Kn.cons rfl (Kn.cons rfl (Kn.cons rfl (Kn.nil)))))) ?_
  refine awp_seq ?_
  refine awp_seq_region (fun Z hZ => ?_)
  refine sx_move rfl rfl ?_
  refine sx_len Tryz.underlying23 rfl rfl ?_
  refine sx_move rfl rfl ?_
  refine sx_nil (hZ _ _ ?_)
  refine awp_forget [(2, _), (4, _), (6, _), (7, _), (13, _), (14, _), (15, _)] (Kn.cons rfl (Kn.cons rfl (Kn.cons rfl (Kn.cons rfl (Kn.cons rfl (Kn.cons rfl (Kn.cons rfl (Kn.nil)))))))) ?_
  refine awp_block ?_
  refine awp_loop (ι := Nat × Value × List It × Heap × List (Nat × Nat)) (fun s => [(2, ptr g1 0), (4, ptr g2 0), (6, ptr g3 0), (7, .map (some b)), (13, .slice B L.length d), (14, iq (L.length : Nat)), (15, iq (s.1 : Nat))])
    (fun s => mapE (fun k : Nat => uq k) (fun n : Nat => iq n) b s.2.2.2.2 :: .own g3 35 [s.2.1] :: .own g2 35 [.slice none 0 0] :: .own g1 35 [.slice A O.length c] :: ((roE A (icells O) ++ U) ++ s.2.2.2.1))
    (fun s => s.1 ≤ L.length ∧ ChOk s.2.2.1 ∧ St A c O s.2.1 s.2.2.1 s.2.2.2.1 ∧ CntOk s.2.2.2.2 ((L.take s.1).map Chg.id) ∧ appR s.2.2.1 ((L.take s.1).map Chg.id) (L.drop s.1) = appR O [] L) (fun s => L.length - s.1) (0, .slice A O.length c, O, [], []) ⟨by simp, hok, .inr ⟨rfl, rfl, rfl⟩, fun k => by simp [aget], by simp⟩ (Kn.cons rfl (Kn.cons rfl (Kn.cons rfl (Kn.cons rfl (Kn.cons rfl (Kn.cons rfl (Kn.cons rfl Kn.nil))))))) (by rw [List.append_nil]; exact HLe.refl _) ?_
  rintro ⟨i, u, O1, Hp, M⟩ ⟨hi, hok1, hSt, hM, hq⟩
  simp only at hi hok1 hSt hM hq

  refine awp_seq_region (fun Z hZ => ?_)
  refine sx_lss rfl rfl rfl ?_
  refine sx_nil (hZ _ _ ?_)
  refine awp_forget [(2, _), (4, _), (6, _), (7, _), (13, _), (14, _), (15, _), (16, _)] (Kn.cons rfl (Kn.cons rfl (Kn.cons rfl (Kn.cons rfl (Kn.cons rfl (Kn.cons rfl (Kn.cons rfl (Kn.cons rfl (Kn.nil))))))))) ?_
  refine awp_seq (awp_cond rfl (fun h => ?_) (fun h => ?_))
  · have hlt : i < L.length := by simpa using h
    have hx := chAt_at hlt
    obtain ⟨x, hxe⟩ : ∃ x, chAt L i = x := ⟨_, rfl⟩
    rw [hxe] at hx
    have hdr : L.drop i = x :: L.drop (i + 1) := by rw [List.drop_eq_getElem_cons hlt]; congr 1; exact (List.getElem?_eq_some_iff.1 hx).2
    have htk : (L.take (i + 1)).map Chg.id = (L.take i).map Chg.id ++ [x.id] := by rw [List.take_add_one, hx]; simp
    obtain ⟨seen, hseen⟩ : ∃ seen, (L.take i).map Chg.id = seen := ⟨_, rfl⟩
    rw [hseen] at hM htk hq
    rw [hdr, app_step, ← htk] at hq
    obtain ⟨n, hn⟩ : ∃ n, (if x.id ∈ seen then 1 else 0 : Nat) = n := ⟨_, rfl⟩
    have hget := cnt_get hM x.id
    rw [hn] at hget
    have hn1 : n ≤ 1 := by rw [← hn]; split <;> omega
    obtain ⟨g, o, rfl⟩ := hB (by omega)
    obtain rfl := hU (by omega)
    have herr : ∀ e, 0 < e → (appR O [] L).1 = e → appE O L = e ∧ appO O L = O := fun e he h => ⟨h, by unfold appO appE; rw [h, if_neg (by omega)]⟩
    refine awp_heap (mapE (fun k : Nat => uq k) (fun n : Nat => iq n) b M :: .own g3 35 [u] :: .own g2 35 [.slice none 0 0] :: .own g1 35 [.slice A O.length c] :: .ro g o (gcells L) :: (roE A (icells O) ++ Hp)) (fun _ _ _ hw => hw.perm (by
      refine List.Perm.cons _ (List.Perm.cons _ (List.Perm.cons _ (List.Perm.cons _ ?_)))
      rw [List.append_assoc]
      exact List.perm_middle)) ?_
    refine awp_skip ?_
    with_reducible refine nx_normal ?_
    refine awp_seq (awp_block ?_)

    refine awp_seq_region (fun Z hZ => ?_)
    refine sx_indexAddr (o + i * 3) Tryz.underlying23 tyS45 rfl rfl (by omega) (by simp) rfl ?_
    refine sx_loadRo 4 rfl rfl (i * 3) rfl tyA45 tyS45 (gcells_all hx) rfl ?_
    refine sx_alloc tyZ45 rfl (fun g4 => ?_)
    refine sx_store 0 rfl rfl rfl tyS45 (by first | (simp only [Value.cells]; first | done | rfl) | rfl) rfl rfl (by first | (simp only [List.length_cons, List.length_nil, Nat.reduceAdd, Nat.zero_add, Nat.add_zero]; first | done | rfl) | rfl) (by first | (simp only [List.take_succ_cons, List.take_zero, List.drop_succ_cons, List.drop_zero, List.cons_append, List.nil_append, List.append_nil, List.length_cons, List.length_nil, Nat.reduceAdd, Nat.zero_add, Nat.add_zero, Value.cells, wrV]; first | done | rfl) | rfl) (by first | (simp only [List.set_cons_succ, List.set_cons_zero]; first | done | rfl) | rfl) ?_
    refine sx_nil (hZ _ _ ?_)
    refine awp_forget [(2, _), (4, _), (6, _), (7, _), (9, _), (13, _), (14, _), (15, _)] (Kn.cons rfl (Kn.cons rfl (Kn.cons rfl (Kn.cons rfl (Kn.cons rfl (Kn.cons rfl (Kn.cons rfl (Kn.cons rfl (Kn.nil))))))))) ?_

    refine awp_seq ?_
    refine awp_seq_region (fun Z hZ => ?_)
    refine sx_fieldAddr rfl tyF45_1 (by first | (simp only [Nat.reduceAdd, Nat.add_zero, Nat.zero_add]; first | done | rfl) | rfl) rfl ?_
    refine sx_load 0 rfl rfl tyA9 tyS9 rfl rfl ?_
    refine sx_fieldAddr rfl tyF45_2 (by first | (simp only [Nat.reduceAdd, Nat.add_zero, Nat.zero_add]; first | done | rfl) | rfl) rfl ?_
    refine sx_load 0 rfl rfl tyA9 tyS9 rfl rfl ?_
    refine sx_seql rfl rfl rfl ?_
    refine sx_nil (hZ _ _ ?_)
    refine awp_forget [(2, _), (4, _), (6, _), (7, _), (9, _), (13, _), (14, _), (15, _), (23, _)] (Kn.cons rfl (Kn.cons rfl (Kn.cons rfl (Kn.cons rfl (Kn.cons rfl (Kn.cons rfl (Kn.cons rfl (Kn.cons rfl (Kn.cons rfl (Kn.nil)))))))))) ?_
    refine awp_cond rfl (fun h1 => ?_) (fun h1 => ?_)
    · have h1' : x.old = x.new := by simpa using h1
      rw [if_pos h1'] at hq
      obtain ⟨e1, e2⟩ := herr 2 (by decide) (by rw [← hq])
      rw [e1, e2]
      refine awp_seq_region (fun Z hZ => ?_)
      refine sx_loadA 4 rfl rfl tyA35 tyS35 (by first | (simp only [List.length_cons, List.length_nil, Nat.reduceAdd, Nat.zero_add, Nat.add_zero]; first | done | rfl) | rfl) (by first | (simp only [List.take_succ_cons, List.take_zero, List.drop_succ_cons, List.drop_zero, List.cons_append, List.nil_append, List.append_nil, List.length_cons, List.length_nil, Nat.reduceAdd, Nat.zero_add, Nat.add_zero, Value.cells, wrV]; first | done | rfl) | rfl) rfl ?_
      refine sx_store 3 rfl rfl rfl tyS35 (by first | (simp only [Value.cells]; first | done | rfl) | rfl) rfl rfl (by first | (simp only [List.length_cons, List.length_nil, Nat.reduceAdd, Nat.zero_add, Nat.add_zero]; first | done | rfl) | rfl) (by first | (simp only [List.take_succ_cons, List.take_zero, List.drop_succ_cons, List.drop_zero, List.cons_append, List.nil_append, List.append_nil, List.length_cons, List.length_nil, Nat.reduceAdd, Nat.zero_add, Nat.add_zero, Value.cells, wrV]; first | done | rfl) | rfl) (by first | (simp only [List.set_cons_succ, List.set_cons_zero]; first | done | rfl) | rfl) ?_
      refine sx_assign rfl rfl ?_
      refine sx_nil (hZ _ _ ?_)
      refine awp_forget [(4, _), (5, _)] (Kn.cons rfl (Kn.cons rfl (Kn.nil))) ?_
      refine awp_ret ?_
      repeat (with_reducible (first | refine nx_then_ret ?_ | refine nx_block_ret ?_))
      exact nx_ret2h [] rfl (ResOk.cell 3 rfl rfl tyA35 tyS35 rfl) rfl (HLe.sub (List.nil_sublist _)) ⟨_, rfl, .inr ⟨rfl, rfl, rfl⟩⟩
    have h1' : ¬ x.old = x.new := by simpa using h1
    rw [if_neg h1'] at hq
    refine awp_skip ?_
    with_reducible refine nx_normal ?_

    refine awp_seq ?_
    refine awp_seq_region (fun Z hZ => ?_)
    refine sx_move rfl rfl ?_
    refine sx_fieldAddr rfl tyF45_0 (by first | (simp only [Nat.reduceAdd, Nat.add_zero, Nat.zero_add]; first | done | rfl) | rfl) rfl ?_
    refine sx_load 0 rfl rfl tyA38 tyS38 rfl rfl ?_
    refine sx_lookup 1 keyU Tryz.underlying53 zeroI x.id _ rfl rfl rfl hget rfl ?_
    refine sx_add rfl rfl ((n + 1 : Nat) : Int) (by rw [IntWalk.i64_in _ (by omega)]; omega) rfl ?_
    refine sx_mapUpdate 1 keyU Tryz.underlying53 x.id (n + 1) rfl rfl rfl rfl rfl ?_
    refine sx_nil (hZ _ _ ?_)
    refine awp_forget [(2, _), (4, _), (6, _), (7, _), (9, _), (13, _), (14, _), (15, _)] (Kn.cons rfl (Kn.cons rfl (Kn.cons rfl (Kn.cons rfl (Kn.cons rfl (Kn.cons rfl (Kn.cons rfl (Kn.cons rfl (Kn.nil))))))))) ?_
    refine awp_seq_region (fun Z hZ => ?_)
    refine sx_move rfl rfl ?_
    refine sx_fieldAddr rfl tyF45_0 (by first | (simp only [Nat.reduceAdd, Nat.add_zero, Nat.zero_add]; first | done | rfl) | rfl) rfl ?_
    refine sx_load 0 rfl rfl tyA38 tyS38 rfl rfl ?_
    refine sx_lookup 1 keyU Tryz.underlying53 zeroI x.id _ rfl rfl rfl (look_put M x.id (n + 1)) rfl ?_
    refine sx_gtr rfl rfl rfl ?_
    refine sx_nil (hZ _ _ ?_)
    refine awp_forget [(2, _), (4, _), (6, _), (7, _), (9, _), (13, _), (14, _), (15, _), (34, _)] (Kn.cons rfl (Kn.cons rfl (Kn.cons rfl (Kn.cons rfl (Kn.cons rfl (Kn.cons rfl (Kn.cons rfl (Kn.cons rfl (Kn.cons rfl (Kn.nil)))))))))) ?_
    refine awp_cond rfl (fun h2 => ?_) (fun h2 => ?_)
    · have hin : x.id ∈ seen := by
        have : n = 1 := by simp at h2; omega
        rw [this] at hn
        split at hn
        · assumption
        · omega
      rw [if_pos hin] at hq
      obtain ⟨e1, e2⟩ := herr 22 (by decide) (by rw [← hq])
      rw [e1, e2]
      refine awp_seq_region (fun Z hZ => ?_)
      refine sx_loadA 4 rfl rfl tyA35 tyS35 (by first | (simp only [List.length_cons, List.length_nil, Nat.reduceAdd, Nat.zero_add, Nat.add_zero]; first | done | rfl) | rfl) (by first | (simp only [List.take_succ_cons, List.take_zero, List.drop_succ_cons, List.drop_zero, List.cons_append, List.nil_append, List.append_nil, List.length_cons, List.length_nil, Nat.reduceAdd, Nat.zero_add, Nat.add_zero, Value.cells, wrV]; first | done | rfl) | rfl) rfl ?_
      refine sx_store 3 rfl rfl rfl tyS35 (by first | (simp only [Value.cells]; first | done | rfl) | rfl) rfl rfl (by first | (simp only [List.length_cons, List.length_nil, Nat.reduceAdd, Nat.zero_add, Nat.add_zero]; first | done | rfl) | rfl) (by first | (simp only [List.take_succ_cons, List.take_zero, List.drop_succ_cons, List.drop_zero, List.cons_append, List.nil_append, List.append_nil, List.length_cons, List.length_nil, Nat.reduceAdd, Nat.zero_add, Nat.add_zero, Value.cells, wrV]; first | done | rfl) | rfl) (by first | (simp only [List.set_cons_succ, List.set_cons_zero]; first | done | rfl) | rfl) ?_
      refine sx_assign rfl rfl ?_
      refine sx_nil (hZ _ _ ?_)
      refine awp_forget [(4, _), (5, _)] (Kn.cons rfl (Kn.cons rfl (Kn.nil))) ?_
      refine awp_ret ?_
      repeat (with_reducible (first | refine nx_then_ret ?_ | refine nx_block_ret ?_))
      exact nx_ret2h [] rfl (ResOk.cell 3 rfl rfl tyA35 tyS35 rfl) rfl (HLe.sub (List.nil_sublist _)) ⟨_, rfl, .inr ⟨rfl, rfl, rfl⟩⟩
    have hin : x.id ∉ seen := fun hc => by
      rw [if_pos hc] at hn
      simp at h2
      omega
    have hn0 : n = 0 := by rw [if_neg hin] at hn; omega
    subst hn0
    rw [if_neg hin] at hq
    have hM2 : CntOk (aput M x.id 1) ((L.take (i + 1)).map Chg.id) := fun k => by
      rw [aget_put, htk, hM k]
      by_cases hk : x.id = k
      · subst hk
        simp
      · have hk' : ¬ k = x.id := fun h => hk h.symm
        simp [hk, hk']
    refine awp_skip ?_
    with_reducible refine nx_normal ?_
    refine awp_seq_region (fun Z hZ => ?_)
    refine sx_assign rfl rfl ?_
    refine sx_nil (hZ _ _ ?_)
    refine awp_forget [(2, _), (4, _), (6, _), (7, _), (9, _), (13, _), (14, _), (15, _)] (Kn.cons rfl (Kn.cons rfl (Kn.cons rfl (Kn.cons rfl (Kn.cons rfl (Kn.cons rfl (Kn.cons rfl (Kn.cons rfl (Kn.nil))))))))) ?_
    obtain ⟨e, he⟩ : ∃ e, mkE x O1 = e := ⟨_, rfl⟩
    have hok2 := mk_ok hok1 x
    obtain ⟨O2, hO2⟩ : ∃ O2, mkO x O1 = O2 := ⟨_, rfl⟩
    rw [he, hO2] at hq
    rw [hO2] at hok2
    refine awp_heap ((.own g4 45 x.cells :: mapE (fun k : Nat => uq k) (fun n : Nat => iq n) b (aput M x.id 1) :: .own g3 35 [u] :: .own g2 35 [.slice none 0 0] :: .own g1 35 [.slice A O.length c] :: .ro g o (gcells L) :: roE A (icells O)) ++ Hp) (HLe.refl _) ?_

    refine awp_seq_region (fun Z hZ => ?_)
    refine sx_loadA 0 rfl rfl tyA45 tyS45 (by first | (simp only [List.length_cons, List.length_nil, Nat.reduceAdd, Nat.zero_add, Nat.add_zero]; first | done | rfl) | rfl) (by first | (simp only [List.take_succ_cons, List.take_zero, List.drop_succ_cons, List.drop_zero, List.cons_append, List.nil_append, List.append_nil, List.length_cons, List.length_nil, Nat.reduceAdd, Nat.zero_add, Nat.add_zero, Value.cells, wrV]; first | done | rfl) | rfl) rfl ?_
    refine sx_loadA 2 rfl rfl tyA35 tyS35 (by first | (simp only [List.length_cons, List.length_nil, Nat.reduceAdd, Nat.zero_add, Nat.add_zero]; first | done | rfl) | rfl) (by first | (simp only [List.take_succ_cons, List.take_zero, List.drop_succ_cons, List.drop_zero, List.cons_append, List.nil_append, List.append_nil, List.length_cons, List.length_nil, Nat.reduceAdd, Nat.zero_add, Nat.add_zero, Value.cells, wrV]; first | done | rfl) | rfl) rfl ?_
    refine sx_gmake (.own g4 45 x.cells :: mapE (fun k : Nat => uq k) (fun n : Nat => iq n) b (aput M x.id 1) :: .own g3 35 [u] :: .own g2 35 [.slice none 0 0] :: .own g1 35 [.slice A O.length c] :: .ro g o (gcells L) :: roE A (icells O)) x hSt hok1 hA (.cons _ (.cons _ (.cons _ (.cons _ (.cons _ (.cons _ (List.Sublist.refl _))))))) rfl rfl (fun u2 Hp2 hSt2 => ?_)
    rw [he]
    rw [hO2] at hSt2
    obtain ⟨A2, n2, c2, rfl⟩ : ∃ A2 n2 c2, u2 = .slice A2 n2 c2 := by rcases hSt2 with ⟨hu, _⟩ | ⟨rfl, _⟩; obtain ⟨A2, c2, rfl, _⟩ := hu.form; exact ⟨_, _, _, rfl⟩; exact ⟨_, _, _, rfl⟩
    refine sx_move rfl rfl ?_
    refine sx_extract rfl rfl rfl ?_
    refine sx_extract rfl rfl rfl ?_
    refine sx_store 2 rfl rfl rfl tyS35 (by first | (simp only [Value.cells]; first | done | rfl) | rfl) rfl rfl (by first | (simp only [List.length_cons, List.length_nil, Nat.reduceAdd, Nat.zero_add, Nat.add_zero]; first | done | rfl) | rfl) (by first | (simp only [List.take_succ_cons, List.take_zero, List.drop_succ_cons, List.drop_zero, List.cons_append, List.nil_append, List.append_nil, List.length_cons, List.length_nil, Nat.reduceAdd, Nat.zero_add, Nat.add_zero, Value.cells, wrV]; first | done | rfl) | rfl) (by first | (simp only [List.set_cons_succ, List.set_cons_zero]; first | done | rfl) | rfl) ?_
    refine sx_assign rfl rfl ?_
    refine sx_nil (hZ _ _ ?_)
    refine awp_forget [(2, _), (4, _), (6, _), (7, _), (10, _), (13, _), (14, _), (15, _)] (Kn.cons rfl (Kn.cons rfl (Kn.cons rfl (Kn.cons rfl (Kn.cons rfl (Kn.cons rfl (Kn.cons rfl (Kn.cons rfl (Kn.nil))))))))) ?_
    refine awp_seq_region (fun Z hZ => ?_)
    refine sx_move rfl rfl ?_
    refine sx_neq rfl rfl rfl ?_
    refine sx_nil (hZ _ _ ?_)
    refine awp_forget [(2, _), (4, _), (6, _), (7, _), (10, _), (13, _), (14, _), (15, _), (43, _)] (Kn.cons rfl (Kn.cons rfl (Kn.cons rfl (Kn.cons rfl (Kn.cons rfl (Kn.cons rfl (Kn.cons rfl (Kn.cons rfl (Kn.cons rfl (Kn.nil)))))))))) ?_
    refine awp_cond rfl (fun h3 => ?_) (fun h3 => ?_)
    · have he' : ¬ e = 0 := by simp at h3; omega
      rw [if_neg he'] at hq
      obtain ⟨e1, e2⟩ := herr e (by omega) (by rw [← hq])
      rw [e1, e2]
      refine awp_seq_region (fun Z hZ => ?_)
      refine sx_loadA 4 rfl rfl tyA35 tyS35 (by first | (simp only [List.length_cons, List.length_nil, Nat.reduceAdd, Nat.zero_add, Nat.add_zero]; first | done | rfl) | rfl) (by first | (simp only [List.take_succ_cons, List.take_zero, List.drop_succ_cons, List.drop_zero, List.cons_append, List.nil_append, List.append_nil, List.length_cons, List.length_nil, Nat.reduceAdd, Nat.zero_add, Nat.add_zero, Value.cells, wrV]; first | done | rfl) | rfl) rfl ?_
      refine sx_move rfl rfl ?_
      refine sx_store 3 rfl rfl rfl tyS35 (by first | (simp only [Value.cells]; first | done | rfl) | rfl) rfl rfl (by first | (simp only [List.length_cons, List.length_nil, Nat.reduceAdd, Nat.zero_add, Nat.add_zero]; first | done | rfl) | rfl) (by first | (simp only [List.take_succ_cons, List.take_zero, List.drop_succ_cons, List.drop_zero, List.cons_append, List.nil_append, List.append_nil, List.length_cons, List.length_nil, Nat.reduceAdd, Nat.zero_add, Nat.add_zero, Value.cells, wrV]; first | done | rfl) | rfl) (by first | (simp only [List.set_cons_succ, List.set_cons_zero]; first | done | rfl) | rfl) ?_
      refine sx_assign rfl rfl ?_
      refine sx_nil (hZ _ _ ?_)
      refine awp_forget [(4, _), (5, _)] (Kn.cons rfl (Kn.cons rfl (Kn.nil))) ?_
      refine awp_ret ?_
      repeat (with_reducible (first | refine nx_then_ret ?_ | refine nx_block_ret ?_))
      exact nx_ret2h [] rfl (ResOk.cell 3 rfl rfl tyA35 tyS35 rfl) rfl (HLe.sub (List.nil_sublist _)) ⟨_, rfl, .inr ⟨rfl, rfl, rfl⟩⟩
    have he' : e = 0 := by simp at h3; omega
    rw [if_pos he'] at hq
    refine awp_skip ?_
    repeat (with_reducible refine nx_block_normal ?_)
    with_reducible refine nx_normal ?_
    refine awp_region (fun Z hZ => ?_)
    refine sx_add rfl rfl ((i + 1 : Nat) : Int) (by rw [IntWalk.i64_in _ (by omega)]; omega) rfl ?_
    refine sx_move rfl rfl ?_
    refine sx_nil (hZ _ _ ?_)
    refine nx_forget [(2, _), (4, _), (6, _), (7, _), (13, _), (14, _), (15, _)] (Kn.cons rfl (Kn.cons rfl (Kn.cons rfl (Kn.cons rfl (Kn.cons rfl (Kn.cons rfl (Kn.cons rfl (Kn.nil)))))))) ?_
    exact nx_round (i + 1, .slice A2 n2 c2, O2, Hp2, aput M x.id 1) ⟨by show i + 1 ≤ _; omega, hok2, hSt2, hM2, hq⟩ (by simp; omega) (Kn.cons rfl (Kn.cons rfl (Kn.cons rfl (Kn.cons rfl (Kn.cons rfl (Kn.cons rfl (Kn.cons rfl Kn.nil))))))) (fun _ _ _ hw => (hw.sub (List.sublist_cons_self _ _)).perm (by
      refine List.Perm.cons _ (List.Perm.cons _ (List.Perm.cons _ (List.Perm.cons _ ?_)))
      show (Ent.ro g o (gcells L) :: (roE A (icells O) ++ Hp2)).Perm ((roE A (icells O) ++ [Ent.ro g o (gcells L)]) ++ Hp2)
      rw [List.append_assoc]
      exact List.perm_middle.symm))
  · refine awp_exit ?_
    repeat (with_reducible refine nx_then_exit ?_)
    with_reducible refine nx_block_exit ?_
    with_reducible refine nx_normal ?_
    have hke : i = L.length := by simp at h; omega
    subst hke
    rw [List.drop_length, appR] at hq
    have e0 : appE O L = 0 := by unfold appE; rw [← hq]
    have eO : appO O L = O1 := by unfold appO; rw [if_pos e0, ← hq]
    rw [e0, eO]
    obtain ⟨A2, n2, c2, rfl⟩ : ∃ A2 n2 c2, u = .slice A2 n2 c2 := by
      rcases hSt with ⟨hu, _⟩ | ⟨rfl, _⟩
      · obtain ⟨A2, c2, rfl, _⟩ := hu.form; exact ⟨_, _, _, rfl⟩
      · exact ⟨_, _, _, rfl⟩

    refine awp_seq_region (fun Z hZ => ?_)
    refine sx_loadA 1 rfl rfl tyA35 tyS35 (by first | (simp only [List.length_cons, List.length_nil, Nat.reduceAdd, Nat.zero_add, Nat.add_zero]; first | done | rfl) | rfl) (by first | (simp only [List.take_succ_cons, List.take_zero, List.drop_succ_cons, List.drop_zero, List.cons_append, List.nil_append, List.append_nil, List.length_cons, List.length_nil, Nat.reduceAdd, Nat.zero_add, Nat.add_zero, Value.cells, wrV]; first | done | rfl) | rfl) rfl ?_
    refine sx_store 2 rfl rfl rfl tyS35 (by first | (simp only [Value.cells]; first | done | rfl) | rfl) rfl rfl (by first | (simp only [List.length_cons, List.length_nil, Nat.reduceAdd, Nat.zero_add, Nat.add_zero]; first | done | rfl) | rfl) (by first | (simp only [List.take_succ_cons, List.take_zero, List.drop_succ_cons, List.drop_zero, List.cons_append, List.nil_append, List.append_nil, List.length_cons, List.length_nil, Nat.reduceAdd, Nat.zero_add, Nat.add_zero, Value.cells, wrV]; first | done | rfl) | rfl) (by first | (simp only [List.set_cons_succ, List.set_cons_zero]; first | done | rfl) | rfl) ?_
    refine sx_assign rfl rfl ?_
    refine sx_nil (hZ _ _ ?_)
    refine awp_forget [(4, _), (5, _)] (Kn.cons rfl (Kn.cons rfl (Kn.nil))) ?_
    refine awp_ret ?_
    exact nx_ret2h Hp rfl (ResOk.cell 2 rfl rfl tyA35 tyS35 rfl) rfl (HLe.sub (.cons _ (.cons _ (.cons _ (.cons _ (List.sublist_append_right _ _)))))) ⟨_, rfl, hSt⟩
end Go.Proofs.YtahmhcmfeloclaaGreat

namespace Go.Proofs.YtahmhcmfeloclaaGreat
open Go.RowKit
set_option linter.unusedVariables false
set_option linter.unusedSimpArgs false
def StR (A : Option Addr) (c : Nat) (O0 : List It) (u : Value) (O : List It) (Hp : Heap) : Prop := (RowOk u O.length ∧ Hp = rowE u 71 2 (icells O)) ∨ (u = .slice A O0.length c ∧ O = O0 ∧ Hp = [])
end Go.Proofs.YtahmhcmfeloclaaGreat

namespace Go.Proofs.YtahmhcmfeloclaaGreat
open Go.RowKit
set_option linter.unusedVariables false
set_option linter.unusedSimpArgs false
theorem row_endD {A : Option Addr} {n c : Nat} (hle : ∀ (X Y : Heap) (t : TypeId) (size : Nat) (xs : List Value), HLe (X ++ (roE A xs ++ Y)) (X ++ (rowE (.slice A n c) t size xs ++ Y))) (X : Heap) (t : TypeId) (size : Nat) (xs : List Value) : HLe (X ++ roE A xs) (X ++ rowE (.slice A n c) t size xs) := by
  have := hle X [] t size xs
  rwa [List.append_nil, List.append_nil] at this
theorem grbet_fn (A : Option Addr) (c : Nat) (L : List It) (T : Heap) (hA : ArgOk A L.length) (hT : 0 < L.length → T = roE A (icells L)) (hro : Ro T) (hL : ChOk L)
    (B : Option Addr) (d : Nat) (M : List It) (U : Heap) (hB : ArgOk B M.length) (hU : 0 < M.length → U = roE B (icells M)) (hroU : Ro U) (hM : ChOk M) :
    Fn Tryz.prog 16 [.slice A L.length c, .slice B M.length d] (T ++ U) fun v H' => RowOk v (betQ L M).length ∧ H' = rowE v 52 3 (gcells (betQ L M)) := by
  have hl1 := hL.len
  have hl2 := hM.len
  have hg1 := fun k => rget_fn A c L T hA hT (by omega) k
  have hg2 := fun k => rget_fn B d M U hB hU (by omega) k
  refine Fn.enter (N := 126) Tryz.func16 rfl (by kernel_rfl) rfl (fun w0 => ?_)

  refine awp_seq_region (fun Z hZ => ?_)
  refine sx_assign rfl rfl ?_
  refine sx_nil (hZ _ _ ?_)
  refine awp_forget [(0, _), (1, _)] (Kn.cons rfl (Kn.cons rfl (Kn.nil))) ?_
  refine awp_seq_region (fun Z hZ => ?_)
  refine sx_assign rfl rfl ?_
  refine sx_nil (hZ _ _ ?_)
  refine awp_forget [(0, _), (1, _), (5, _)] (Kn.cons rfl (Kn.cons rfl (Kn.cons rfl (Kn.nil)))) ?_
  refine awp_cut (ι := Option Addr × Nat) (fun s => [(0, .slice A L.length c), (1, .slice B M.length d), (5, .slice s.1 (allQ (L ++ M)).length s.2)]) (fun s => (T ++ U) ++ roE s.1 (icells (allQ (L ++ M)))) (fun s => SlIn s.1 (allQ (L ++ M)).length s.2) ?_ ?_
  · refine awp_seq_region (fun Z hZ => ?_)
    refine sx_assign rfl rfl ?_
    refine sx_nil (hZ _ _ ?_)
    refine awp_forget [(0, _), (1, _), (5, _), (6, _)] (Kn.cons rfl (Kn.cons rfl (Kn.cons rfl (Kn.cons rfl (Kn.nil))))) ?_
    refine awp_block ?_
    refine awp_loop (ι := Nat × Option Addr × Nat) (fun s => [(0, .slice A L.length c), (1, .slice B M.length d), (5, .slice s.2.1 (allQ ((L ++ M).take s.1)).length s.2.2), (6, iq (s.1 : Nat))]) (fun s => (T ++ U) ++ roE s.2.1 (icells (allQ ((L ++ M).take s.1))))
      (fun s => s.1 ≤ (L ++ M).length ∧ SlIn s.2.1 (allQ ((L ++ M).take s.1)).length s.2.2) (fun s => (L ++ M).length - s.1) (0, none, 0) ⟨by simp, ⟨.inl ⟨rfl, rfl⟩, Nat.le_refl _, fun _ => rfl⟩⟩ (Kn.cons rfl (Kn.cons rfl (Kn.cons rfl (Kn.cons rfl Kn.nil)))) (by simp [roE]; exact HLe.refl _) ?_
    rintro ⟨i, A1, c1⟩ ⟨hi, hA1⟩
    simp only at hi hA1
    have hlm : (L ++ M).length = L.length + M.length := List.length_append
    refine awp_seq ?_
    refine awp_seq_region (fun Z hZ => ?_)
    refine sx_move rfl rfl ?_
    refine sx_move rfl rfl ?_
    refine sx_len Tryz.underlying48 rfl rfl ?_
    refine sx_move rfl rfl ?_
    refine sx_len Tryz.underlying48 rfl rfl ?_
    refine sx_add rfl rfl ((L.length + M.length : Nat) : Int) (by rw [IntWalk.i64_in _ (by omega)]; omega) rfl ?_
    refine sx_lss rfl rfl rfl ?_
    refine sx_nil (hZ _ _ ?_)
    refine awp_forget [(0, _), (1, _), (5, _), (6, _), (22, _)] (Kn.cons rfl (Kn.cons rfl (Kn.cons rfl (Kn.cons rfl (Kn.cons rfl (Kn.nil)))))) ?_
    refine awp_cond rfl (fun h => ?_) (fun h => ?_)
    · have hlt : i < (L ++ M).length := by simp at h; omega
      have hx := itAt_at hlt
      obtain ⟨x, hxe⟩ : ∃ x, itAt (L ++ M) i = x := ⟨_, rfl⟩
      rw [hxe] at hx
      have htk : (L ++ M).take (i + 1) = (L ++ M).take i ++ [x] := by rw [List.take_add_one, hx]; rfl
      have hins : allQ ((L ++ M).take (i + 1)) = insQ (allQ ((L ++ M).take i)) x := by rw [htk, allQ_snoc]
      obtain ⟨hrD, _, hlD⟩ := allQ_ok ((L ++ M).take i)
      rw [List.length_take] at hlD
      obtain ⟨D, hD⟩ : ∃ D, allQ ((L ++ M).take i) = D := ⟨_, rfl⟩
      rw [hD] at hA1 hins hrD hlD ⊢
      refine awp_skip ?_
      with_reducible refine nx_normal ?_
      refine awp_seq (awp_block ?_)
      refine awp_seq_region (fun Z hZ => ?_)
      refine sx_build tyZ71 tyP71 rfl rfl (by first | (simp only [List.take_succ_cons, List.take_zero, List.drop_succ_cons, List.drop_zero, List.cons_append, List.nil_append, List.append_nil, List.length_cons, List.length_nil, Nat.reduceAdd, Nat.zero_add, Nat.add_zero, Value.cells, wrV, zrep_one, List.replicate_succ, List.replicate_zero, Nat.reduceMul, Nat.zero_mul]; first | done | rfl) | rfl) rfl ?_
      refine sx_alloc tyZ71 rfl (fun g1 => ?_)
      first | refine sx_store 0 rfl rfl rfl tyS71 (by first | (simp only [Value.cells]; first | done | rfl) | rfl) rfl rfl (by first | (simp only [List.length_cons, List.length_nil, Nat.reduceAdd, Nat.zero_add, Nat.add_zero]; first | done | rfl) | rfl) (by first | (simp only [List.take_succ_cons, List.take_zero, List.drop_succ_cons, List.drop_zero, List.cons_append, List.nil_append, List.append_nil, List.length_cons, List.length_nil, Nat.reduceAdd, Nat.zero_add, Nat.add_zero, Value.cells, wrV]; first | done | rfl) | rfl) (by first | (simp only [List.set_cons_succ, List.set_cons_zero]; first | done | rfl) | rfl) ?_
      refine sx_nil (hZ _ _ ?_)
      refine awp_forget [(0, _), (1, _), (5, _), (6, _), (7, _)] (Kn.cons rfl (Kn.cons rfl (Kn.cons rfl (Kn.cons rfl (Kn.cons rfl (Kn.nil)))))) ?_
      refine awp_cut (ι := Unit) (fun _ => [(0, .slice A L.length c), (1, .slice B M.length d), (5, .slice A1 D.length c1), (6, iq (i : Nat)), (7, ptr g1 0)]) (fun _ => .own g1 71 x.cells :: ((T ++ U) ++ roE A1 (icells D))) (fun _ => True) ?_ ?_
      · skip
        refine awp_seq_region (fun Z hZ => ?_)
        refine sx_move rfl rfl ?_
        refine sx_move rfl rfl ?_
        refine sx_len Tryz.underlying48 rfl rfl ?_
        refine sx_lss rfl rfl rfl ?_
        refine sx_nil (hZ _ _ ?_)
        refine awp_forget [(0, _), (1, _), (5, _), (6, _), (7, _), (29, _)] (Kn.cons rfl (Kn.cons rfl (Kn.cons rfl (Kn.cons rfl (Kn.cons rfl (Kn.cons rfl (Kn.nil))))))) ?_
        refine awp_cond rfl (fun h1 => ?_) (fun h1 => ?_)
        · have hlt1 : i < L.length := by simpa using h1
          have hx1 : L[i]? = some x := by rw [List.getElem?_append_left hlt1] at hx; exact hx
          obtain ⟨g, o, rfl⟩ := hA (by omega)
          obtain rfl := hT (by omega)

          refine awp_region (fun Z hZ => ?_)
          refine sx_move rfl rfl ?_
          refine sx_move rfl rfl ?_
          refine sx_indexAddr (o + i * 2) Tryz.underlying48 tyS71 rfl rfl (by first | omega | (simp; omega)) (by simp) rfl ?_
          refine sx_loadRo 1 rfl rfl (i * 2) rfl tyA71 tyS71 (icells_all hx1) rfl ?_
          refine sx_store 0 rfl rfl rfl tyS71 (by first | (simp only [Value.cells]; first | done | rfl) | rfl) rfl rfl (by first | (simp only [List.length_cons, List.length_nil, Nat.reduceAdd, Nat.zero_add, Nat.add_zero]; first | done | rfl) | rfl) (by first | (simp only [List.take_succ_cons, List.take_zero, List.drop_succ_cons, List.drop_zero, List.cons_append, List.nil_append, List.append_nil, List.length_cons, List.length_nil, Nat.reduceAdd, Nat.zero_add, Nat.add_zero, Value.cells, wrV]; first | done | rfl) | rfl) (by first | (simp only [List.set_cons_succ, List.set_cons_zero]; first | done | rfl) | rfl) ?_
          refine sx_nil (hZ _ _ ?_)
          refine nx_forget [(0, _), (1, _), (5, _), (6, _), (7, _)] (Kn.cons rfl (Kn.cons rfl (Kn.cons rfl (Kn.cons rfl (Kn.cons rfl (Kn.nil)))))) ?_
          exact nx_cut () trivial (Kn.cons rfl (Kn.cons rfl (Kn.cons rfl (Kn.cons rfl (Kn.cons rfl Kn.nil))))) (HLe.refl _)
        · have hge : L.length ≤ i := by simp at h1; omega
          have hx1 : M[i - L.length]? = some x := by rw [List.getElem?_append_right hge] at hx; exact hx
          obtain ⟨j, hj⟩ : ∃ j, i - L.length = j := ⟨_, rfl⟩
          rw [hj] at hx1
          have hjm := (List.getElem?_eq_some_iff.1 hx1).1
          obtain ⟨g, o, rfl⟩ := hB (by omega)
          obtain rfl := hU (by omega)
          refine awp_heap (.own g1 71 [uq 0, .string (str [])] :: .ro g o (icells M) :: (T ++ roE A1 (icells D))) (fun _ _ _ hw => hw.perm (List.Perm.cons _ (by rw [List.append_assoc]; exact List.perm_middle))) ?_

          refine awp_region (fun Z hZ => ?_)
          refine sx_move rfl rfl ?_
          refine sx_move rfl rfl ?_
          refine sx_move rfl rfl ?_
          refine sx_len Tryz.underlying48 rfl rfl ?_
          refine sx_sub rfl rfl ((j : Nat) : Int) (by rw [IntWalk.i64_in _ (by omega)]; omega) rfl ?_
          refine sx_indexAddr (o + j * 2) Tryz.underlying48 tyS71 rfl rfl (by first | omega | (simp; omega)) (by simp) rfl ?_
          refine sx_loadRo 1 rfl rfl (j * 2) rfl tyA71 tyS71 (icells_all hx1) rfl ?_
          refine sx_store 0 rfl rfl rfl tyS71 (by first | (simp only [Value.cells]; first | done | rfl) | rfl) rfl rfl (by first | (simp only [List.length_cons, List.length_nil, Nat.reduceAdd, Nat.zero_add, Nat.add_zero]; first | done | rfl) | rfl) (by first | (simp only [List.take_succ_cons, List.take_zero, List.drop_succ_cons, List.drop_zero, List.cons_append, List.nil_append, List.append_nil, List.length_cons, List.length_nil, Nat.reduceAdd, Nat.zero_add, Nat.add_zero, Value.cells, wrV]; first | done | rfl) | rfl) (by first | (simp only [List.set_cons_succ, List.set_cons_zero]; first | done | rfl) | rfl) ?_
          refine sx_nil (hZ _ _ ?_)
          refine nx_forget [(0, _), (1, _), (5, _), (6, _), (7, _)] (Kn.cons rfl (Kn.cons rfl (Kn.cons rfl (Kn.cons rfl (Kn.cons rfl (Kn.nil)))))) ?_
          exact nx_cut () trivial (Kn.cons rfl (Kn.cons rfl (Kn.cons rfl (Kn.cons rfl (Kn.cons rfl Kn.nil))))) (fun _ _ _ hw => hw.perm (List.Perm.cons _ (by
            show (Ent.ro g o (icells M) :: (T ++ roE A1 (icells D))).Perm ((T ++ [Ent.ro g o (icells M)]) ++ roE A1 (icells D))
            rw [List.append_assoc]; exact List.perm_middle.symm)))
      rintro ⟨⟩ -
      obtain ⟨f1, f2, f3⟩ := cLo_facts x.id D
      have hdlen : D.length ≤ 5000 := by omega

      refine awp_seq_region (fun Z hZ => ?_)
      refine sx_assign rfl rfl ?_
      refine sx_nil (hZ _ _ ?_)
      refine awp_forget [(0, _), (1, _), (5, _), (6, _), (7, _), (8, _)] (Kn.cons rfl (Kn.cons rfl (Kn.cons rfl (Kn.cons rfl (Kn.cons rfl (Kn.cons rfl (Kn.nil))))))) ?_
      refine awp_cut (ι := Unit) (fun _ => [(0, .slice A L.length c), (1, .slice B M.length d), (5, .slice A1 D.length c1), (6, iq (i : Nat)), (7, ptr g1 0), (8, iq (cLo x.id D : Nat))]) (fun _ => .own g1 71 x.cells :: ((T ++ U) ++ roE A1 (icells D))) (fun _ => True) ?_ ?_
      · refine awp_block ?_
        refine awp_loop (ι := Nat) (fun q => [(0, .slice A L.length c), (1, .slice B M.length d), (5, .slice A1 D.length c1), (6, iq (i : Nat)), (7, ptr g1 0), (8, iq (q : Nat))]) (fun _ => .own g1 71 x.cells :: ((T ++ U) ++ roE A1 (icells D)))
          (fun q => q ≤ D.length ∧ ∀ j, j < q → (itAt D j).id < x.id) (fun q => D.length - q) 0 ⟨by simp, fun j hj => by omega⟩ (Kn.cons rfl (Kn.cons rfl (Kn.cons rfl (Kn.cons rfl (Kn.cons rfl (Kn.cons rfl Kn.nil)))))) (HLe.refl _) ?_
        rintro q ⟨hq, hj⟩
        rcases Nat.lt_or_ge q D.length with hlt2 | hge
        · have hy := itAt_at hlt2
          obtain ⟨g, o, rfl⟩ := hA1.arg (by omega)
          refine awp_heap (.own g1 71 x.cells :: .ro g o (icells D) :: (T ++ U)) (fun _ _ _ hw => hw.perm (List.Perm.cons _ (List.perm_append_comm (l₁ := T ++ U) (l₂ := [_])))) ?_

          refine awp_seq ?_
          refine awq_seq_meet [(0, .slice A L.length c), (1, .slice B M.length d), (5, .slice (some ⟨g, o, none⟩) D.length c1), (6, iq (i : Nat)), (7, ptr g1 0), (8, iq (q : Nat)), (54, .bool (decide ((itAt D q).id < x.id)))] (.own g1 71 x.cells :: .ro g o (icells D) :: (T ++ U)) mixed (by kernel_rfl) (fun Z hZ => ?_) ?_
          · refine sq_move rfl rfl ?_
            refine sq_move rfl rfl ?_
            refine sq_len Tryz.underlying48 rfl rfl ?_
            refine sq_lss rfl rfl rfl ?_
            refine sq_move rfl rfl ?_
            refine sq_force 45 rfl true (by simpa using hlt2) ?_
            refine sq_on rfl rfl rfl ?_
            refine sq_move rfl rfl ?_
            refine sq_on rfl rfl rfl ?_
            refine sq_move rfl rfl ?_
            refine sq_on rfl rfl rfl ?_
            refine sq_indexAddr (o + q * 2) Tryz.underlying48 tyS71 rfl rfl (by first | omega | (simp; omega)) (by simp) rfl ?_
            refine sq_on rfl rfl rfl ?_
            refine sq_fieldAddr rfl tyF71_0 (by first | (simp only [Nat.reduceAdd, Nat.add_zero, Nat.zero_add]; first | done | rfl) | rfl) rfl ?_
            refine sq_on rfl rfl rfl ?_
            refine sq_loadRo 1 rfl rfl (q * 2) rfl tyA38 tyS38 (icells_id hy) rfl ?_
            refine sq_on rfl rfl rfl ?_
            refine sq_fieldAddr rfl tyF71_0 (by first | (simp only [Nat.reduceAdd, Nat.add_zero, Nat.zero_add]; first | done | rfl) | rfl) rfl ?_
            refine sq_on rfl rfl rfl ?_
            refine sq_load 0 rfl rfl tyA38 tyS38 rfl rfl ?_
            refine sq_on rfl rfl rfl ?_
            refine sq_lss rfl rfl rfl ?_
            refine sq_pick rfl rfl rfl ?_
            refine sq_nil (hZ _ _ ?_ ?_)
            · exact Kn.cons rfl (Kn.cons rfl (Kn.cons rfl (Kn.cons rfl (Kn.cons rfl (Kn.cons rfl (Kn.cons (congrArg some (congrArg Value.bool (by first | rfl | (simp; done) | (rw [Bool.eq_iff_iff]; simp)))) Kn.nil))))))
            · exact HLe.refl _
          refine awp_cond rfl (fun h4 => ?_) (fun h4 => ?_)
          · have h4' : (itAt D q).id < x.id := by simpa using h4
            refine awp_skip ?_
            with_reducible refine nx_normal ?_
            refine awp_block ?_
            refine awp_region (fun Z hZ => ?_)
            refine sx_move rfl rfl ?_
            refine sx_add rfl rfl ((q + 1 : Nat) : Int) (by rw [IntWalk.i64_in _ (by omega)]; omega) rfl ?_
            refine sx_assign rfl rfl ?_
            refine sx_nil (hZ _ _ ?_)
            refine nx_forget [(0, _), (1, _), (5, _), (6, _), (7, _), (8, _)] (Kn.cons rfl (Kn.cons rfl (Kn.cons rfl (Kn.cons rfl (Kn.cons rfl (Kn.cons rfl (Kn.nil))))))) ?_
            repeat (with_reducible refine nx_block_normal ?_)
            refine nx_round (q + 1) ⟨by omega, fun j hj2 => ?_⟩ (by omega) (Kn.cons rfl (Kn.cons rfl (Kn.cons rfl (Kn.cons rfl (Kn.cons rfl (Kn.cons rfl Kn.nil)))))) (fun _ _ _ hw => hw.perm (List.Perm.cons _ (List.perm_append_comm (l₁ := [_]) (l₂ := T ++ U))))
            rcases Nat.lt_or_ge j q with h5 | h5
            · exact hj j h5
            · obtain rfl : j = q := by omega
              exact h4'
          · have h4' : ¬ (itAt D q).id < x.id := by simpa using h4
            have he := cLo_eq x.id D q hq hj (fun _ => by omega)
            refine awp_exit ?_
            repeat (with_reducible refine nx_then_exit ?_)
            with_reducible refine nx_block_exit ?_
            exact nx_cut () trivial (Kn.cons rfl (Kn.cons rfl (Kn.cons rfl (Kn.cons rfl (Kn.cons rfl (Kn.cons (by rw [he]; rfl) Kn.nil)))))) (fun _ _ _ hw => hw.perm (List.Perm.cons _ (List.perm_append_comm (l₁ := [_]) (l₂ := T ++ U))))
        · have he := cLo_eq x.id D q hq hj (fun h => by omega)

          refine awp_seq ?_
          refine awq_seq_meet [(0, .slice A L.length c), (1, .slice B M.length d), (5, .slice A1 D.length c1), (6, iq (i : Nat)), (7, ptr g1 0), (8, iq (q : Nat)), (54, .bool false)] (.own g1 71 x.cells :: ((T ++ U) ++ roE A1 (icells D))) mixed (by kernel_rfl) (fun Z hZ => ?_) ?_
          · refine sq_move rfl rfl ?_
            refine sq_move rfl rfl ?_
            refine sq_len Tryz.underlying48 rfl rfl ?_
            refine sq_lss rfl rfl rfl ?_
            refine sq_move rfl rfl ?_
            refine sq_force 45 rfl false (by simpa using hge) ?_
            refine sq_off rfl rfl rfl rfl rfl ?_
            refine sq_off rfl rfl rfl rfl rfl ?_
            refine sq_off rfl rfl rfl rfl rfl ?_
            refine sq_off rfl rfl rfl rfl rfl ?_
            refine sq_off rfl rfl rfl rfl rfl ?_
            refine sq_off rfl rfl rfl rfl rfl ?_
            refine sq_off rfl rfl rfl rfl rfl ?_
            refine sq_off rfl rfl rfl rfl rfl ?_
            refine sq_pick rfl rfl rfl ?_
            refine sq_nil (hZ _ _ ?_ ?_)
            · exact Kn.cons rfl (Kn.cons rfl (Kn.cons rfl (Kn.cons rfl (Kn.cons rfl (Kn.cons rfl (Kn.cons rfl Kn.nil))))))
            · exact HLe.refl _
          refine awp_cond rfl (fun h4 => ?_) (fun h4 => ?_)
          · cases h4
          · refine awp_exit ?_
            repeat (with_reducible refine nx_then_exit ?_)
            with_reducible refine nx_block_exit ?_
            exact nx_cut () trivial (Kn.cons rfl (Kn.cons rfl (Kn.cons rfl (Kn.cons rfl (Kn.cons rfl (Kn.cons (by rw [he]; rfl) Kn.nil)))))) (HLe.refl _)
      rintro ⟨⟩ -
      obtain ⟨p, hp⟩ : ∃ p, cLo x.id D = p := ⟨_, rfl⟩
      rw [hp] at f1 f2 f3 ⊢
      have hcap := hA1.cap
      have hrd : ∀ w0 Wr w, Sat w0 Wr (roE A1 (icells D)) w → Rd w 2 A1 D.length (icells D) := fun w0 Wr w hw => rd_arg hA1.arg (fun _ => rfl) (icells_len D) hA1.nil (HLe.refl _) hw
      refine awp_heap (.own g1 71 x.cells :: (roE A1 (icells D) ++ (T ++ U))) (fun _ _ _ hw => hw.perm (List.Perm.cons _ List.perm_append_comm)) ?_

      refine awp_seq ?_
      refine awq_seq_meet [(0, .slice A L.length c), (1, .slice B M.length d), (5, .slice A1 D.length c1), (6, iq (i : Nat)), (7, ptr g1 0), (8, iq (p : Nat)), (70, .bool (cHas x.id D))] (.own g1 71 x.cells :: (roE A1 (icells D) ++ (T ++ U))) mixed (by kernel_rfl) (fun Z hZ => ?_) ?_
      · refine sq_move rfl rfl ?_
        refine sq_move rfl rfl ?_
        refine sq_len Tryz.underlying48 rfl rfl ?_
        refine sq_lss rfl rfl rfl ?_
        refine sq_move rfl rfl ?_
        refine sq_split 61 rfl (fun hb4 => ?_) (fun hb4 => ?_)
        · refine sq_on rfl rfl rfl ?_
          refine sq_move rfl rfl ?_
          refine sq_on rfl rfl rfl ?_
          refine sq_move rfl rfl ?_
          refine sq_on rfl rfl rfl ?_
          obtain ⟨g, o, rfl⟩ := hA1.arg (by simp at hb4; omega)
          refine sq_indexAddr (o + p * 2) Tryz.underlying48 tyS71 rfl rfl (by simp at hb4; omega) (by simp) rfl ?_
          refine sq_on rfl rfl rfl ?_
          refine sq_fieldAddr rfl tyF71_0 (by first | (simp only [Nat.reduceAdd, Nat.add_zero, Nat.zero_add]; first | done | rfl) | rfl) rfl ?_
          refine sq_on rfl rfl rfl ?_
          refine sq_loadRo 1 rfl rfl (p * 2) rfl tyA38 tyS38 (icells_id (itAt_at (by simp at hb4; omega))) rfl ?_
          refine sq_on rfl rfl rfl ?_
          refine sq_fieldAddr rfl tyF71_0 (by first | (simp only [Nat.reduceAdd, Nat.add_zero, Nat.zero_add]; first | done | rfl) | rfl) rfl ?_
          refine sq_on rfl rfl rfl ?_
          first | refine sq_load 0 rfl rfl tyA38 tyS38 rfl rfl ?_
          refine sq_on rfl rfl rfl ?_
          refine sq_eql rfl rfl rfl ?_
          refine sq_pick rfl rfl rfl ?_
          refine sq_nil (hZ _ _ ?_ ?_)
          · exact Kn.cons rfl (Kn.cons rfl (Kn.cons rfl (Kn.cons rfl (Kn.cons rfl (Kn.cons rfl (Kn.cons (congrArg some (congrArg Value.bool (by unfold cHas; rw [hp, Bool.eq_iff_iff]; simp at hb4; first | (simp [hb4]; done) | (simp [hb4]; omega) | (simp; omega)))) Kn.nil))))))
          · exact HLe.refl _
        · refine sq_off rfl rfl rfl rfl rfl ?_
          refine sq_off rfl rfl rfl rfl rfl ?_
          refine sq_off rfl rfl rfl rfl rfl ?_
          refine sq_off rfl rfl rfl rfl rfl ?_
          refine sq_off rfl rfl rfl rfl rfl ?_
          refine sq_off rfl rfl rfl rfl rfl ?_
          refine sq_off rfl rfl rfl rfl rfl ?_
          refine sq_off rfl rfl rfl rfl rfl ?_
          refine sq_pick rfl rfl rfl ?_
          refine sq_nil (hZ _ _ ?_ ?_)
          · exact Kn.cons rfl (Kn.cons rfl (Kn.cons rfl (Kn.cons rfl (Kn.cons rfl (Kn.cons rfl (Kn.cons (congrArg some (congrArg Value.bool (by unfold cHas; rw [hp, Bool.eq_iff_iff]; simp at hb4; first | (simp [hb4]; done) | (simp [hb4]; omega) | (simp; omega)))) Kn.nil))))))
          · exact HLe.refl _
      refine awp_cond rfl (fun h5 => ?_) (fun h5 => ?_)
      · have hD2 : allQ ((L ++ M).take (i + 1)) = D := by rw [hins]; unfold insQ; rw [if_pos h5]
        refine awp_exit ?_
        repeat (with_reducible refine nx_then_exit ?_)
        with_reducible refine nx_block_exit ?_
        with_reducible refine nx_normal ?_

        refine awp_region (fun Z hZ => ?_)
        refine sx_move rfl rfl ?_
        refine sx_add rfl rfl ((i + 1 : Nat) : Int) (by rw [IntWalk.i64_in _ (by omega)]; omega) rfl ?_
        refine sx_assign rfl rfl ?_
        refine sx_nil (hZ _ _ ?_)
        refine nx_forget [(0, _), (1, _), (5, _), (6, _)] (Kn.cons rfl (Kn.cons rfl (Kn.cons rfl (Kn.cons rfl (Kn.nil))))) ?_
        refine nx_round (i + 1, A1, c1) ⟨hlt, by show SlIn A1 (allQ ((L ++ M).take (i + 1))).length c1; rw [hD2]; exact hA1⟩ (by simp; omega) (Kn.cons rfl (Kn.cons rfl (Kn.cons (congrArg some (congrArg (fun n => Value.slice A1 n c1) (congrArg List.length hD2.symm))) (Kn.cons rfl Kn.nil)))) ?_
        show HLe ((T ++ U) ++ roE A1 (icells (allQ ((L ++ M).take (i + 1))))) _
        rw [hD2]
        exact fun _ _ _ hw => (hw.sub (List.sublist_cons_self _ _)).perm List.perm_append_comm
      have hE : allQ ((L ++ M).take (i + 1)) = D.take p ++ x :: D.drop p := by
        rw [hins]
        unfold insQ cPut
        rw [h5, hp]
        simp
      have hll : (D.take p ++ x :: D.drop p).length = p + 1 + (D.length - p) := by
        rw [List.length_append, List.length_take, List.length_cons, List.length_drop]
        omega
      have hcells : (icells (D.take p) ++ x.cells) ++ icells ((D.drop p).take (D.length - p)) = icells (D.take p ++ x :: D.drop p) := by
        rw [List.take_of_length_le (show (D.drop p).length ≤ D.length - p by rw [List.length_drop]; exact Nat.le_refl _)]
        simp only [icells, List.flatMap_append, List.flatMap_cons, List.append_assoc]
      refine awp_skip ?_
      with_reducible refine nx_normal ?_
      refine awp_seq_region (fun Z hZ => ?_)
      refine sx_assign rfl rfl ?_
      refine sx_nil (hZ _ _ ?_)
      refine awp_forget [(0, _), (1, _), (5, _), (6, _), (7, _), (8, _), (9, _)] (Kn.cons rfl (Kn.cons rfl (Kn.cons rfl (Kn.cons rfl (Kn.cons rfl (Kn.cons rfl (Kn.cons rfl (Kn.nil)))))))) ?_
      refine awp_seq_region (fun Z hZ => ?_)
      refine sx_move rfl rfl ?_
      refine sx_move rfl rfl ?_
      refine sx_move rfl rfl ?_
      refine sx_part (i := 0) (j := p) Tryz.underlying48 tyS71 hA1 rfl rfl rfl (by omega) (by omega) rfl (fun A2 hA2 ht2 => ?_)
      refine sx_appendE (v := .slice none 0 0) (xs := []) (.own g1 71 x.cells :: (roE A1 (icells D) ++ (T ++ U))) elemItR rfl RowOk.nil rfl rfl (fun w hw => rd_part (hrd _ _ _ (hw.sub (.cons _ (List.sublist_append_left _ _)))) hA1 (Nat.zero_le p) f1 ht2 hA2) (icells_one _) (by show _ ≤ 9223372036854775807; omega) (by omega) (by rw [show rowE (.slice none 0 0) 71 2 [] = [] from rfl, List.append_nil]; exact HLe.refl _) rfl (fun v1 hv1 => ?_)
      rw [List.drop_zero, Nat.sub_zero, List.nil_append]
      rw [Nat.sub_zero, Nat.zero_add] at hv1
      refine sx_assign rfl rfl ?_
      refine sx_nil (hZ _ _ ?_)
      refine awp_forget [(0, _), (1, _), (5, _), (6, _), (7, _), (8, _), (9, _)] (Kn.cons rfl (Kn.cons rfl (Kn.cons rfl (Kn.cons rfl (Kn.cons rfl (Kn.cons rfl (Kn.cons rfl (Kn.nil)))))))) ?_
      refine awp_seq_region (fun Z hZ => ?_)
      refine sx_move rfl rfl ?_
      first | refine sx_loadA 0 rfl rfl tyA71 tyS71 (by first | (simp only [List.length_cons, List.length_nil, Nat.reduceAdd, Nat.zero_add, Nat.add_zero]; first | done | rfl) | rfl) (by first | (simp only [List.take_succ_cons, List.take_zero, List.drop_succ_cons, List.drop_zero, List.cons_append, List.nil_append, List.append_nil, List.length_cons, List.length_nil, Nat.reduceAdd, Nat.zero_add, Nat.add_zero, Value.cells, wrV]; first | done | rfl) | rfl) rfl ?_
      refine sx_buildSlice Tryz.underlying48 tyS71 tyZ71 rfl rfl rfl rfl (by first | (simp only [List.take_succ_cons, List.take_zero, List.drop_succ_cons, List.drop_zero, List.cons_append, List.nil_append, List.append_nil, List.length_cons, List.length_nil, Nat.reduceAdd, Nat.zero_add, Nat.add_zero, Value.cells, wrV, zrep_one, List.replicate_succ, List.replicate_zero, Nat.reduceMul, Nat.zero_mul]; first | done | rfl) | rfl) rfl (fun g2 => ?_)
      refine sx_appendE (_ :: .own g1 71 x.cells :: (roE A1 (icells D) ++ (T ++ U))) elemItR rfl hv1 (by rw [icells_len, List.length_take]; omega) rfl (fun w hw => rd_own (i := 0) (n := 1) (xs := x.cells) rfl rfl hw) rfl (by show _ ≤ 9223372036854775807; omega) (by omega) (HLe.refl _) rfl (fun v2 hv2 => ?_)
      refine sx_assign rfl rfl ?_
      refine sx_nil (hZ _ _ ?_)
      refine awp_forget [(0, _), (1, _), (5, _), (6, _), (8, _), (9, _)] (Kn.cons rfl (Kn.cons rfl (Kn.cons rfl (Kn.cons rfl (Kn.cons rfl (Kn.cons rfl (Kn.nil))))))) ?_
      refine awp_region (fun Z hZ => ?_)
      refine sx_move rfl rfl ?_
      refine sx_move rfl rfl ?_
      refine sx_move rfl rfl ?_
      refine sx_part (i := p) (j := D.length) Tryz.underlying48 tyS71 hA1 rfl rfl rfl (by omega) (by omega) rfl (fun A3 hA3 ht3 => ?_)
      refine sx_appendE (_ :: .own g1 71 x.cells :: (roE A1 (icells D) ++ (T ++ U))) elemItR rfl hv2 (by rw [List.length_append, icells_len, List.length_take]; simp; omega) rfl (fun w hw => rd_part (hrd _ _ _ (hw.sub ((List.Sublist.cons _ (List.Sublist.cons _ (List.sublist_append_left _ _))).trans (List.sublist_append_left (_ :: _ :: (roE A1 (icells D) ++ (T ++ U))) _)))) hA1 f1 (Nat.le_refl _) ht3 hA3) (icells_one _) (by show _ ≤ 9223372036854775807; omega) (by omega) (HLe.refl _) rfl (fun v3 hv3 => ?_)
      rw [hcells]
      replace hv3 : RowOk v3 (D.take p ++ x :: D.drop p).length := by rw [hll]; exact hv3
      obtain ⟨A4, c4, rfl, hA4, hle4⟩ := hv3.ro
      refine sx_pure (fun w hw => row_cap hv3 (fun y hy => List.mem_append_right _ hy) hw) (fun hc4 => ?_)
      refine sx_assign rfl rfl ?_
      refine sx_nil (hZ _ _ ?_)
      refine nx_forget [(0, _), (1, _), (5, _), (6, _)] (Kn.cons rfl (Kn.cons rfl (Kn.cons rfl (Kn.cons rfl (Kn.nil))))) ?_
      repeat (with_reducible refine nx_block_normal ?_)
      with_reducible refine nx_normal ?_

      refine awp_region (fun Z hZ => ?_)
      refine sx_move rfl rfl ?_
      refine sx_add rfl rfl ((i + 1 : Nat) : Int) (by rw [IntWalk.i64_in _ (by omega)]; omega) rfl ?_
      refine sx_assign rfl rfl ?_
      refine sx_nil (hZ _ _ ?_)
      refine nx_forget [(0, _), (1, _), (5, _), (6, _)] (Kn.cons rfl (Kn.cons rfl (Kn.cons rfl (Kn.cons rfl (Kn.nil))))) ?_
      refine nx_round (i + 1, A4, c4) ⟨hlt, by show SlIn A4 (allQ ((L ++ M).take (i + 1))).length c4; rw [hE]; exact ⟨hA4, hc4.1, row_none hv3⟩⟩ (by simp; omega) (Kn.cons rfl (Kn.cons rfl (Kn.cons (congrArg some (congrArg (fun n => Value.slice A4 n c4) (congrArg List.length hE.symm))) (Kn.cons rfl Kn.nil)))) ?_
      show HLe ((T ++ U) ++ roE A4 (icells (allQ ((L ++ M).take (i + 1))))) _
      rw [hE]
      exact (row_endD hle4 (T ++ U) 71 2 (icells (D.take p ++ x :: D.drop p))).trans (HLe.sub (List.Sublist.append_right (.cons _ (.cons _ (List.sublist_append_right _ _))) _))
    · refine awp_exit ?_
      repeat (with_reducible refine nx_then_exit ?_)
      with_reducible refine nx_block_exit ?_
      have hke : i = (L ++ M).length := by simp at h; omega
      subst hke
      exact nx_cut (A1, c1) (by show SlIn A1 (allQ (L ++ M)).length c1; rw [List.take_length] at hA1; exact hA1) (Kn.cons rfl (Kn.cons rfl (Kn.cons (by rw [List.take_length]; rfl) Kn.nil))) (by show HLe ((T ++ U) ++ roE A1 (icells (allQ (L ++ M)))) _; rw [List.take_length]; exact HLe.refl _)
  rintro ⟨A1, c1⟩ hA1
  simp only at hA1
  obtain ⟨_, _, hlD⟩ := allQ_ok (L ++ M)
  rw [List.length_append] at hlD
  have hbet := rbet_eq hL hM
  obtain ⟨D, hD⟩ : ∃ D, allQ (L ++ M) = D := ⟨_, rfl⟩
  rw [hD] at hA1 hlD hbet ⊢

  refine awp_seq_region (fun Z hZ => ?_)
  refine sx_assign rfl rfl ?_
  refine sx_nil (hZ _ _ ?_)
  refine awp_forget [(0, _), (1, _), (5, _), (10, _)] (Kn.cons rfl (Kn.cons rfl (Kn.cons rfl (Kn.cons rfl (Kn.nil))))) ?_
  refine awp_seq ?_
  refine awp_seq_region (fun Z hZ => ?_)
  refine sx_assign rfl rfl ?_
  refine sx_nil (hZ _ _ ?_)
  refine awp_forget [(0, _), (1, _), (5, _), (10, _), (11, _)] (Kn.cons rfl (Kn.cons rfl (Kn.cons rfl (Kn.cons rfl (Kn.cons rfl (Kn.nil)))))) ?_
  refine awp_block ?_
  refine awp_loop (ι := Nat × Value) (fun s => [(0, .slice A L.length c), (1, .slice B M.length d), (5, .slice A1 D.length c1), (10, s.2), (11, iq (s.1 : Nat))]) (fun s => ((T ++ U) ++ roE A1 (icells D)) ++ rowE s.2 52 3 (gcells (rbetQ L M (D.take s.1))))
    (fun s => s.1 ≤ D.length ∧ RowOk s.2 (rbetQ L M (D.take s.1)).length) (fun s => D.length - s.1) (0, .slice none 0 0) ⟨by simp, by simp [rbetQ]; exact RowOk.nil⟩ (Kn.cons rfl (Kn.cons rfl (Kn.cons rfl (Kn.cons rfl (Kn.cons rfl Kn.nil))))) (by simp [rowE]; exact HLe.refl _) ?_
  rintro ⟨i, v⟩ ⟨hi, hv⟩
  simp only at hi hv
  refine awp_seq ?_
  refine awp_seq_region (fun Z hZ => ?_)
  refine sx_move rfl rfl ?_
  refine sx_move rfl rfl ?_
  refine sx_len Tryz.underlying48 rfl rfl ?_
  refine sx_lss rfl rfl rfl ?_
  refine sx_nil (hZ _ _ ?_)
  refine awp_forget [(0, _), (1, _), (5, _), (10, _), (11, _), (88, _)] (Kn.cons rfl (Kn.cons rfl (Kn.cons rfl (Kn.cons rfl (Kn.cons rfl (Kn.cons rfl (Kn.nil))))))) ?_
  refine awp_cond rfl (fun h => ?_) (fun h => ?_)
  · have hlt : i < D.length := by simpa using h
    have hx := itAt_at hlt
    obtain ⟨x, hxe⟩ : ∃ x, itAt D i = x := ⟨_, rfl⟩
    rw [hxe] at hx
    have hsn : rbetQ L M (D.take (i + 1)) = rbetQ L M (D.take i) ++ (if difQ (chgOf L M x.id) then [chgOf L M x.id] else []) := by
      rw [← rbet_snoc, List.take_add_one, hx]
      rfl
    have hfl : (rbetQ L M (D.take i)).length ≤ 5000 := by
      unfold rbetQ
      refine Nat.le_trans (List.length_filter_le _ _) ?_
      rw [List.length_map, List.length_take]
      omega
    obtain ⟨F, hF⟩ : ∃ F, rbetQ L M (D.take i) = F := ⟨_, rfl⟩
    rw [hF] at hv hsn hfl ⊢
    obtain ⟨s1, hs1⟩ : ∃ s1, cGet x.id L = s1 := ⟨_, rfl⟩
    obtain ⟨s2, hs2⟩ : ∃ s2, cGet x.id M = s2 := ⟨_, rfl⟩
    have hgx : chgOf L M x.id = ⟨x.id, s1, s2⟩ := by unfold chgOf; rw [hs1, hs2]
    rw [hgx] at hsn
    have hc1 := hg1 x.id
    have hc2 := hg2 x.id
    rw [← (get_eq hL.rise x.id).1, ← (get_eq hL.rise x.id).2, hs1] at hc1
    rw [← (get_eq hM.rise x.id).1, ← (get_eq hM.rise x.id).2, hs2] at hc2
    obtain ⟨g, o, rfl⟩ := hA1.arg (by omega)
    refine awp_heap (.ro g o (icells D) :: ((T ++ U) ++ rowE v 52 3 (gcells F))) (fun _ _ _ hw => hw.perm (by
      show (((T ++ U) ++ [Ent.ro g o (icells D)]) ++ rowE v _ _ _).Perm _
      rw [List.append_assoc]; exact List.perm_middle)) ?_
    refine awp_skip ?_
    with_reducible refine nx_normal ?_
    refine awp_seq (awp_block ?_)

    refine awp_seq_region (fun Z hZ => ?_)
    refine sx_move rfl rfl ?_
    refine sx_move rfl rfl ?_
    refine sx_move rfl rfl ?_
    refine sx_indexAddr (o + i * 2) Tryz.underlying48 tyS71 rfl rfl (by first | omega | (simp; omega)) (by simp) rfl ?_
    refine sx_fieldAddr rfl tyF71_0 (by first | (simp only [Nat.reduceAdd, Nat.add_zero, Nat.zero_add]; first | done | rfl) | rfl) rfl ?_
    refine sx_loadRo 0 rfl rfl (i * 2) rfl tyA38 tyS38 (icells_id hx) rfl ?_
    refine sx_callPT T hc1 rfl (.cons _ ((List.sublist_append_left _ _).trans (List.sublist_append_left _ _))) hro rfl ?_
    refine sx_move rfl rfl ?_
    refine sx_extract rfl rfl rfl ?_
    refine sx_extract rfl rfl rfl ?_
    refine sx_assign rfl rfl ?_
    refine sx_assign rfl rfl ?_
    refine sx_nil (hZ _ _ ?_)
    refine awp_forget [(0, _), (1, _), (5, _), (10, _), (11, _), (12, _)] (Kn.cons rfl (Kn.cons rfl (Kn.cons rfl (Kn.cons rfl (Kn.cons rfl (Kn.cons rfl (Kn.nil))))))) ?_
    refine awp_seq_region (fun Z hZ => ?_)
    refine sx_move rfl rfl ?_
    refine sx_move rfl rfl ?_
    refine sx_move rfl rfl ?_
    refine sx_indexAddr (o + i * 2) Tryz.underlying48 tyS71 rfl rfl (by first | omega | (simp; omega)) (by simp) rfl ?_
    refine sx_fieldAddr rfl tyF71_0 (by first | (simp only [Nat.reduceAdd, Nat.add_zero, Nat.zero_add]; first | done | rfl) | rfl) rfl ?_
    refine sx_loadRo 0 rfl rfl (i * 2) rfl tyA38 tyS38 (icells_id hx) rfl ?_
    refine sx_callPT U hc2 rfl (.cons _ ((List.sublist_append_right _ _).trans (List.sublist_append_left _ _))) hroU rfl ?_
    refine sx_move rfl rfl ?_
    refine sx_extract rfl rfl rfl ?_
    refine sx_extract rfl rfl rfl ?_
    refine sx_assign rfl rfl ?_
    refine sx_assign rfl rfl ?_
    refine sx_nil (hZ _ _ ?_)
    refine awp_forget [(0, _), (1, _), (5, _), (10, _), (11, _), (12, _), (14, _)] (Kn.cons rfl (Kn.cons rfl (Kn.cons rfl (Kn.cons rfl (Kn.cons rfl (Kn.cons rfl (Kn.cons rfl (Kn.nil)))))))) ?_
    refine awp_seq_region (fun Z hZ => ?_)
    refine sx_move rfl rfl ?_
    refine sx_move rfl rfl ?_
    refine sx_sneq rfl rfl rfl ?_
    refine sx_nil (hZ _ _ ?_)
    refine awp_forget [(0, _), (1, _), (5, _), (10, _), (11, _), (12, _), (14, _), (113, _)] (Kn.cons rfl (Kn.cons rfl (Kn.cons rfl (Kn.cons rfl (Kn.cons rfl (Kn.cons rfl (Kn.cons rfl (Kn.cons rfl (Kn.nil))))))))) ?_
    refine awp_cond rfl (fun h1 => ?_) (fun h1 => ?_)
    · have hd : difQ ⟨x.id, s1, s2⟩ = true := by unfold difQ; simpa using h1
      rw [hd, if_pos rfl] at hsn
      refine awp_region (fun Z hZ => ?_)
      refine sx_move rfl rfl ?_
      refine sx_move rfl rfl ?_
      refine sx_move rfl rfl ?_
      refine sx_indexAddr (o + i * 2) Tryz.underlying48 tyS71 rfl rfl (by first | omega | (simp; omega)) (by simp) rfl ?_
      refine sx_fieldAddr rfl tyF71_0 (by first | (simp only [Nat.reduceAdd, Nat.add_zero, Nat.zero_add]; first | done | rfl) | rfl) rfl ?_
      refine sx_loadRo 0 rfl rfl (i * 2) rfl tyA38 tyS38 (icells_id hx) rfl ?_
      refine sx_move rfl rfl ?_
      refine sx_move rfl rfl ?_
      refine sx_build tyZ52 tyP52 rfl rfl (by first | (simp only [List.take_succ_cons, List.take_zero, List.drop_succ_cons, List.drop_zero, List.cons_append, List.nil_append, List.append_nil, List.length_cons, List.length_nil, Nat.reduceAdd, Nat.zero_add, Nat.add_zero, Value.cells, wrV, zrep_one, List.replicate_succ, List.replicate_zero, Nat.reduceMul, Nat.zero_mul]; first | done | rfl) | rfl) rfl ?_
      refine sx_buildSlice Tryz.underlying27 tyS52 tyZ52 rfl rfl rfl rfl (by first | (simp only [List.take_succ_cons, List.take_zero, List.drop_succ_cons, List.drop_zero, List.cons_append, List.nil_append, List.append_nil, List.length_cons, List.length_nil, Nat.reduceAdd, Nat.zero_add, Nat.add_zero, Value.cells, wrV, zrep_one, List.replicate_succ, List.replicate_zero, Nat.reduceMul, Nat.zero_mul]; first | done | rfl) | rfl) rfl (fun g3 => ?_)
      refine sx_appendE (_ :: _ :: (T ++ U)) elemGR rfl hv (by rw [gcells_len]) rfl (fun w hw => rd_own (i := 0) (xs := (⟨x.id, s1, s2⟩ : Chg).cells) rfl rfl hw) rfl (by show _ ≤ 9223372036854775807; omega) (by omega) (HLe.refl _) rfl (fun v2 hv2 => ?_)
      refine sx_assign rfl rfl ?_
      refine sx_nil (hZ _ _ ?_)
      refine nx_forget [(0, _), (1, _), (5, _), (10, _), (11, _)] (Kn.cons rfl (Kn.cons rfl (Kn.cons rfl (Kn.cons rfl (Kn.cons rfl (Kn.nil)))))) ?_
      repeat (with_reducible refine nx_block_normal ?_)
      with_reducible refine nx_normal ?_
      refine awp_region (fun Z hZ => ?_)
      refine sx_move rfl rfl ?_
      refine sx_add rfl rfl ((i + 1 : Nat) : Int) (by rw [IntWalk.i64_in _ (by omega)]; omega) rfl ?_
      refine sx_assign rfl rfl ?_
      refine sx_nil (hZ _ _ ?_)
      refine nx_forget [(0, _), (1, _), (5, _), (10, _), (11, _)] (Kn.cons rfl (Kn.cons rfl (Kn.cons rfl (Kn.cons rfl (Kn.cons rfl (Kn.nil)))))) ?_
      refine nx_round (i + 1, v2) ⟨hlt, by show RowOk v2 (rbetQ L M (D.take (i + 1))).length; rw [hsn, List.length_append]; exact hv2⟩ (by simp; omega) (Kn.cons rfl (Kn.cons rfl (Kn.cons rfl (Kn.cons rfl (Kn.cons rfl Kn.nil))))) ?_
      show HLe (((T ++ U) ++ [Ent.ro g o (icells D)]) ++ rowE v2 _ _ (gcells (rbetQ L M (D.take (i + 1))))) _
      rw [hsn, show gcells (F ++ [(⟨x.id, s1, s2⟩ : Chg)]) = gcells F ++ (⟨x.id, s1, s2⟩ : Chg).cells by simp [gcells]]
      exact fun _ _ _ hw => (hw.sub (List.sublist_cons_self _ _)).perm (by rw [List.append_assoc]; exact List.perm_middle.symm)
    · have hd : difQ ⟨x.id, s1, s2⟩ = false := by
        cases hdx : difQ ⟨x.id, s1, s2⟩ with
        | false => rfl
        | true => unfold difQ at hdx; simp at hdx h1; exact absurd h1 hdx
      rw [hd, if_neg (by simp), List.append_nil] at hsn
      refine awp_skip ?_
      repeat (with_reducible refine nx_block_normal ?_)
      with_reducible refine nx_normal ?_
      refine awp_region (fun Z hZ => ?_)
      refine sx_move rfl rfl ?_
      refine sx_add rfl rfl ((i + 1 : Nat) : Int) (by rw [IntWalk.i64_in _ (by omega)]; omega) rfl ?_
      refine sx_assign rfl rfl ?_
      refine sx_nil (hZ _ _ ?_)
      refine nx_forget [(0, _), (1, _), (5, _), (10, _), (11, _)] (Kn.cons rfl (Kn.cons rfl (Kn.cons rfl (Kn.cons rfl (Kn.cons rfl (Kn.nil)))))) ?_
      refine nx_round (i + 1, v) ⟨hlt, by show RowOk v (rbetQ L M (D.take (i + 1))).length; rw [hsn]; exact hv⟩ (by simp; omega) (Kn.cons rfl (Kn.cons rfl (Kn.cons rfl (Kn.cons rfl (Kn.cons rfl Kn.nil))))) ?_
      show HLe (((T ++ U) ++ [Ent.ro g o (icells D)]) ++ rowE v _ _ (gcells (rbetQ L M (D.take (i + 1))))) _
      rw [hsn]
      exact fun _ _ _ hw => hw.perm (by rw [List.append_assoc (T ++ U) [_]]; exact List.perm_middle.symm)
  · refine awp_exit ?_
    repeat (with_reducible refine nx_then_exit ?_)
    with_reducible refine nx_block_exit ?_
    with_reducible refine nx_normal ?_
    have hke : i = D.length := by simp at h; omega
    subst hke
    rw [List.take_length, hbet] at hv ⊢
    refine awp_seq_region (fun Z hZ => ?_)
    refine sx_move rfl rfl ?_
    refine sx_assign rfl rfl ?_
    refine sx_nil (hZ _ _ ?_)
    refine awp_forget [(4, _)] (Kn.cons rfl (Kn.nil)) ?_
    refine awp_ret ?_
    exact nx_ret1h _ rfl rfl (HLe.sub (List.sublist_append_right _ _)) ⟨hv, rfl⟩
end Go.Proofs.YtahmhcmfeloclaaGreat

namespace Go.Proofs.YtahmhcmfeloclaaGreat
open Go.RowKit
set_option linter.unusedVariables false
set_option linter.unusedSimpArgs false
set_option linter.unusedSectionVars false
set_option maxRecDepth 100000
section
variable {N : Frm} {w0 w : World} {Wr : List Nat} {ops : Array Oper} {rest : List Oper} {fr : Fr} {H : Heap} {Z : Fr → Heap → Prop} {d ty : Nat} {pos : String} {after : Array Edge} {xs : List Operand} {ts : Array TypeId} {A B : Option Addr} {c c2 : Nat}
/-- A row of one's own, as one that is only read. -/
theorem sx_toRo {l : List Oper} {v : Value} {n : Nat} {t : TypeId} {size : Nat} {ys : List Value} (frf : Value → Fr) (hv : RowOk v n) (h : ∀ A' c', SlIn A' n c' → sx Tryz.prog N w0 Wr ops l (frf (.slice A' n c')) (H ++ roE A' ys) Z) :
    sx Tryz.prog N w0 Wr ops l (frf v) (rowE v t size ys ++ H) Z := by
  obtain ⟨A1, c1, rfl, h1, hle⟩ := hv.ro
  refine sx_pure (fun w hw => row_cap hv (fun x hx => List.mem_append_left _ hx) hw) (fun hc => ?_)
  refine sx_heap (H ++ roE A1 ys) ((HLe.swap _ _).trans (hle [] H t size ys)) (h A1 c1 ⟨h1, hc.1, row_none hv⟩)
theorem sx_betE (L M : List It) (hA : SlIn A L.length c) (hB : SlIn B M.length c2) (h1 : (roE A (icells L)).Sublist H) (h2 : (roE B (icells M)).Sublist H) (hL : L.length ≤ 100000) (hM : M.length ≤ 100000) (hx : evs fr xs = some [chV A L.length c, chV B M.length c2]) (hN : Nat.ble (d + 1) N.n = true)
    (h : ∀ A' c', SlIn A' (betQ L M).length c' → sx Tryz.prog N w0 Wr ops rest ((d, .slice A' (betQ L M).length c') :: fr) (H ++ roE A' (gcells (betQ L M))) Z) : sx Tryz.prog N w0 Wr ops ((⟨some d, .call { callee := .value (.func 10), args := xs.toArray, argTypes := ts }, ty, pos, after, none⟩ : Oper) :: rest) fr H Z :=
  sx_callVU (roE A (icells L) ++ roE B (icells M)) (gbet_fn A c L B c2 M hA hB hL hM) hx (HLe.two h1 h2 (Ro.roE _ _)) ((Ro.roE _ _).append (Ro.roE _ _)) hN (by
    rintro v H' ⟨hv, rfl⟩
    rw [rowE_flt]
    exact sx_toRo (fun v => (d, v) :: fr) hv h)
theorem sx_gturnE (L : List Chg) (hA : SlIn A L.length c) (hS : (roE A (gcells L)).Sublist H) (hL : L.length ≤ 100000) (hx : evs fr xs = some [.slice A L.length c]) (hN : Nat.ble (d + 1) N.n = true)
    (h : ∀ A' c', SlIn A' L.length c' → sx Tryz.prog N w0 Wr ops rest ((d, .slice A' L.length c') :: fr) (H ++ roE A' (gcells (turnQ L))) Z) : sx Tryz.prog N w0 Wr ops ((⟨some d, .call { callee := .value (.func 12), args := xs.toArray, argTypes := ts }, ty, pos, after, none⟩ : Oper) :: rest) fr H Z :=
  sx_callI (roE A (gcells L)) (gturn_fn A c L _ hA.arg (fun _ => rfl) (Ro.roE _ _) hL) hx hS (Ro.roE _ _) hN fun A' c' hA' => sx_heap _ (HLe.swap _ _) (h A' c' hA')
theorem sx_gbackE (L : List Chg) (hA : SlIn A L.length c) (hS : (roE A (gcells L)).Sublist H) (hL : L.length ≤ 100000) (hx : evs fr xs = some [.slice A L.length c]) (hN : Nat.ble (d + 1) N.n = true)
    (h : ∀ A' c', SlIn A' L.length c' → sx Tryz.prog N w0 Wr ops rest ((d, .slice A' L.length c') :: fr) (H ++ roE A' (gcells L)) Z) : sx Tryz.prog N w0 Wr ops ((⟨some d, .call { callee := .value (.func 8), args := xs.toArray, argTypes := ts }, ty, pos, after, none⟩ : Oper) :: rest) fr H Z :=
  sx_callI (roE A (gcells L)) (gback_fn A c L _ hA.arg (fun _ => rfl) (Ro.roE _ _) hL) hx hS (Ro.roE _ _) hN fun A' c' hA' => sx_heap _ (HLe.swap _ _) (h A' c' hA')
theorem sx_rgsame (L M : List Chg) (hA : SlIn A L.length c) (hB : SlIn B M.length c2) (h1 : (roE A (gcells L)).Sublist H) (h2 : (roE B (gcells M)).Sublist H) (hL : L.length ≤ maxLen) (hM : M.length ≤ maxLen) (hx : evs fr xs = some [.slice A L.length c, .slice B M.length c2]) (hN : Nat.ble (d + 1) N.n = true)
    (h : sx Tryz.prog N w0 Wr ops rest ((d, .bool (sameG L M)) :: fr) H Z) : sx Tryz.prog N w0 Wr ops ((⟨some d, .call { callee := .value (.func 7), args := xs.toArray, argTypes := ts }, ty, pos, after, none⟩ : Oper) :: rest) fr H Z :=
  sx_callV (roE A (gcells L) ++ roE B (gcells M)) (rgsame_fn A c L _ hA.arg (fun _ => rfl) hL B c2 M _ hB.arg (fun _ => rfl) hM) hx (HLe.two h1 h2 (Ro.roE _ _)) ((Ro.roE _ _).append (Ro.roE _ _)) hN h
theorem sx_gapplyE (O : List It) (L : List Chg) (hA : SlIn A O.length c) (hok : ChOk O) (U : Heap) (hB : ArgOk B L.length) (hU : 0 < L.length → U = roE B (gcells L)) (hro : Ro U) (h1 : (roE A (icells O)).Sublist H) (h2 : U.Sublist H) (hL : L.length ≤ 100000) (hx : evs fr xs = some [chV A O.length c, .slice B L.length c2]) (hN : Nat.ble (d + 1) N.n = true)
    (h : ∀ A' c', SlIn A' (appO O L).length c' → sx Tryz.prog N w0 Wr ops rest ((d, .tuple #[chV A' (appO O L).length c', iq (appE O L)]) :: fr) (H ++ roE A' (icells (appO O L))) Z) : sx Tryz.prog N w0 Wr ops ((⟨some d, .call { callee := .value (.func 11), args := xs.toArray, argTypes := ts }, ty, pos, after, none⟩ : Oper) :: rest) fr H Z :=
  sx_callVU (roE A (icells O) ++ U) (gapply_fn A c O hA hok B c2 L U hB hU hro hL) hx (HLe.two h1 h2 hro) ((Ro.roE _ _).append hro) hN (by
    rintro v H' ⟨u, rfl, ⟨hu, rfl⟩ | ⟨rfl, hO, rfl⟩⟩
    · rw [rowE_flt]
      exact sx_toRo (fun u => (d, .tuple #[.agg #[u], iq (appE O L)]) :: fr) hu h
    · have := h A c (by rw [hO]; exact hA)
      rw [hO] at this
      exact sx_heap _ (HLe.dup h1 (Ro.roE _ _)) this)
end
abbrev zhd : List Value := [uq 0, uq 0, uq 0, uq 0, uq 0, uq 0, uq 0, uq 0, uq 0, uq 0, uq 0, .bool false, .int .u8 0, .int .u8 0, .int .u8 0, iq 0, iq 0, iq 0, iq 0, iq 0, iq 0, iq 0, iq 0, iq 0]
theorem dec0_fn : Fn Tryz.prog 59 [.string (str [])] [] fun v _ => v = .tuple #[.agg zhd.toArray, iq 3] := by
  refine Fn.enter (N := 105) Tryz.func59 rfl (by kernel_rfl) rfl (fun w0 => ?_)

  refine awp_seq_region (fun Z hZ => ?_)
  refine sx_alloc tyZ86 rfl (fun g1 => ?_)
  refine sx_assign rfl rfl ?_
  refine sx_nil (hZ _ _ ?_)
  refine awp_forget [(0, _), (2, _)] (Kn.cons rfl (Kn.cons rfl (Kn.nil))) ?_
  refine awp_seq (awp_block ?_)

  refine awp_seq_region (fun Z hZ => ?_)
  refine sx_move rfl rfl ?_
  refine sx_lenS Tryz.underlying9 rfl rfl ?_
  refine sx_lss rfl rfl rfl ?_
  refine sx_assign rfl rfl ?_
  refine sx_nil (hZ _ _ ?_)
  refine awp_forget [(0, _), (2, _), (8, _)] (Kn.cons rfl (Kn.cons rfl (Kn.cons rfl (Kn.nil)))) ?_
  refine awp_cond rfl (fun h => ?_) (fun h => ?_)
  · refine awp_seq_region (fun Z hZ => ?_)
    refine sx_build tyZ86 tyP86 rfl rfl (by first | (simp only [List.take_succ_cons, List.take_zero, List.drop_succ_cons, List.drop_zero, List.cons_append, List.nil_append, List.append_nil, List.length_cons, List.length_nil, Nat.reduceAdd, Nat.zero_add, Nat.add_zero, Value.cells, wrV, zrep_one, List.replicate_succ, List.replicate_zero, Nat.reduceMul, Nat.zero_mul]; first | done | rfl) | rfl) rfl ?_
    first | refine sx_store 0 rfl rfl rfl tyS86 (by first | (simp only [Value.cells]; first | done | rfl) | rfl) rfl rfl (by first | (simp only [List.length_cons, List.length_nil, Nat.reduceAdd, Nat.zero_add, Nat.add_zero]; first | done | rfl) | rfl) (by first | (simp only [List.take_succ_cons, List.take_zero, List.drop_succ_cons, List.drop_zero, List.cons_append, List.nil_append, List.append_nil, List.length_cons, List.length_nil, Nat.reduceAdd, Nat.zero_add, Nat.add_zero, Value.cells, wrV]; first | done | rfl) | rfl) (by first | (simp only [List.set_cons_succ, List.set_cons_zero]; first | done | rfl) | rfl) ?_
    refine sx_assign rfl rfl ?_
    refine sx_nil (hZ _ _ ?_)
    refine awp_forget [(2, _), (3, _)] (Kn.cons rfl (Kn.cons rfl (Kn.nil))) ?_
    refine awp_ret ?_
    repeat (with_reducible (first | refine nx_then_ret ?_ | refine nx_block_ret ?_))
    exact nx_ret2 rfl (ResOk.cell 0 rfl rfl tyA86 tyS86 rfl) rfl rfl
  · exfalso
    simp at h
theorem cut0_fn : Fn Tryz.prog 37 [.string (str [])] [] fun v _ => v = .tuple #[.agg zhd.toArray, .agg #[.string (str []), .string (str []), .string (str []), .string (str [])], iq 3] := by
  refine Fn.enter (N := 52) Tryz.func37 rfl (by kernel_rfl) rfl (fun w0 => ?_)

  refine awp_seq_region (fun Z hZ => ?_)
  refine sx_alloc tyZ86 rfl (fun g1 => ?_)
  refine sx_alloc tyZ87 rfl (fun g2 => ?_)
  refine sx_assign rfl rfl ?_
  refine sx_nil (hZ _ _ ?_)
  refine awp_forget [(0, _), (2, _), (3, _)] (Kn.cons rfl (Kn.cons rfl (Kn.cons rfl (Kn.nil)))) ?_

  refine awp_seq_region (fun Z hZ => ?_)
  refine sx_move rfl rfl ?_
  refine sx_callP dec0_fn rfl rfl ?_
  refine sx_move rfl rfl ?_
  refine sx_extract rfl rfl rfl ?_
  refine sx_extract rfl rfl rfl ?_
  refine sx_alloc tyZ86 rfl (fun g3 => ?_)
  refine sx_store 0 rfl rfl rfl tyS86 (by first | (simp only [Value.cells]; first | done | rfl) | rfl) rfl rfl (by first | (simp only [List.length_cons, List.length_nil, Nat.reduceAdd, Nat.zero_add, Nat.add_zero]; first | done | rfl) | rfl) (by first | (simp only [List.take_succ_cons, List.take_zero, List.drop_succ_cons, List.drop_zero, List.cons_append, List.nil_append, List.append_nil, List.length_cons, List.length_nil, Nat.reduceAdd, Nat.zero_add, Nat.add_zero, Value.cells, wrV]; first | done | rfl) | rfl) (by first | (simp only [List.set_cons_succ, List.set_cons_zero]; first | done | rfl) | rfl) ?_
  refine sx_assign rfl rfl ?_
  refine sx_nil (hZ _ _ ?_)
  refine awp_forget [(0, _), (2, _), (3, _), (5, _), (6, _)] (Kn.cons rfl (Kn.cons rfl (Kn.cons rfl (Kn.cons rfl (Kn.cons rfl (Kn.nil)))))) ?_
  refine awp_seq ?_
  refine awp_seq_region (fun Z hZ => ?_)
  refine sx_move rfl rfl ?_
  refine sx_neq rfl rfl rfl ?_
  refine sx_nil (hZ _ _ ?_)
  refine awp_forget [(0, _), (2, _), (3, _), (5, _), (6, _), (16, _)] (Kn.cons rfl (Kn.cons rfl (Kn.cons rfl (Kn.cons rfl (Kn.cons rfl (Kn.cons rfl (Kn.nil))))))) ?_
  refine awp_cond rfl (fun h => ?_) (fun h => ?_)
  · skip
    refine awp_seq_region (fun Z hZ => ?_)
    refine sx_build tyZ86 tyP86 rfl rfl (by first | (simp only [List.take_succ_cons, List.take_zero, List.drop_succ_cons, List.drop_zero, List.cons_append, List.nil_append, List.append_nil, List.length_cons, List.length_nil, Nat.reduceAdd, Nat.zero_add, Nat.add_zero, Value.cells, wrV, zrep_one, List.replicate_succ, List.replicate_zero, Nat.reduceMul, Nat.zero_mul]; first | done | rfl) | rfl) rfl ?_
    refine sx_buildA tyZ87 Tryz.underlying87 tyS9 rfl rfl (by first | (simp only [List.take_succ_cons, List.take_zero, List.drop_succ_cons, List.drop_zero, List.cons_append, List.nil_append, List.append_nil, List.length_cons, List.length_nil, Nat.reduceAdd, Nat.zero_add, Nat.add_zero, Value.cells, wrV, zrep_one, List.replicate_succ, List.replicate_zero, Nat.reduceMul, Nat.zero_mul]; first | done | rfl) | rfl) rfl ?_
    refine sx_move rfl rfl ?_
    refine sx_store 2 rfl rfl rfl tyS86 (by first | (simp only [Value.cells]; first | done | rfl) | rfl) rfl rfl (by first | (simp only [List.length_cons, List.length_nil, Nat.reduceAdd, Nat.zero_add, Nat.add_zero]; first | done | rfl) | rfl) (by first | (simp only [List.take_succ_cons, List.take_zero, List.drop_succ_cons, List.drop_zero, List.cons_append, List.nil_append, List.append_nil, List.length_cons, List.length_nil, Nat.reduceAdd, Nat.zero_add, Nat.add_zero, Value.cells, wrV]; first | done | rfl) | rfl) (by first | (simp only [List.set_cons_succ, List.set_cons_zero]; first | done | rfl) | rfl) ?_
    refine sx_store 1 rfl rfl rfl tyS87 (by first | (simp only [Value.cells]; first | done | rfl) | rfl) rfl rfl (by first | (simp only [List.length_cons, List.length_nil, Nat.reduceAdd, Nat.zero_add, Nat.add_zero]; first | done | rfl) | rfl) (by first | (simp only [List.take_succ_cons, List.take_zero, List.drop_succ_cons, List.drop_zero, List.cons_append, List.nil_append, List.append_nil, List.length_cons, List.length_nil, Nat.reduceAdd, Nat.zero_add, Nat.add_zero, Value.cells, wrV]; first | done | rfl) | rfl) (by first | (simp only [List.set_cons_succ, List.set_cons_zero]; first | done | rfl) | rfl) ?_
    refine sx_assign rfl rfl ?_
    refine sx_nil (hZ _ _ ?_)
    refine awp_forget [(2, _), (3, _), (4, _)] (Kn.cons rfl (Kn.cons rfl (Kn.cons rfl (Kn.nil)))) ?_
    refine awp_ret ?_
    repeat (with_reducible refine nx_then_ret ?_)
    exact nx_ret3 rfl (ResOk.cell 2 rfl rfl tyA86 tyS86 rfl) (ResOk.cell 1 rfl rfl tyA87 tyS87 rfl) rfl rfl
  · exfalso
    simp at h
theorem rows0_fn : Fn Tryz.prog 24 [.string (str [])] [] fun v _ => v = .tuple #[.slice none 0 0, .string (str []), iq 3] := by
  refine Fn.enter (N := 43) Tryz.func24 rfl (by kernel_rfl) rfl (fun w0 => ?_)

  refine awp_seq_region (fun Z hZ => ?_)
  refine sx_assign rfl rfl ?_
  refine sx_assign rfl rfl ?_
  refine sx_assign rfl rfl ?_
  refine sx_nil (hZ _ _ ?_)
  refine awp_forget [(0, _)] (Kn.cons rfl (Kn.nil)) ?_
  refine awp_seq_region (fun Z hZ => ?_)
  refine sx_move rfl rfl ?_
  refine sx_callP cut0_fn rfl rfl ?_
  refine sx_move rfl rfl ?_
  refine sx_extract rfl rfl rfl ?_
  refine sx_extract rfl rfl rfl ?_
  refine sx_extract rfl rfl rfl ?_
  refine sx_alloc tyZ86 rfl (fun g1 => ?_)
  refine sx_alloc tyZ87 rfl (fun g2 => ?_)
  refine sx_store 1 rfl rfl rfl tyS86 (by first | (simp only [Value.cells]; first | done | rfl) | rfl) rfl rfl (by first | (simp only [List.length_cons, List.length_nil, Nat.reduceAdd, Nat.zero_add, Nat.add_zero]; first | done | rfl) | rfl) (by first | (simp only [List.take_succ_cons, List.take_zero, List.drop_succ_cons, List.drop_zero, List.cons_append, List.nil_append, List.append_nil, List.length_cons, List.length_nil, Nat.reduceAdd, Nat.zero_add, Nat.add_zero, Value.cells, wrV]; first | done | rfl) | rfl) (by first | (simp only [List.set_cons_succ, List.set_cons_zero]; first | done | rfl) | rfl) ?_
  refine sx_store 0 rfl rfl rfl tyS87 (by first | (simp only [Value.cells]; first | done | rfl) | rfl) rfl rfl (by first | (simp only [List.length_cons, List.length_nil, Nat.reduceAdd, Nat.zero_add, Nat.add_zero]; first | done | rfl) | rfl) (by first | (simp only [List.take_succ_cons, List.take_zero, List.drop_succ_cons, List.drop_zero, List.cons_append, List.nil_append, List.append_nil, List.length_cons, List.length_nil, Nat.reduceAdd, Nat.zero_add, Nat.add_zero, Value.cells, wrV]; first | done | rfl) | rfl) (by first | (simp only [List.set_cons_succ, List.set_cons_zero]; first | done | rfl) | rfl) ?_
  refine sx_assign rfl rfl ?_
  refine sx_nil (hZ _ _ ?_)
  refine awp_forget [(6, _), (7, _)] (Kn.cons rfl (Kn.cons rfl (Kn.nil))) ?_
  refine awp_seq ?_
  refine awp_seq_region (fun Z hZ => ?_)
  refine sx_move rfl rfl ?_
  refine sx_neq rfl rfl rfl ?_
  refine sx_nil (hZ _ _ ?_)
  refine awp_forget [(6, _), (7, _), (18, _)] (Kn.cons rfl (Kn.cons rfl (Kn.cons rfl (Kn.nil)))) ?_
  refine awp_cond rfl (fun h => ?_) (fun h => ?_)
  · refine awp_seq_region (fun Z hZ => ?_)
    refine sx_move rfl rfl ?_
    refine sx_assign rfl rfl ?_
    refine sx_assign rfl rfl ?_
    refine sx_assign rfl rfl ?_
    refine sx_nil (hZ _ _ ?_)
    refine awp_forget [(2, _), (3, _), (4, _)] (Kn.cons rfl (Kn.cons rfl (Kn.cons rfl (Kn.nil)))) ?_
    refine awp_ret ?_
    repeat (with_reducible refine nx_then_ret ?_)
    exact nx_ret3 rfl rfl rfl rfl rfl
  · exfalso
    simp at h
theorem read0_fn : Fn Tryz.prog 14 [.string (str [])] [] fun v _ => v = .tuple #[chV none 0 0, iq 3] := by
  refine Fn.enter (N := 22) Tryz.func14 rfl (by kernel_rfl) rfl (fun w0 => ?_)

  refine awp_seq_region (fun Z hZ => ?_)
  refine sx_alloc tyZ35 rfl (fun g1 => ?_)
  refine sx_assign rfl rfl ?_
  refine sx_nil (hZ _ _ ?_)
  refine awp_forget [(0, _), (2, _)] (Kn.cons rfl (Kn.cons rfl (Kn.nil))) ?_

  refine awp_seq_region (fun Z hZ => ?_)
  refine sx_move rfl rfl ?_
  refine sx_callP rows0_fn rfl rfl ?_
  refine sx_move rfl rfl ?_
  refine sx_extract rfl rfl rfl ?_
  refine sx_extract rfl rfl rfl ?_
  refine sx_extract rfl rfl rfl ?_
  refine sx_assign rfl rfl ?_
  refine sx_assign rfl rfl ?_
  refine sx_assign rfl rfl ?_
  refine sx_nil (hZ _ _ ?_)
  refine awp_forget [(2, _), (4, _), (5, _), (6, _)] (Kn.cons rfl (Kn.cons rfl (Kn.cons rfl (Kn.cons rfl (Kn.nil))))) ?_
  refine awp_seq ?_
  refine awp_seq_region (fun Z hZ => ?_)
  refine sx_move rfl rfl ?_
  refine sx_neq rfl rfl rfl ?_
  refine sx_nil (hZ _ _ ?_)
  refine awp_forget [(2, _), (4, _), (5, _), (6, _), (14, _)] (Kn.cons rfl (Kn.cons rfl (Kn.cons rfl (Kn.cons rfl (Kn.cons rfl (Kn.nil)))))) ?_
  refine awp_cond rfl (fun h => ?_) (fun h => ?_)
  · refine awp_seq_region (fun Z hZ => ?_)
    refine sx_build tyZ35 tyP35 rfl rfl (by first | (simp only [List.take_succ_cons, List.take_zero, List.drop_succ_cons, List.drop_zero, List.cons_append, List.nil_append, List.append_nil, List.length_cons, List.length_nil, Nat.reduceAdd, Nat.zero_add, Nat.add_zero, Value.cells, wrV, zrep_one, List.replicate_succ, List.replicate_zero, Nat.reduceMul, Nat.zero_mul]; first | done | rfl) | rfl) rfl ?_
    refine sx_move rfl rfl ?_
    first | refine sx_store 0 rfl rfl rfl tyS35 (by first | (simp only [Value.cells]; first | done | rfl) | rfl) rfl rfl (by first | (simp only [List.length_cons, List.length_nil, Nat.reduceAdd, Nat.zero_add, Nat.add_zero]; first | done | rfl) | rfl) (by first | (simp only [List.take_succ_cons, List.take_zero, List.drop_succ_cons, List.drop_zero, List.cons_append, List.nil_append, List.append_nil, List.length_cons, List.length_nil, Nat.reduceAdd, Nat.zero_add, Nat.add_zero, Value.cells, wrV]; first | done | rfl) | rfl) (by first | (simp only [List.set_cons_succ, List.set_cons_zero]; first | done | rfl) | rfl) ?_
    refine sx_assign rfl rfl ?_
    refine sx_nil (hZ _ _ ?_)
    refine awp_forget [(2, _), (3, _)] (Kn.cons rfl (Kn.cons rfl (Kn.nil))) ?_
    refine awp_ret ?_
    repeat (with_reducible refine nx_then_ret ?_)
    exact nx_ret2 rfl (ResOk.cell 0 rfl rfl tyA35 tyS35 rfl) rfl rfl
  · exfalso
    simp at h
theorem files0_fn : Fn Tryz.prog 5 [.string (str []), .string (str [])] [] fun v _ => v = .tuple #[.slice none 0 0, iq 3] := by
  refine Fn.enter (N := 28) Tryz.func5 rfl (by kernel_rfl) rfl (fun w0 => ?_)

  refine awp_seq_region (fun Z hZ => ?_)
  refine sx_assign rfl rfl ?_
  refine sx_assign rfl rfl ?_
  refine sx_nil (hZ _ _ ?_)
  refine awp_forget [(0, _), (1, _)] (Kn.cons rfl (Kn.cons rfl (Kn.nil))) ?_
  refine awp_seq_region (fun Z hZ => ?_)
  refine sx_move rfl rfl ?_
  refine sx_callP read0_fn rfl rfl ?_
  refine sx_move rfl rfl ?_
  refine sx_extract rfl rfl rfl ?_
  refine sx_extract rfl rfl rfl ?_
  refine sx_alloc tyZ35 rfl (fun g1 => ?_)
  first | refine sx_store 0 rfl rfl rfl tyS35 (by first | (simp only [Value.cells]; first | done | rfl) | rfl) rfl rfl (by first | (simp only [List.length_cons, List.length_nil, Nat.reduceAdd, Nat.zero_add, Nat.add_zero]; first | done | rfl) | rfl) (by first | (simp only [List.take_succ_cons, List.take_zero, List.drop_succ_cons, List.drop_zero, List.cons_append, List.nil_append, List.append_nil, List.length_cons, List.length_nil, Nat.reduceAdd, Nat.zero_add, Nat.add_zero, Value.cells, wrV]; first | done | rfl) | rfl) (by first | (simp only [List.set_cons_succ, List.set_cons_zero]; first | done | rfl) | rfl) ?_
  refine sx_assign rfl rfl ?_
  refine sx_nil (hZ _ _ ?_)
  refine awp_forget [(1, _), (6, _), (7, _)] (Kn.cons rfl (Kn.cons rfl (Kn.cons rfl (Kn.nil)))) ?_
  refine awp_seq ?_
  refine awp_seq_region (fun Z hZ => ?_)
  refine sx_move rfl rfl ?_
  refine sx_neq rfl rfl rfl ?_
  refine sx_nil (hZ _ _ ?_)
  refine awp_forget [(1, _), (6, _), (7, _), (15, _)] (Kn.cons rfl (Kn.cons rfl (Kn.cons rfl (Kn.cons rfl (Kn.nil))))) ?_
  refine awp_cond rfl (fun h => ?_) (fun h => ?_)
  · refine awp_seq_region (fun Z hZ => ?_)
    refine sx_move rfl rfl ?_
    refine sx_assign rfl rfl ?_
    refine sx_assign rfl rfl ?_
    refine sx_nil (hZ _ _ ?_)
    refine awp_forget [(4, _), (5, _)] (Kn.cons rfl (Kn.cons rfl (Kn.nil))) ?_
    refine awp_ret ?_
    repeat (with_reducible refine nx_then_ret ?_)
    exact nx_ret2 rfl rfl rfl rfl
  · exfalso
    simp at h
end Go.Proofs.YtahmhcmfeloclaaGreat

namespace Go.Proofs.YtahmhcmfeloclaaGreat
open Go.RowKit
set_option linter.unusedVariables false
set_option linter.unusedSimpArgs false
set_option maxRecDepth 100000
def dA : List It := [⟨0, [97]⟩]
def dB : List It := [⟨0, [98]⟩, ⟨5, [99]⟩]
def dL : List Chg := [⟨0, [97], [98]⟩, ⟨5, [], [99]⟩]
def dT : List Chg := [⟨0, [98], [97]⟩, ⟨5, [99], []⟩]
theorem dA_of : ofQ dA = 0 ∧ ofL dA = dA := ⟨by kernel_rfl, by kernel_rfl⟩
theorem dB_of : ofQ dB = 0 ∧ ofL dB = dB := ⟨by kernel_rfl, by kernel_rfl⟩
theorem dA_ok : ChOk dA := by have := ofL_ok dA; rwa [dA_of.2] at this
theorem dB_ok : ChOk dB := by have := ofL_ok dB; rwa [dB_of.2] at this
theorem dL_is : betQ dA dB = dL := by
  unfold betQ dA dB
  rw [both_eq (x := ⟨0, [97]⟩) (y := ⟨0, [98]⟩) (xs := []) (ys := [⟨5, [99]⟩]) rfl, both_y, bothQ]
  rfl
theorem dT_is : turnQ dL = dT := rfl
theorem dAA : betQ dA dA = [] := (bet_nil dA_ok dA_ok).2 rfl
theorem d_ab : appE dA dL = 0 ∧ appO dA dL = dB := by have := app_bet dA_ok dB_ok (by decide); rwa [dL_is] at this
theorem d_ba : appE dB dT = 0 ∧ appO dB dT = dA := by have := app_bet dB_ok dA_ok (by decide); rwa [← turn_bet dA_ok dB_ok, dL_is, dT_is] at this
theorem d_bb : appE dB dL = 9 ∧ appO dB dL = dB := ⟨by kernel_rfl, by kernel_rfl⟩
theorem same_self (O : List It) : sameI O O = true := sameI_iff.2 rfl
theorem gawake_fn : Fn Tryz.prog 4 [] [] fun v _ => v = .bool true := by
  have e97 : str [97] = ⟨#[97]⟩ := rfl
  have e98 : str [98] = ⟨#[98]⟩ := rfl
  have e99 : str [99] = ⟨#[99]⟩ := rfl
  refine Fn.enter (N := 110) Tryz.func4 rfl (by kernel_rfl) rfl (fun w0 => ?_)

  refine awp_seq_region (fun Z hZ => ?_)
  refine sx_assign rfl rfl ?_
  refine sx_nil (hZ _ _ ?_)
  refine awp_forget [] (Kn.nil) ?_
  refine awp_seq_region (fun Z hZ => ?_)
  refine sx_build tyZ40 tyP40 rfl rfl (by first | (simp only [List.take_succ_cons, List.take_zero, List.drop_succ_cons, List.drop_zero, List.cons_append, List.nil_append, List.append_nil, List.length_cons, List.length_nil, Nat.reduceAdd, Nat.zero_add, Nat.add_zero, Value.cells, wrV, zrep_one, List.replicate_succ, List.replicate_zero, Nat.reduceMul, Nat.zero_mul]; first | done | rfl) | rfl) rfl ?_
  refine sx_buildSlice Tryz.underlying33 tyS40 tyZ40 rfl rfl rfl rfl (by first | (simp only [List.take_succ_cons, List.take_zero, List.drop_succ_cons, List.drop_zero, List.cons_append, List.nil_append, List.append_nil, List.length_cons, List.length_nil, Nat.reduceAdd, Nat.zero_add, Nat.add_zero, Value.cells, wrV, zrep_one, List.replicate_succ, List.replicate_zero, Nat.reduceMul, Nat.zero_mul]; first | done | rfl) | rfl) rfl (fun g1 => ?_)
  refine sx_heap [.ro g1 0 (icells dA)] (HLe.toRo [] []) ?_
  refine sx_ofE dA [.ro g1 0 (icells dA)] (fun _ => ⟨_, _, rfl⟩) (fun _ => rfl) (Ro.roE (some ⟨g1, 0, none⟩) (icells dA)) (List.Sublist.refl _) (by decide) rfl rfl ?_
  rw [dA_of.1, dA_of.2]
  intro A1 c1 hA1
  obtain ⟨ga, oa, rfl⟩ := slIn_pos hA1 (by decide)
  refine sx_move rfl rfl ?_
  refine sx_extract rfl rfl rfl ?_
  refine sx_extract rfl rfl rfl ?_
  refine sx_alloc tyZ35 rfl (fun g2 => ?_)
  refine sx_store 0 rfl rfl rfl tyS35 (by first | (simp only [Value.cells]; first | done | rfl) | rfl) rfl rfl (by first | (simp only [List.length_cons, List.length_nil, Nat.reduceAdd, Nat.zero_add, Nat.add_zero]; first | done | rfl) | rfl) (by first | (simp only [List.take_succ_cons, List.take_zero, List.drop_succ_cons, List.drop_zero, List.cons_append, List.nil_append, List.append_nil, List.length_cons, List.length_nil, Nat.reduceAdd, Nat.zero_add, Nat.add_zero, Value.cells, wrV]; first | done | rfl) | rfl) (by first | (simp only [List.set_cons_succ, List.set_cons_zero]; first | done | rfl) | rfl) ?_
  refine sx_assign rfl rfl ?_
  refine sx_nil (hZ _ _ ?_)
  refine awp_forget [(1, _)] (Kn.cons rfl (Kn.nil)) ?_
  refine awp_heap [.own g2 35 [.slice (some ⟨ga, oa, none⟩) 1 c1], .ro ga oa (icells dA)] (HLe.pick [0, 2] (by simp) rfl) ?_

  refine awp_seq_region (fun Z hZ => ?_)
  refine sx_build tyZ40 tyP40 rfl rfl (by first | (simp only [List.take_succ_cons, List.take_zero, List.drop_succ_cons, List.drop_zero, List.cons_append, List.nil_append, List.append_nil, List.length_cons, List.length_nil, Nat.reduceAdd, Nat.zero_add, Nat.add_zero, Value.cells, wrV, zrep_one, List.replicate_succ, List.replicate_zero, Nat.reduceMul, Nat.zero_mul]; first | done | rfl) | rfl) rfl ?_
  refine sx_build tyZ40 tyP40 rfl rfl (by first | (simp only [List.take_succ_cons, List.take_zero, List.drop_succ_cons, List.drop_zero, List.cons_append, List.nil_append, List.append_nil, List.length_cons, List.length_nil, Nat.reduceAdd, Nat.zero_add, Nat.add_zero, Value.cells, wrV, zrep_one, List.replicate_succ, List.replicate_zero, Nat.reduceMul, Nat.zero_mul]; first | done | rfl) | rfl) rfl ?_
  refine sx_buildSlice Tryz.underlying33 tyS40 tyZ40 rfl rfl rfl rfl (by first | (simp only [List.take_succ_cons, List.take_zero, List.drop_succ_cons, List.drop_zero, List.cons_append, List.nil_append, List.append_nil, List.length_cons, List.length_nil, Nat.reduceAdd, Nat.zero_add, Nat.add_zero, Value.cells, wrV, zrep_one, List.replicate_succ, List.replicate_zero, Nat.reduceMul, Nat.zero_mul]; first | done | rfl) | rfl) rfl (fun g3 => ?_)
  refine sx_heap [.ro g3 0 (icells dB), .own g2 35 [.slice (some ⟨ga, oa, none⟩) 1 c1], .ro ga oa (icells dA)] (HLe.toRo [] _) ?_
  refine sx_ofE dB [.ro g3 0 (icells dB)] (fun _ => ⟨_, _, rfl⟩) (fun _ => rfl) (Ro.roE (some ⟨g3, 0, none⟩) (icells dB)) (.cons_cons _ (List.nil_sublist _)) (by decide) rfl rfl ?_
  rw [dB_of.1, dB_of.2]
  intro A3 c3 hA3
  obtain ⟨gb, ob, rfl⟩ := slIn_pos hA3 (by decide)
  refine sx_move rfl rfl ?_
  refine sx_extract rfl rfl rfl ?_
  refine sx_extract rfl rfl rfl ?_
  refine sx_alloc tyZ35 rfl (fun g4 => ?_)
  refine sx_store 0 rfl rfl rfl tyS35 (by first | (simp only [Value.cells]; first | done | rfl) | rfl) rfl rfl (by first | (simp only [List.length_cons, List.length_nil, Nat.reduceAdd, Nat.zero_add, Nat.add_zero]; first | done | rfl) | rfl) (by first | (simp only [List.take_succ_cons, List.take_zero, List.drop_succ_cons, List.drop_zero, List.cons_append, List.nil_append, List.append_nil, List.length_cons, List.length_nil, Nat.reduceAdd, Nat.zero_add, Nat.add_zero, Value.cells, wrV]; first | done | rfl) | rfl) (by first | (simp only [List.set_cons_succ, List.set_cons_zero]; first | done | rfl) | rfl) ?_
  refine sx_assign rfl rfl ?_
  refine sx_nil (hZ _ _ ?_)
  refine awp_forget [(1, _), (3, _)] (Kn.cons rfl (Kn.cons rfl (Kn.nil))) ?_
  refine awp_heap [.own g4 35 [.slice (some ⟨gb, ob, none⟩) 2 c3], .own g2 35 [.slice (some ⟨ga, oa, none⟩) 1 c1], .ro ga oa (icells dA), .ro gb ob (icells dB)] (HLe.pick [0, 2, 3, 4] (by simp) rfl) ?_

  refine awp_seq_region (fun Z hZ => ?_)
  refine sx_loadA 1 rfl rfl tyA35 tyS35 (by first | (simp only [List.length_cons, List.length_nil, Nat.reduceAdd, Nat.zero_add, Nat.add_zero]; first | done | rfl) | rfl) (by first | (simp only [List.take_succ_cons, List.take_zero, List.drop_succ_cons, List.drop_zero, List.cons_append, List.nil_append, List.append_nil, List.length_cons, List.length_nil, Nat.reduceAdd, Nat.zero_add, Nat.add_zero, Value.cells, wrV]; first | done | rfl) | rfl) rfl ?_
  refine sx_loadA 0 rfl rfl tyA35 tyS35 (by first | (simp only [List.length_cons, List.length_nil, Nat.reduceAdd, Nat.zero_add, Nat.add_zero]; first | done | rfl) | rfl) (by first | (simp only [List.take_succ_cons, List.take_zero, List.drop_succ_cons, List.drop_zero, List.cons_append, List.nil_append, List.append_nil, List.length_cons, List.length_nil, Nat.reduceAdd, Nat.zero_add, Nat.add_zero, Value.cells, wrV]; first | done | rfl) | rfl) rfl ?_
  refine sx_betE dA dB hA1 hA3 (.cons _ (.cons _ (.cons_cons _ (List.nil_sublist _)))) (.cons _ (.cons _ (.cons _ (.cons_cons _ (List.nil_sublist _))))) (by decide) (by decide) rfl rfl ?_
  rw [dL_is]
  intro A5 c5 hA5
  obtain ⟨gc, oc, rfl⟩ := slIn_pos hA5 (by decide)
  refine sx_assign rfl rfl ?_
  refine sx_nil (hZ _ _ ?_)
  refine awp_forget [(1, _), (3, _), (5, _)] (Kn.cons rfl (Kn.cons rfl (Kn.cons rfl (Kn.nil)))) ?_
  refine awp_heap [.own g4 35 [.slice (some ⟨gb, ob, none⟩) 2 c3], .own g2 35 [.slice (some ⟨ga, oa, none⟩) 1 c1], .ro ga oa (icells dA), .ro gb ob (icells dB), .ro gc oc (gcells dL)] (HLe.refl _) ?_

  refine awp_seq_region (fun Z hZ => ?_)
  refine sx_loadA 1 rfl rfl tyA35 tyS35 (by first | (simp only [List.length_cons, List.length_nil, Nat.reduceAdd, Nat.zero_add, Nat.add_zero]; first | done | rfl) | rfl) (by first | (simp only [List.take_succ_cons, List.take_zero, List.drop_succ_cons, List.drop_zero, List.cons_append, List.nil_append, List.append_nil, List.length_cons, List.length_nil, Nat.reduceAdd, Nat.zero_add, Nat.add_zero, Value.cells, wrV]; first | done | rfl) | rfl) rfl ?_
  refine sx_move rfl rfl ?_
  refine sx_gapplyE dA dL hA1 dA_ok [.ro gc oc (gcells dL)] hA5.arg (fun _ => rfl) (Ro.roE (some ⟨gc, oc, none⟩) _) (.cons _ (.cons _ (.cons_cons _ (List.nil_sublist _)))) (.cons _ (.cons _ (.cons _ (.cons _ (.cons_cons _ (List.nil_sublist _)))))) (by decide) rfl rfl ?_
  rw [d_ab.1, d_ab.2]
  intro A6 c6 hA6
  obtain ⟨gd, od, rfl⟩ := slIn_pos hA6 (by decide)
  refine sx_move rfl rfl ?_
  refine sx_extract rfl rfl rfl ?_
  refine sx_extract rfl rfl rfl ?_
  refine sx_alloc tyZ35 rfl (fun g5 => ?_)
  refine sx_store 0 rfl rfl rfl tyS35 (by first | (simp only [Value.cells]; first | done | rfl) | rfl) rfl rfl (by first | (simp only [List.length_cons, List.length_nil, Nat.reduceAdd, Nat.zero_add, Nat.add_zero]; first | done | rfl) | rfl) (by first | (simp only [List.take_succ_cons, List.take_zero, List.drop_succ_cons, List.drop_zero, List.cons_append, List.nil_append, List.append_nil, List.length_cons, List.length_nil, Nat.reduceAdd, Nat.zero_add, Nat.add_zero, Value.cells, wrV]; first | done | rfl) | rfl) (by first | (simp only [List.set_cons_succ, List.set_cons_zero]; first | done | rfl) | rfl) ?_
  refine sx_assign rfl rfl ?_
  refine sx_nil (hZ _ _ ?_)
  refine awp_forget [(1, _), (3, _), (5, _), (6, _), (7, _)] (Kn.cons rfl (Kn.cons rfl (Kn.cons rfl (Kn.cons rfl (Kn.cons rfl (Kn.nil)))))) ?_
  refine awp_heap [.own g5 35 [.slice (some ⟨gd, od, none⟩) 2 c6], .own g4 35 [.slice (some ⟨gb, ob, none⟩) 2 c3], .own g2 35 [.slice (some ⟨ga, oa, none⟩) 1 c1], .ro ga oa (icells dA), .ro gb ob (icells dB), .ro gc oc (gcells dL), .ro gd od (icells dB)] (HLe.refl _) ?_

  refine awr_seq_region (fun j : Option Addr × Nat × Nat => [(1, ptr g2 0), (3, ptr g4 0), (5, .slice (some ⟨gc, oc, none⟩) 2 c5), (6, ptr g5 0), (7, iq 0), (8, ptr j.2.2 0), (9, iq 0)]) (fun j => .own j.2.2 35 [.slice j.1 1 j.2.1] :: ([.own g5 35 [.slice (some ⟨gd, od, none⟩) 2 c6], .own g4 35 [.slice (some ⟨gb, ob, none⟩) 2 c3], .own g2 35 [.slice (some ⟨ga, oa, none⟩) 1 c1], .ro ga oa (icells dA), .ro gb ob (icells dB), .ro gc oc (gcells dL), .ro gd od (icells dB)] ++ roE j.1 (icells dA))) (fun j => SlIn j.1 dA.length j.2.1) _ [2, 3, 7, 8] (Tr.step (0, true) (Tr.step (1, true) (Tr.fork (Tr.step (2, false) (Tr.fork (Tr.step (3, false) (Tr.step (4, true) (Tr.step (5, true) (Tr.step (6, true) (Tr.step (7, false) (Tr.step (8, false) (Tr.step (9, true) Tr.nil))))))) (Tr.step (7, false) (Tr.step (3, false) (Tr.step (4, true) (Tr.step (5, true) (Tr.step (6, true) (Tr.step (8, false) (Tr.step (9, true) Tr.nil))))))))) (Tr.step (7, false) (Tr.step (2, false) (Tr.step (3, false) (Tr.step (4, true) (Tr.step (5, true) (Tr.step (6, true) (Tr.step (8, false) (Tr.step (9, true) Tr.nil))))))))))) mixed (by kernel_rfl) (HLe.pick [1] (by simp) (by simp only [pick, List.filterMap_cons, List.filterMap_nil, List.getElem?_cons_succ, List.getElem?_cons_zero]; rfl)) ?_ ?_
  · refine tt_p rfl ?_
    first | refine sv_loadA 0 rfl rfl tyA35 tyS35 (by first | (simp only [List.length_cons, List.length_nil, Nat.reduceAdd, Nat.zero_add, Nat.add_zero]; first | done | rfl) | rfl) (by first | (simp only [List.take_succ_cons, List.take_zero, List.drop_succ_cons, List.drop_zero, List.cons_append, List.nil_append, List.append_nil, List.length_cons, List.length_nil, Nat.reduceAdd, Nat.zero_add, Nat.add_zero, Value.cells, wrV]; first | done | rfl) | rfl) rfl ?_
    refine sv_nil ?_
    refine tt_p rfl ?_
    refine sv_move rfl rfl ?_
    refine sv_nil ?_
    refine tt_fork ?_ ?_
    · refine tt_g rfl ?_
      refine sx_gturnE dL hA5 (by repeat (first | exact List.Sublist.refl _ | exact List.nil_sublist _ | exact List.sublist_append_right _ _ | refine List.Sublist.trans ?_ (List.sublist_append_left _ _) | exact List.Sublist.cons_cons _ (List.nil_sublist _) | refine List.Sublist.cons _ ?_)) (by decide) rfl rfl (fun A7 c7 hA7 => ?_)
      rw [dT_is]
      refine sx_nil ⟨HLe.pick [1] (by simp) rfl, ?_⟩
      refine tt_fork ?_ ?_
      · refine tt_g rfl ?_
        refine sx_gapplyE dB dT hA3 dB_ok (roE A7 (gcells dT)) hA7.arg (fun _ => rfl) (Ro.roE _ _) (by repeat (first | exact List.Sublist.refl _ | exact List.nil_sublist _ | exact List.sublist_append_right _ _ | refine List.Sublist.trans ?_ (List.sublist_append_left _ _) | exact List.Sublist.cons_cons _ (List.nil_sublist _) | refine List.Sublist.cons _ ?_)) (by repeat (first | exact List.Sublist.refl _ | exact List.nil_sublist _ | exact List.sublist_append_right _ _ | refine List.Sublist.trans ?_ (List.sublist_append_left _ _) | exact List.Sublist.cons_cons _ (List.nil_sublist _) | refine List.Sublist.cons _ ?_)) (by decide) rfl rfl ?_
        rw [d_ba.1, d_ba.2]
        intro A8 c8 hA8
        refine sx_nil ⟨HLe.pick [1] (by simp) rfl, ?_⟩
        refine tt_p rfl ?_
        refine sv_move rfl rfl ?_
        refine sv_nil ?_
        refine tt_p rfl ?_
        refine sv_extract rfl rfl rfl ?_
        refine sv_nil ?_
        refine tt_p rfl ?_
        refine sv_extract rfl rfl rfl ?_
        refine sv_nil ?_
        refine tt_g rfl ?_
        refine sx_alloc tyZ35 rfl (fun g6 => ?_)
        refine sx_nil ⟨HLe.pick [2] (by simp) rfl, ?_⟩
        refine tt_g rfl ?_
        refine sx_store 0 rfl rfl rfl tyS35 (by first | (simp only [Value.cells]; first | done | rfl) | rfl) rfl rfl (by first | (simp only [List.length_cons, List.length_nil, Nat.reduceAdd, Nat.zero_add, Nat.add_zero]; first | done | rfl) | rfl) (by first | (simp only [List.take_succ_cons, List.take_zero, List.drop_succ_cons, List.drop_zero, List.cons_append, List.nil_append, List.append_nil, List.length_cons, List.length_nil, Nat.reduceAdd, Nat.zero_add, Nat.add_zero, Value.cells, wrV]; first | done | rfl) | rfl) (by first | (simp only [List.set_cons_succ, List.set_cons_zero]; first | done | rfl) | rfl) ?_
        refine sx_nil ⟨HLe.pick [2] (by simp) rfl, ?_⟩
        refine tt_p rfl ?_
        refine sv_assign rfl rfl ?_
        refine sv_nil ?_
        refine tt_nil ?_
        exact ⟨(A8, c8, g6), hA8, Kn.cons rfl (Kn.cons rfl (Kn.cons rfl (Kn.cons rfl (Kn.cons rfl (Kn.cons rfl (Kn.cons rfl Kn.nil)))))), HLe.sub (.cons_cons _ (List.Sublist.append_right (List.sublist_append_left _ _) _))⟩
      · refine tt_g rfl ?_
        refine sx_alloc tyZ35 rfl (fun g6 => ?_)
        refine sx_nil ⟨HLe.pick [2] (by simp) rfl, ?_⟩
        refine tt_g rfl ?_
        refine sx_gapplyE dB dT hA3 dB_ok (roE A7 (gcells dT)) hA7.arg (fun _ => rfl) (Ro.roE _ _) (by repeat (first | exact List.Sublist.refl _ | exact List.nil_sublist _ | exact List.sublist_append_right _ _ | refine List.Sublist.trans ?_ (List.sublist_append_left _ _) | exact List.Sublist.cons_cons _ (List.nil_sublist _) | refine List.Sublist.cons _ ?_)) (by repeat (first | exact List.Sublist.refl _ | exact List.nil_sublist _ | exact List.sublist_append_right _ _ | refine List.Sublist.trans ?_ (List.sublist_append_left _ _) | exact List.Sublist.cons_cons _ (List.nil_sublist _) | refine List.Sublist.cons _ ?_)) (by decide) rfl rfl ?_
        rw [d_ba.1, d_ba.2]
        intro A8 c8 hA8
        refine sx_nil ⟨HLe.pick [2] (by simp) rfl, ?_⟩
        refine tt_p rfl ?_
        refine sv_move rfl rfl ?_
        refine sv_nil ?_
        refine tt_p rfl ?_
        refine sv_extract rfl rfl rfl ?_
        refine sv_nil ?_
        refine tt_p rfl ?_
        refine sv_extract rfl rfl rfl ?_
        refine sv_nil ?_
        refine tt_g rfl ?_
        refine sx_store 0 rfl rfl rfl tyS35 (by first | (simp only [Value.cells]; first | done | rfl) | rfl) rfl rfl (by first | (simp only [List.length_cons, List.length_nil, Nat.reduceAdd, Nat.zero_add, Nat.add_zero]; first | done | rfl) | rfl) (by first | (simp only [List.take_succ_cons, List.take_zero, List.drop_succ_cons, List.drop_zero, List.cons_append, List.nil_append, List.append_nil, List.length_cons, List.length_nil, Nat.reduceAdd, Nat.zero_add, Nat.add_zero, Value.cells, wrV]; first | done | rfl) | rfl) (by first | (simp only [List.set_cons_succ, List.set_cons_zero]; first | done | rfl) | rfl) ?_
        refine sx_nil ⟨HLe.pick [2] (by simp) rfl, ?_⟩
        refine tt_p rfl ?_
        refine sv_assign rfl rfl ?_
        refine sv_nil ?_
        refine tt_nil ?_
        exact ⟨(A8, c8, g6), hA8, Kn.cons rfl (Kn.cons rfl (Kn.cons rfl (Kn.cons rfl (Kn.cons rfl (Kn.cons rfl (Kn.cons rfl Kn.nil)))))), HLe.sub (.cons_cons _ (List.Sublist.append_right (List.sublist_append_left _ _) _))⟩
    · refine tt_g rfl ?_
      refine sx_alloc tyZ35 rfl (fun g6 => ?_)
      refine sx_nil ⟨HLe.pick [2] (by simp) rfl, ?_⟩
      refine tt_g rfl ?_
      refine sx_gturnE dL hA5 (by repeat (first | exact List.Sublist.refl _ | exact List.nil_sublist _ | exact List.sublist_append_right _ _ | refine List.Sublist.trans ?_ (List.sublist_append_left _ _) | exact List.Sublist.cons_cons _ (List.nil_sublist _) | refine List.Sublist.cons _ ?_)) (by decide) rfl rfl (fun A7 c7 hA7 => ?_)
      rw [dT_is]
      refine sx_nil ⟨HLe.pick [2] (by simp) rfl, ?_⟩
      refine tt_g rfl ?_
      refine sx_gapplyE dB dT hA3 dB_ok (roE A7 (gcells dT)) hA7.arg (fun _ => rfl) (Ro.roE _ _) (by repeat (first | exact List.Sublist.refl _ | exact List.nil_sublist _ | exact List.sublist_append_right _ _ | refine List.Sublist.trans ?_ (List.sublist_append_left _ _) | exact List.Sublist.cons_cons _ (List.nil_sublist _) | refine List.Sublist.cons _ ?_)) (by repeat (first | exact List.Sublist.refl _ | exact List.nil_sublist _ | exact List.sublist_append_right _ _ | refine List.Sublist.trans ?_ (List.sublist_append_left _ _) | exact List.Sublist.cons_cons _ (List.nil_sublist _) | refine List.Sublist.cons _ ?_)) (by decide) rfl rfl ?_
      rw [d_ba.1, d_ba.2]
      intro A8 c8 hA8
      refine sx_nil ⟨HLe.pick [2] (by simp) rfl, ?_⟩
      refine tt_p rfl ?_
      refine sv_move rfl rfl ?_
      refine sv_nil ?_
      refine tt_p rfl ?_
      refine sv_extract rfl rfl rfl ?_
      refine sv_nil ?_
      refine tt_p rfl ?_
      refine sv_extract rfl rfl rfl ?_
      refine sv_nil ?_
      refine tt_g rfl ?_
      refine sx_store 0 rfl rfl rfl tyS35 (by first | (simp only [Value.cells]; first | done | rfl) | rfl) rfl rfl (by first | (simp only [List.length_cons, List.length_nil, Nat.reduceAdd, Nat.zero_add, Nat.add_zero]; first | done | rfl) | rfl) (by first | (simp only [List.take_succ_cons, List.take_zero, List.drop_succ_cons, List.drop_zero, List.cons_append, List.nil_append, List.append_nil, List.length_cons, List.length_nil, Nat.reduceAdd, Nat.zero_add, Nat.add_zero, Value.cells, wrV]; first | done | rfl) | rfl) (by first | (simp only [List.set_cons_succ, List.set_cons_zero]; first | done | rfl) | rfl) ?_
      refine sx_nil ⟨HLe.pick [2] (by simp) rfl, ?_⟩
      refine tt_p rfl ?_
      refine sv_assign rfl rfl ?_
      refine sv_nil ?_
      refine tt_nil ?_
      exact ⟨(A8, c8, g6), hA8, Kn.cons rfl (Kn.cons rfl (Kn.cons rfl (Kn.cons rfl (Kn.cons rfl (Kn.cons rfl (Kn.cons rfl Kn.nil)))))), HLe.sub (.cons_cons _ (List.Sublist.append_right (List.sublist_append_left _ _) _))⟩
  rintro ⟨A8, c8, g8⟩ hA8
  simp only at hA8
  obtain ⟨ge, oe, rfl⟩ := slIn_pos hA8 (by decide)
  refine awp_heap [.own g8 35 [.slice (some ⟨ge, oe, none⟩) 1 c8], .own g5 35 [.slice (some ⟨gd, od, none⟩) 2 c6], .own g4 35 [.slice (some ⟨gb, ob, none⟩) 2 c3], .own g2 35 [.slice (some ⟨ga, oa, none⟩) 1 c1], .ro ga oa (icells dA), .ro gb ob (icells dB), .ro gc oc (gcells dL), .ro gd od (icells dB), .ro ge oe (icells dA)] (HLe.refl _) ?_

  refine awp_seq_region (fun Z hZ => ?_)
  refine sx_loadA 2 rfl rfl tyA35 tyS35 (by first | (simp only [List.length_cons, List.length_nil, Nat.reduceAdd, Nat.zero_add, Nat.add_zero]; first | done | rfl) | rfl) (by first | (simp only [List.take_succ_cons, List.take_zero, List.drop_succ_cons, List.drop_zero, List.cons_append, List.nil_append, List.append_nil, List.length_cons, List.length_nil, Nat.reduceAdd, Nat.zero_add, Nat.add_zero, Value.cells, wrV]; first | done | rfl) | rfl) rfl ?_
  refine sx_move rfl rfl ?_
  refine sx_gapplyE dB dL hA3 dB_ok [.ro gc oc (gcells dL)] hA5.arg (fun _ => rfl) (Ro.roE (some ⟨gc, oc, none⟩) _) (.cons _ (.cons _ (.cons _ (.cons _ (.cons _ (.cons_cons _ (List.nil_sublist _))))))) (.cons _ (.cons _ (.cons _ (.cons _ (.cons _ (.cons _ (.cons_cons _ (List.nil_sublist _)))))))) (by decide) rfl rfl ?_
  rw [d_bb.1, d_bb.2]
  intro A9 c9 hA9
  obtain ⟨gf, of_, rfl⟩ := slIn_pos hA9 (by decide)
  refine sx_move rfl rfl ?_
  refine sx_extract rfl rfl rfl ?_
  refine sx_extract rfl rfl rfl ?_
  refine sx_alloc tyZ35 rfl (fun g7 => ?_)
  refine sx_store 0 rfl rfl rfl tyS35 (by first | (simp only [Value.cells]; first | done | rfl) | rfl) rfl rfl (by first | (simp only [List.length_cons, List.length_nil, Nat.reduceAdd, Nat.zero_add, Nat.add_zero]; first | done | rfl) | rfl) (by first | (simp only [List.take_succ_cons, List.take_zero, List.drop_succ_cons, List.drop_zero, List.cons_append, List.nil_append, List.append_nil, List.length_cons, List.length_nil, Nat.reduceAdd, Nat.zero_add, Nat.add_zero, Value.cells, wrV]; first | done | rfl) | rfl) (by first | (simp only [List.set_cons_succ, List.set_cons_zero]; first | done | rfl) | rfl) ?_
  refine sx_assign rfl rfl ?_
  refine sx_nil (hZ _ _ ?_)
  refine awp_forget [(1, _), (3, _), (5, _), (6, _), (7, _), (8, _), (9, _), (10, _), (11, _)] (Kn.cons rfl (Kn.cons rfl (Kn.cons rfl (Kn.cons rfl (Kn.cons rfl (Kn.cons rfl (Kn.cons rfl (Kn.cons rfl (Kn.cons rfl (Kn.nil)))))))))) ?_
  refine awp_heap [.own g7 35 [.slice (some ⟨gf, of_, none⟩) 2 c9], .own g8 35 [.slice (some ⟨ge, oe, none⟩) 1 c8], .own g5 35 [.slice (some ⟨gd, od, none⟩) 2 c6], .own g4 35 [.slice (some ⟨gb, ob, none⟩) 2 c3], .own g2 35 [.slice (some ⟨ga, oa, none⟩) 1 c1], .ro ga oa (icells dA), .ro gb ob (icells dB), .ro gc oc (gcells dL), .ro gd od (icells dB), .ro ge oe (icells dA), .ro gf of_ (icells dB)] (HLe.refl _) ?_

  refine awp_seq_region (fun Z hZ => ?_)
  refine sx_callP files0_fn rfl rfl ?_
  refine sx_move rfl rfl ?_
  refine sx_extract rfl rfl rfl ?_
  refine sx_extract rfl rfl rfl ?_
  refine sx_assign rfl rfl ?_
  refine sx_assign rfl rfl ?_
  refine sx_nil (hZ _ _ ?_)
  refine awp_forget [(1, _), (3, _), (5, _), (6, _), (7, _), (8, _), (9, _), (10, _), (11, _), (13, _)] (Kn.cons rfl (Kn.cons rfl (Kn.cons rfl (Kn.cons rfl (Kn.cons rfl (Kn.cons rfl (Kn.cons rfl (Kn.cons rfl (Kn.cons rfl (Kn.cons rfl (Kn.nil))))))))))) ?_
  refine awp_seq_meet [(0, .bool true)] [] (fun Z hZ => ?_) ?_
  · refine sx_move rfl rfl ?_
    refine sx_len Tryz.underlying23 rfl rfl ?_
    refine sx_eql rfl rfl rfl ?_
    refine sx_move rfl rfl ?_
    refine sx_force 56 rfl true (by first | rfl | (simp; done)) ?_
    refine sx_on rfl rfl rfl ?_
    refine sx_move rfl rfl ?_
    refine sx_on rfl rfl rfl ?_
    refine sx_indexAddr oc Tryz.underlying23 tyS45 rfl rfl (by decide) rfl rfl ?_
    refine sx_on rfl rfl rfl ?_
    refine sx_loadRo 7 rfl rfl 0 rfl tyA45 tyS45 rfl rfl ?_
    refine sx_on rfl rfl rfl ?_
    refine sx_build tyZ45 tyP45 rfl rfl (by first | (simp only [List.take_succ_cons, List.take_zero, List.drop_succ_cons, List.drop_zero, List.cons_append, List.nil_append, List.append_nil, List.length_cons, List.length_nil, Nat.reduceAdd, Nat.zero_add, Nat.add_zero, Value.cells, wrV, zrep_one, List.replicate_succ, List.replicate_zero, Nat.reduceMul, Nat.zero_mul]; first | done | rfl) | rfl) rfl ?_
    refine sx_on rfl rfl rfl ?_
    refine sx_aeql (ch_eq ⟨0, [97], [98]⟩ ⟨0, [97], [98]⟩) guard_ch_eq rfl rfl rfl ?_
    refine sx_pick rfl rfl rfl ?_
    refine sx_move rfl rfl ?_
    refine sx_force 63 rfl true (by first | rfl | (simp; done)) ?_
    refine sx_on rfl rfl rfl ?_
    refine sx_move rfl rfl ?_
    refine sx_on rfl rfl rfl ?_
    refine sx_indexAddr (oc + 3) Tryz.underlying23 tyS45 rfl rfl (by decide) rfl rfl ?_
    refine sx_on rfl rfl rfl ?_
    refine sx_loadRo 7 rfl rfl 3 rfl tyA45 tyS45 rfl rfl ?_
    refine sx_on rfl rfl rfl ?_
    refine sx_build tyZ45 tyP45 rfl rfl (by first | (simp only [List.take_succ_cons, List.take_zero, List.drop_succ_cons, List.drop_zero, List.cons_append, List.nil_append, List.append_nil, List.length_cons, List.length_nil, Nat.reduceAdd, Nat.zero_add, Nat.add_zero, Value.cells, wrV, zrep_one, List.replicate_succ, List.replicate_zero, Nat.reduceMul, Nat.zero_mul]; first | done | rfl) | rfl) rfl ?_
    refine sx_on rfl rfl rfl ?_
    refine sx_aeql (ch_eq ⟨5, [], [99]⟩ ⟨5, [], [99]⟩) guard_ch_eq rfl rfl rfl ?_
    refine sx_pick rfl rfl rfl ?_
    refine sx_move rfl rfl ?_
    refine sx_force 70 rfl true (by first | rfl | (simp; done)) ?_
    refine sx_on rfl rfl rfl ?_
    refine sx_move rfl rfl ?_
    refine sx_on rfl rfl rfl ?_
    refine sx_eql rfl rfl rfl ?_
    refine sx_pick rfl rfl rfl ?_
    refine sx_move rfl rfl ?_
    refine sx_force 74 rfl true (by first | rfl | (simp; done)) ?_
    refine sx_on rfl rfl rfl ?_
    refine sx_loadA 2 rfl rfl tyA35 tyS35 (by first | (simp only [List.length_cons, List.length_nil, Nat.reduceAdd, Nat.zero_add, Nat.add_zero]; first | done | rfl) | rfl) (by first | (simp only [List.take_succ_cons, List.take_zero, List.drop_succ_cons, List.drop_zero, List.cons_append, List.nil_append, List.append_nil, List.length_cons, List.length_nil, Nat.reduceAdd, Nat.zero_add, Nat.add_zero, Value.cells, wrV]; first | done | rfl) | rfl) rfl ?_
    refine sx_on rfl rfl rfl ?_
    refine sx_loadA 3 rfl rfl tyA35 tyS35 (by first | (simp only [List.length_cons, List.length_nil, Nat.reduceAdd, Nat.zero_add, Nat.add_zero]; first | done | rfl) | rfl) (by first | (simp only [List.take_succ_cons, List.take_zero, List.drop_succ_cons, List.drop_zero, List.cons_append, List.nil_append, List.append_nil, List.length_cons, List.length_nil, Nat.reduceAdd, Nat.zero_add, Nat.add_zero, Value.cells, wrV]; first | done | rfl) | rfl) rfl ?_
    refine sx_on rfl rfl rfl ?_
    refine sx_csame dB dB hA6 hA3 (.cons _ (.cons _ (.cons _ (.cons _ (.cons _ (.cons _ (.cons _ (.cons _ (.cons_cons _ (List.nil_sublist _)))))))))) (.cons _ (.cons _ (.cons _ (.cons _ (.cons _ (.cons _ (.cons_cons _ (List.nil_sublist _)))))))) (by decide) (by decide) rfl rfl ?_
    rw [same_self]
    refine sx_pick rfl rfl rfl ?_
    refine sx_move rfl rfl ?_
    refine sx_force 79 rfl true (by first | rfl | (simp; done)) ?_
    refine sx_on rfl rfl rfl ?_
    refine sx_move rfl rfl ?_
    refine sx_on rfl rfl rfl ?_
    refine sx_eql rfl rfl rfl ?_
    refine sx_pick rfl rfl rfl ?_
    refine sx_move rfl rfl ?_
    refine sx_force 83 rfl true (by first | rfl | (simp; done)) ?_
    refine sx_on rfl rfl rfl ?_
    refine sx_loadA 1 rfl rfl tyA35 tyS35 (by first | (simp only [List.length_cons, List.length_nil, Nat.reduceAdd, Nat.zero_add, Nat.add_zero]; first | done | rfl) | rfl) (by first | (simp only [List.take_succ_cons, List.take_zero, List.drop_succ_cons, List.drop_zero, List.cons_append, List.nil_append, List.append_nil, List.length_cons, List.length_nil, Nat.reduceAdd, Nat.zero_add, Nat.add_zero, Value.cells, wrV]; first | done | rfl) | rfl) rfl ?_
    refine sx_on rfl rfl rfl ?_
    refine sx_loadA 4 rfl rfl tyA35 tyS35 (by first | (simp only [List.length_cons, List.length_nil, Nat.reduceAdd, Nat.zero_add, Nat.add_zero]; first | done | rfl) | rfl) (by first | (simp only [List.take_succ_cons, List.take_zero, List.drop_succ_cons, List.drop_zero, List.cons_append, List.nil_append, List.append_nil, List.length_cons, List.length_nil, Nat.reduceAdd, Nat.zero_add, Nat.add_zero, Value.cells, wrV]; first | done | rfl) | rfl) rfl ?_
    refine sx_on rfl rfl rfl ?_
    refine sx_csame dA dA hA8 hA1 (.cons _ (.cons _ (.cons _ (.cons _ (.cons _ (.cons _ (.cons _ (.cons _ (.cons _ (.cons_cons _ (List.nil_sublist _))))))))))) (.cons _ (.cons _ (.cons _ (.cons _ (.cons _ (.cons_cons _ (List.nil_sublist _))))))) (by decide) (by decide) rfl rfl ?_
    rw [same_self]
    refine sx_pick rfl rfl rfl ?_
    refine sx_move rfl rfl ?_
    refine sx_force 88 rfl true (by first | rfl | (simp; done)) ?_
    refine sx_on rfl rfl rfl ?_
    refine sx_loadA 0 rfl rfl tyA35 tyS35 (by first | (simp only [List.length_cons, List.length_nil, Nat.reduceAdd, Nat.zero_add, Nat.add_zero]; first | done | rfl) | rfl) (by first | (simp only [List.take_succ_cons, List.take_zero, List.drop_succ_cons, List.drop_zero, List.cons_append, List.nil_append, List.append_nil, List.length_cons, List.length_nil, Nat.reduceAdd, Nat.zero_add, Nat.add_zero, Value.cells, wrV]; first | done | rfl) | rfl) rfl ?_
    refine sx_on rfl rfl rfl ?_
    refine sx_loadA 3 rfl rfl tyA35 tyS35 (by first | (simp only [List.length_cons, List.length_nil, Nat.reduceAdd, Nat.zero_add, Nat.add_zero]; first | done | rfl) | rfl) (by first | (simp only [List.take_succ_cons, List.take_zero, List.drop_succ_cons, List.drop_zero, List.cons_append, List.nil_append, List.append_nil, List.length_cons, List.length_nil, Nat.reduceAdd, Nat.zero_add, Nat.add_zero, Value.cells, wrV]; first | done | rfl) | rfl) rfl ?_
    refine sx_on rfl rfl rfl ?_
    refine sx_csame dB dB hA9 hA3 (.cons _ (.cons _ (.cons _ (.cons _ (.cons _ (.cons _ (.cons _ (.cons _ (.cons _ (.cons _ (.cons_cons _ (List.nil_sublist _)))))))))))) (.cons _ (.cons _ (.cons _ (.cons _ (.cons _ (.cons _ (.cons_cons _ (List.nil_sublist _)))))))) (by decide) (by decide) rfl rfl ?_
    rw [same_self]
    refine sx_pick rfl rfl rfl ?_
    refine sx_move rfl rfl ?_
    refine sx_force 93 rfl true (by first | rfl | (simp; done)) ?_
    refine sx_on rfl rfl rfl ?_
    refine sx_move rfl rfl ?_
    refine sx_on rfl rfl rfl ?_
    refine sx_eql rfl rfl rfl ?_
    refine sx_pick rfl rfl rfl ?_
    refine sx_move rfl rfl ?_
    refine sx_force 97 rfl true (by first | rfl | (simp; done)) ?_
    refine sx_on rfl rfl rfl ?_
    refine sx_move rfl rfl ?_
    refine sx_on rfl rfl rfl ?_
    refine sx_eql rfl rfl rfl ?_
    refine sx_pick rfl rfl rfl ?_
    refine sx_move rfl rfl ?_
    refine sx_force 101 rfl true (by first | rfl | (simp; done)) ?_
    refine sx_on rfl rfl rfl ?_
    refine sx_loadA 4 rfl rfl tyA35 tyS35 (by first | (simp only [List.length_cons, List.length_nil, Nat.reduceAdd, Nat.zero_add, Nat.add_zero]; first | done | rfl) | rfl) (by first | (simp only [List.take_succ_cons, List.take_zero, List.drop_succ_cons, List.drop_zero, List.cons_append, List.nil_append, List.append_nil, List.length_cons, List.length_nil, Nat.reduceAdd, Nat.zero_add, Nat.add_zero, Value.cells, wrV]; first | done | rfl) | rfl) rfl ?_
    refine sx_on rfl rfl rfl ?_
    refine sx_loadA 4 rfl rfl tyA35 tyS35 (by first | (simp only [List.length_cons, List.length_nil, Nat.reduceAdd, Nat.zero_add, Nat.add_zero]; first | done | rfl) | rfl) (by first | (simp only [List.take_succ_cons, List.take_zero, List.drop_succ_cons, List.drop_zero, List.cons_append, List.nil_append, List.append_nil, List.length_cons, List.length_nil, Nat.reduceAdd, Nat.zero_add, Nat.add_zero, Value.cells, wrV]; first | done | rfl) | rfl) rfl ?_
    refine sx_on rfl rfl rfl ?_
    refine sx_betE dA dA hA1 hA1 (.cons _ (.cons _ (.cons _ (.cons _ (.cons _ (.cons_cons _ (List.nil_sublist _))))))) (.cons _ (.cons _ (.cons _ (.cons _ (.cons _ (.cons_cons _ (List.nil_sublist _))))))) (by decide) (by decide) rfl rfl ?_
    rw [dAA]
    intro A10 c10 hA10
    refine sx_on rfl rfl rfl ?_
    refine sx_len Tryz.underlying23 rfl rfl ?_
    refine sx_on rfl rfl rfl ?_
    refine sx_eql rfl rfl rfl ?_
    refine sx_pick rfl rfl rfl ?_
    refine sx_move rfl rfl ?_
    refine sx_pick rfl rfl rfl ?_
    refine sx_assign rfl rfl ?_
    refine sx_nil (hZ _ _ ?_ ?_)
    · exact Kn.cons rfl Kn.nil
    · exact HLe.sub (List.nil_sublist _)
  refine awp_ret ?_
  exact nx_ret1 rfl rfl rfl
end Go.Proofs.YtahmhcmfeloclaaGreat

namespace Go.Proofs.YtahmhcmfeloclaaGreat
open Go.RowKit
set_option linter.unusedVariables false
set_option linter.unusedSimpArgs false
set_option maxRecDepth 100000
def govQ : Int → List Chg → Bool
  | _, [] => false
  | z, x :: r => if IntKind.i64.wrap (IntKind.i64.wrap (z - (x.old.length : Nat)) - (x.new.length : Nat)) < 0 then true else govQ (IntKind.i64.wrap (IntKind.i64.wrap (z - (x.old.length : Nat)) - (x.new.length : Nat))) r
def govB (L : List Chg) : Bool := govQ 3000 L || decide (60 < L.length)
section
variable {N : Frm} {w0 w : World} {Wr : List Nat} {ops : Array Oper} {rest : List Oper} {fr : Fr} {H : Heap} {Z : Fr → Heap → Prop} {d ty : Nat} {pos : String} {after : Array Edge} {xs : List Operand} {ts : Array TypeId} {A B : Option Addr} {c c2 : Nat}
end
end Go.Proofs.YtahmhcmfeloclaaGreat
