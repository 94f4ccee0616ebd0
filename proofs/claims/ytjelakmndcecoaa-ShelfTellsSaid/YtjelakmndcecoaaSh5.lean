/- The walks of shelf's Clear and Fork. No conditions but of lengths. -/
import Derived.Test.YtjelakmndcecoaaSh4
namespace Go.Proofs.Ytjelakmndcecoaa
open Go.RowKit
set_option linter.unusedVariables false
set_option linter.unusedSimpArgs false
set_option maxRecDepth 100000
theorem sh_none {most : Nat} {S : Sh} {s' : LI.CS} (T : Heap) (h : LI.Rep s' []) : ShIs most { S with s := s', M := [] } [] T :=
  ⟨[], fun _ => [], h, rfl, Nat.zero_le _, by simp, fun n r h => by simp [aget] at h, List.nodup_nil, List.nodup_nil⟩
theorem shclear_fn (B : Bk) (most : Nat) (S : Sh) (X : List Item) (T : Heap) (hS : ShIs most S X T) (hm : most ≤ 64) :
    Fn Try.prog 18 [ptr B.g 0] (shH B most S)
    fun v H' => ∃ S', v = .tuple #[] ∧ H' = shH B most S' ∧ ShIs most S' [] [] ∧ S'.nx = S.nx ∧ S'.hi = S.hi ∧ S'.mi = S.mi := by
  obtain ⟨L, tx, hS⟩ := hS
  have hll := hS.len
  refine Fn.enter (N := 24) Try.func18 rfl (by kernel_rfl) rfl (fun w0 => ?_)
  refine awp_cut (ι := LI.CS) (fun c => [(0, ptr B.g 0)]) (fun c => shH B most { S with s := c }) (fun c => LI.Rep c []) ?_ ?_
  · skip
    refine awp_seq_region (fun Z hZ => ?_)
    refine sx_move rfl rfl ?_
    refine sx_callA (shH B most S) [] [] (by rw [List.append_nil]; exact shkeys_fn B most S L hS.rep (by omega)) rfl (HLe.refl _) (List.nil_sublist _) Ro.nil rfl ?_
    rintro v H' ⟨hv, rfl⟩
    rw [List.filter_append, clipE_wr, List.append_assoc]
    obtain ⟨Ak, ck, rfl, hAk⟩ := hv.form
    refine sx_heap (shH B most S ++ roE Ak (LI.kcells L)) ((HLe.swap (roE Ak (LI.kcells L)) (shH B most S)).trans (clip_roE (shH B most S) hv)) ?_
    first | refine sx_len Try.underlying42 rfl rfl ?_ | refine sx_lenS Try.underlying42 rfl rfl ?_
    refine sx_move rfl rfl ?_
    refine sx_nil (hZ _ _ ?_)
    refine awp_forget [(0, _), (5, _), (6, _), (7, _)] (Kn.cons rfl (Kn.cons rfl (Kn.cons rfl (Kn.cons rfl (Kn.nil))))) ?_
    refine awp_block ?_
    refine awp_loop (ι := Nat × LI.CS) (fun i => [(0, ptr B.g 0), (5, .slice Ak L.length ck), (6, iq (L.length : Nat)), (7, iq (i.1 : Nat))]) (fun i => shH B most { S with s := i.2 } ++ roE Ak (LI.kcells L))
      (fun i => i.1 ≤ L.length ∧ LI.Rep i.2 (L.drop i.1)) (fun i => L.length - i.1) (0, S.s) ⟨by simp, hS.rep⟩ (Kn.cons rfl (Kn.cons rfl (Kn.cons rfl (Kn.cons rfl Kn.nil)))) (HLe.refl _) ?_
    rintro ⟨i, c⟩ ⟨hi, hR⟩
    simp only at hi hR

    refine awp_seq_region (fun Z hZ => ?_)
    first | refine sx_lss rfl rfl rfl ?_ | refine sx_slss rfl rfl rfl ?_
    refine sx_nil (hZ _ _ ?_)
    refine awp_forget [(0, _), (5, _), (6, _), (7, _), (8, _)] (Kn.cons rfl (Kn.cons rfl (Kn.cons rfl (Kn.cons rfl (Kn.cons rfl (Kn.nil)))))) ?_
    first | refine awp_cond rfl (fun h => ?_) (fun h => ?_) | refine awp_seq (awp_cond rfl (fun h => ?_) (fun h => ?_))
    · have hlt : i < L.length := by simpa using h
      obtain ⟨x, hx⟩ : ∃ x, L[i]? = some x := ⟨_, List.getElem?_eq_getElem hlt⟩
      obtain ⟨gk, ok, rfl⟩ := hAk.some (by omega)
      have hrk : rdV true 2 (LI.kcells L) (i * 2) = some (.agg #[uq x.1.1, uq x.1.2]) := fm_rd LI.kcell_len hx
      have hdrop : L.drop i = x :: L.drop (i + 1) := by
        rw [List.drop_eq_getElem_cons hlt, (List.getElem?_eq_some_iff.1 hx).2]
      rw [hdrop] at hR
      have hdr := LI.drop_fn B.cg B.cb most c _ x.1 hR
      have h1 : LI.rDrop (x :: L.drop (i + 1)) x.1 = L.drop (i + 1) := hR.drop (i := 0) (k := x.1) (v := x.2) rfl
      rw [h1] at hdr
      refine awp_skip ?_
      repeat (with_reducible (first | refine nx_block_normal ?_ | refine nx_scope_normal ?_))
      with_reducible first | refine nx_normal ?_ | refine nx_normalM ?_
      refine awp_seq (awp_block ?_)

      refine awp_seq_region (fun Z hZ => ?_)
      refine sx_indexAddr (ok + i * 2) Try.underlying42 tyS47 rfl rfl (by omega) (by simp) rfl ?_
      refine sx_loadRo 4 rfl rfl (i * 2) rfl tyA47 tyS47 hrk rfl ?_
      refine sx_alloc tyZ47 rfl (fun g1 => ?_)
      first | refine sx_store 0 rfl rfl rfl tyS47 (by first | (simp only [Value.cells]; first | done | rfl) | rfl) rfl rfl (by first | (simp only [List.length_cons, List.length_nil, Nat.reduceAdd, Nat.zero_add, Nat.add_zero]; first | done | rfl) | rfl) (by first | (simp only [List.take_succ_cons, List.take_zero, List.drop_succ_cons, List.drop_zero, List.cons_append, List.nil_append, List.append_nil, List.length_cons, List.length_nil, Nat.reduceAdd, Nat.zero_add, Nat.add_zero, Value.cells, wrV]; first | done | rfl) | rfl) (by first | (simp only [List.set_cons_succ, List.set_cons_zero]; first | done | rfl) | rfl) ?_ | refine sx_store 1 rfl rfl rfl tyS47 (by first | (simp only [Value.cells]; first | done | rfl) | rfl) rfl rfl (by first | (simp only [List.length_cons, List.length_nil, Nat.reduceAdd, Nat.zero_add, Nat.add_zero]; first | done | rfl) | rfl) (by first | (simp only [List.take_succ_cons, List.take_zero, List.drop_succ_cons, List.drop_zero, List.cons_append, List.nil_append, List.append_nil, List.length_cons, List.length_nil, Nat.reduceAdd, Nat.zero_add, Nat.add_zero, Value.cells, wrV]; first | done | rfl) | rfl) (by first | (simp only [List.set_cons_succ, List.set_cons_zero]; first | done | rfl) | rfl) ?_ | refine sx_store 2 rfl rfl rfl tyS47 (by first | (simp only [Value.cells]; first | done | rfl) | rfl) rfl rfl (by first | (simp only [List.length_cons, List.length_nil, Nat.reduceAdd, Nat.zero_add, Nat.add_zero]; first | done | rfl) | rfl) (by first | (simp only [List.take_succ_cons, List.take_zero, List.drop_succ_cons, List.drop_zero, List.cons_append, List.nil_append, List.append_nil, List.length_cons, List.length_nil, Nat.reduceAdd, Nat.zero_add, Nat.add_zero, Value.cells, wrV]; first | done | rfl) | rfl) (by first | (simp only [List.set_cons_succ, List.set_cons_zero]; first | done | rfl) | rfl) ?_ | refine sx_store 3 rfl rfl rfl tyS47 (by first | (simp only [Value.cells]; first | done | rfl) | rfl) rfl rfl (by first | (simp only [List.length_cons, List.length_nil, Nat.reduceAdd, Nat.zero_add, Nat.add_zero]; first | done | rfl) | rfl) (by first | (simp only [List.take_succ_cons, List.take_zero, List.drop_succ_cons, List.drop_zero, List.cons_append, List.nil_append, List.append_nil, List.length_cons, List.length_nil, Nat.reduceAdd, Nat.zero_add, Nat.add_zero, Value.cells, wrV]; first | done | rfl) | rfl) (by first | (simp only [List.set_cons_succ, List.set_cons_zero]; first | done | rfl) | rfl) ?_ | refine sx_store 4 rfl rfl rfl tyS47 (by first | (simp only [Value.cells]; first | done | rfl) | rfl) rfl rfl (by first | (simp only [List.length_cons, List.length_nil, Nat.reduceAdd, Nat.zero_add, Nat.add_zero]; first | done | rfl) | rfl) (by first | (simp only [List.take_succ_cons, List.take_zero, List.drop_succ_cons, List.drop_zero, List.cons_append, List.nil_append, List.append_nil, List.length_cons, List.length_nil, Nat.reduceAdd, Nat.zero_add, Nat.add_zero, Value.cells, wrV]; first | done | rfl) | rfl) (by first | (simp only [List.set_cons_succ, List.set_cons_zero]; first | done | rfl) | rfl) ?_ | refine sx_store 5 rfl rfl rfl tyS47 (by first | (simp only [Value.cells]; first | done | rfl) | rfl) rfl rfl (by first | (simp only [List.length_cons, List.length_nil, Nat.reduceAdd, Nat.zero_add, Nat.add_zero]; first | done | rfl) | rfl) (by first | (simp only [List.take_succ_cons, List.take_zero, List.drop_succ_cons, List.drop_zero, List.cons_append, List.nil_append, List.append_nil, List.length_cons, List.length_nil, Nat.reduceAdd, Nat.zero_add, Nat.add_zero, Value.cells, wrV]; first | done | rfl) | rfl) (by first | (simp only [List.set_cons_succ, List.set_cons_zero]; first | done | rfl) | rfl) ?_
      refine sx_nil (hZ _ _ ?_)
      refine awp_forget [(0, _), (3, _), (5, _), (6, _), (7, _)] (Kn.cons rfl (Kn.cons rfl (Kn.cons rfl (Kn.cons rfl (Kn.cons rfl (Kn.nil)))))) ?_
      refine aww_region _ [(0, true), (1, true), (2, true), (3, true), (4, true), (5, false)] mixed (by kernel_rfl) (HLe.pick [0, 1] (by simp) (by simp only [pick, List.filterMap_cons, List.filterMap_nil, List.getElem?_cons_succ, List.getElem?_cons_zero]; rfl)) (fun Z hZ => ?_)
      refine tw_p rfl ?_
      refine sv_move rfl rfl ?_
      refine sv_nil ?_
      refine tw_p rfl ?_
      refine sv_nilCheck rfl rfl ?_
      refine sv_nil ?_
      refine tw_p rfl ?_
      refine sv_fieldAddr rfl tyF60_0 (by first | (simp only [Nat.reduceAdd, Nat.add_zero, Nat.zero_add]; first | done | rfl) | rfl) rfl ?_
      refine sv_nil ?_
      refine tw_p rfl ?_
      first | refine sv_load 0 rfl rfl tyA55 tyS55 rfl rfl ?_ | refine sv_load 1 rfl rfl tyA55 tyS55 rfl rfl ?_
      refine sv_nil ?_
      refine tw_p rfl ?_
      first | refine sv_loadA 0 rfl rfl tyA47 tyS47 (by first | (simp only [List.length_cons, List.length_nil, Nat.reduceAdd, Nat.zero_add, Nat.add_zero]; first | done | rfl) | rfl) (by first | (simp only [List.take_succ_cons, List.take_zero, List.drop_succ_cons, List.drop_zero, List.cons_append, List.nil_append, List.append_nil, List.length_cons, List.length_nil, Nat.reduceAdd, Nat.zero_add, Nat.add_zero, Value.cells, wrV]; first | done | rfl) | rfl) rfl ?_ | refine sv_loadA 1 rfl rfl tyA47 tyS47 (by first | (simp only [List.length_cons, List.length_nil, Nat.reduceAdd, Nat.zero_add, Nat.add_zero]; first | done | rfl) | rfl) (by first | (simp only [List.take_succ_cons, List.take_zero, List.drop_succ_cons, List.drop_zero, List.cons_append, List.nil_append, List.append_nil, List.length_cons, List.length_nil, Nat.reduceAdd, Nat.zero_add, Nat.add_zero, Value.cells, wrV]; first | done | rfl) | rfl) rfl ?_
      refine sv_nil ?_
      refine tw_g rfl ?_
      refine sx_callA (LI.cacheH B.cg B.cb most c) [] [_, _, _, _] (by rw [List.append_nil]; exact hdr) rfl (HLe.pick [3, 4, 0, 1, 2, 5] (by simp) rfl) (List.nil_sublist _) Ro.nil rfl ?_
      rintro v H' ⟨c', rfl, hR', rfl⟩
      refine sx_heap (_ :: _ :: _ :: (LI.cacheH B.cg B.cb most c' ++ roE (some ⟨gk, ok, none⟩) (LI.kcells L))) (HLe.pick [2, 3, 4, 0, 1, 5] (by simp) rfl) ?_
      refine sx_nil ⟨HLe.pick [0, 1] (by simp) rfl, ?_⟩
      refine tw_nil (hZ _ _ ?_)
      refine nx_forget [(0, _), (5, _), (6, _), (7, _)] (Kn.cons rfl (Kn.cons rfl (Kn.cons rfl (Kn.cons rfl (Kn.nil))))) ?_
      repeat (with_reducible refine nx_block_normal ?_)
      with_reducible refine nx_normal ?_
      refine awp_region (fun Z hZ => ?_)
      refine sx_add rfl rfl ((i + 1 : Nat) : Int) (by rw [IntWalk.i64_in _ (by omega)]; omega) rfl ?_
      refine sx_move rfl rfl ?_
      refine sx_nil (hZ _ _ ?_)
      refine nx_forget [(0, _), (5, _), (6, _), (7, _)] (Kn.cons rfl (Kn.cons rfl (Kn.cons rfl (Kn.cons rfl (Kn.nil))))) ?_
      exact nx_round (i + 1, c') ⟨by omega, hR'⟩ (by simp; omega) (Kn.cons rfl (Kn.cons rfl (Kn.cons rfl (Kn.cons rfl Kn.nil)))) (HLe.pick [1, 2, 3, 4, 5] (by simp) rfl)
    · refine awp_exit ?_
      repeat (with_reducible (first | refine nx_then_exit ?_ | refine nx_block_other (by decide) ?_ | refine nx_scope_exit ?_))
      with_reducible refine nx_block_exit ?_
      repeat (with_reducible (first | refine nx_block_normal ?_ | refine nx_scope_normal ?_))
      have hke : i = L.length := by simp at h; omega
      subst hke
      rw [List.drop_length] at hR
      exact nx_cut c hR (Kn.cons rfl Kn.nil) (HLe.sub (List.sublist_append_left _ _))
  intro c hc

  refine awp_seq_region (fun Z hZ => ?_)
  refine sx_move rfl rfl ?_
  refine sx_ptrNeNil Try.underlying23 rfl rfl ?_
  refine sx_nil (hZ _ _ ?_)
  refine awp_forget [(0, _), (19, _)] (Kn.cons rfl (Kn.cons rfl (Kn.nil))) ?_
  first | refine awp_cond rfl (fun h => ?_) (fun h => ?_) | refine awp_seq (awp_cond rfl (fun h => ?_) (fun h => ?_))
  · refine awp_region (fun Z hZ => ?_)
    refine sx_move rfl rfl ?_
    refine sx_nilCheck rfl rfl ?_
    refine sx_fieldAddr rfl tyF60_1 (by first | (simp only [Nat.reduceAdd, Nat.add_zero, Nat.zero_add]; first | done | rfl) | rfl) rfl ?_
    first | refine sx_load 0 rfl rfl tyA58 tyS58 rfl rfl ?_ | refine sx_load 1 rfl rfl tyA58 tyS58 rfl rfl ?_ | refine sx_load 2 rfl rfl tyA58 tyS58 rfl rfl ?_ | refine sx_load 3 rfl rfl tyA58 tyS58 rfl rfl ?_
    refine sx_clearW 1 Try.underlying58 rfl rfl rfl ?_
    refine sx_nil (hZ _ _ ?_)
    refine nx_forget [] (Kn.nil) ?_
    exact nx_end0h (shH B most { S with s := c, M := [] }) rfl (HLe.refl _) ⟨_, rfl, rfl, sh_none [] hc, rfl, rfl, rfl⟩
  · cases h
/-- Rows of one's own that may be read on. -/
def Turn (W T1 : Heap) : Prop := Ro T1 ∧ ∀ Y Z, HLe (Y ++ (T1 ++ Z)) (Y ++ (W ++ Z))
theorem Turn.nil : Turn [] [] := ⟨Ro.nil, fun _ _ => HLe.refl _⟩
theorem Turn.append {W T1 W2 T2 : Heap} (h : Turn W T1) (k : Turn W2 T2) : Turn (W2 ++ W) (T2 ++ T1) := ⟨k.1.append h.1, fun Y Z => by
  rw [List.append_assoc, List.append_assoc]
  refine (k.2 Y (T1 ++ Z)).trans ?_
  have := h.2 (Y ++ W2) Z
  rw [List.append_assoc, List.append_assoc] at this
  exact this⟩
/-- What has been gone through has its row in the new map. -/
def Went (es : Array MapEntry) (seen : Array Nat) (M M' : List (Nat × Rw)) : Prop :=
  ∀ e ∈ es.toList, seen.contains e.born = true → ∀ (k : Nat) (r : Rw), aget M k = some r → e.key = iq k → ∃ r', aget M' k = some r' ∧ r'.L = r.L
theorem iq_inj {a b : Nat} (h : iq (a : Nat) = iq (b : Nat)) : a = b := by
  have : (a : Int) = b := by injection h
  omega
theorem born_inj {es : Array MapEntry} {clock : Nat} (h : Stamped es clock) {e e' : MapEntry} (he : e ∈ es.toList) (he' : e' ∈ es.toList) (hb : e.born = e'.born) : e = e' := by
  obtain ⟨i, hi⟩ := List.mem_iff_getElem?.1 he
  obtain ⟨j, hj⟩ := List.mem_iff_getElem?.1 he'
  have hij : i = j := (List.getElem?_inj (by simpa using (List.getElem?_eq_some_iff.1 hi).1) h.2).1 (by simp only [List.getElem?_map, hi, hj, Option.map_some, hb])
  subst hij
  rw [hi] at hj
  exact Option.some.inj hj
theorem went0 (es : Array MapEntry) (M M' : List (Nat × Rw)) : Went es #[] M M' := fun e _ h => by simp at h
theorem Went.push {es : Array MapEntry} {clock : Nat} {seen : Array Nat} {M M' : List (Nat × Rw)} (h : Went es seen M M') (hst : Stamped es clock) {e : MapEntry} (he : e ∈ es.toList) {k : Nat} {r r' : Rw} (hk : e.key = iq k) (hr : aget M k = some r) (hr' : r'.L = r.L) :
    Went es (seen.push e.born) M (aput M' k r') := fun e2 he2 hs k2 r2 hk2 hkey => by
  rw [contains_push, Bool.or_eq_true] at hs
  rw [aget_put]
  by_cases hkk : k = k2
  · subst hkk
    rw [hr] at hk2
    exact ⟨r', if_pos rfl, by rw [← Option.some.inj hk2]; exact hr'⟩
  · rw [if_neg hkk]
    rcases hs with hs | hs
    · exact h e2 he2 hs k2 r2 hk2 hkey
    · have : e2 = e := born_inj hst he2 he (by simpa using hs)
      subst this
      exact absurd (iq_inj (hk.symm.trans hkey)) hkk
theorem es_of {es : Array MapEntry} {M : List (Nat × Rw)} (h : es.toList.map (fun e : MapEntry => (e.key, e.val)) = M.map (fun x => ((fun k : Nat => iq k) x.1, encR x.2))) {e : MapEntry} (he : e ∈ es.toList) : ∃ k r, (k, r) ∈ M ∧ e.key = iq k ∧ e.val = encR r := by
  have : (e.key, e.val) ∈ es.toList.map (fun e : MapEntry => (e.key, e.val)) := List.mem_map.2 ⟨e, he, rfl⟩
  rw [h] at this
  obtain ⟨x, hx, h2⟩ := List.mem_map.1 this
  injection h2 with h3 h4
  exact ⟨x.1, x.2, hx, h3.symm, h4.symm⟩
theorem of_es {es : Array MapEntry} {M : List (Nat × Rw)} (h : es.toList.map (fun e : MapEntry => (e.key, e.val)) = M.map (fun x => ((fun k : Nat => iq k) x.1, encR x.2))) {k : Nat} {r : Rw} (hk : (k, r) ∈ M) : ∃ e ∈ es.toList, e.key = iq k := by
  have : (iq (k : Nat), encR r) ∈ M.map (fun x => ((fun k : Nat => iq k) x.1, encR x.2)) := List.mem_map.2 ⟨_, hk, rfl⟩
  rw [← h] at this
  obtain ⟨e, he, h2⟩ := List.mem_map.1 this
  injection h2 with h3 h4
  exact ⟨e, he, h3⟩
theorem aget_mem {M : List (Nat × Rw)} {k : Nat} {r : Rw} (h : aget M k = some r) : (k, r) ∈ M := by
  rcases at_key M k with ⟨_, h2, _⟩ | ⟨M1, x, M2, e, _, h2, _⟩
  · rw [h2] at h; cases h
  · rw [h2] at h
    rw [e, Option.some.inj h]
    simp
theorem mem_aget {M : List (Nat × Rw)} (hn : (akeys M).Nodup) {k : Nat} {r : Rw} (h : (k, r) ∈ M) : aget M k = some r := by
  rcases at_key M k with ⟨h1, _⟩ | ⟨M1, x, M2, e, h1, h2, _⟩
  · exact absurd (List.mem_map.2 ⟨_, h, rfl⟩) h1
  · rw [h2]
    subst e
    rcases List.mem_append.1 h with h | h
    · exact absurd (List.mem_map.2 ⟨_, h, rfl⟩) h1
    · rcases List.mem_cons.1 h with h | h
      · injection h with _ h; rw [h]
      · have hn2 : (akeys M1 ++ k :: akeys M2).Nodup := by simpa [akeys] using hn
        have := (List.nodup_cons.1 (List.nodup_append.1 hn2).2.1).1
        exact absurd (List.mem_map.2 ⟨_, h, rfl⟩) this
end Go.Proofs.Ytjelakmndcecoaa
