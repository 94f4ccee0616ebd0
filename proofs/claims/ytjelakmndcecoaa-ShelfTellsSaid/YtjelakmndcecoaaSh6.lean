/- The walk of shelf's Fork. No conditions but of lengths. -/
import Derived.Test.YtjelakmndcecoaaSh5
import Derived.Test.YtjelakmndcecoaaSxO
namespace Go.Proofs.Ytjelakmndcecoaa
open Go.RowKit
set_option linter.unusedVariables false
set_option linter.unusedSimpArgs false
set_option maxRecDepth 100000
abbrev forkH (B' : Bk) (nx hi mi most : Nat) (s : LI.CS) (M' : List (Nat × Rw)) (r : Nat) (B : Bk) (es : Array MapEntry) (clock : Nat) (seen : Array Nat) : Heap :=
  [shelfE B' nx hi mi, rowsE B'.b M', iterE r B.b clock seen, shelfE B nx hi mi, mapX B.b es clock] ++ (LI.cacheH B'.cg B'.cb most s ++ LI.cacheH B.cg B.cb most s)
structure FkI (es : Array MapEntry) (M M' : List (Nat × Rw)) (seen : Array Nat) (W T1 : Heap) : Prop where
  wrs : Wrs W
  turn : Turn W T1
  went : Went es seen M M'
  has : ∀ n r, aget M' n = some r → Has T1 r ∧ r.L.length ≤ 4096
  mn : (akeys M').Nodup
theorem mapX_mid (X Y : Heap) {b clock : Nat} {es : Array MapEntry} {M : List (Nat × Rw)} (h1 : es.toList.map (fun e : MapEntry => (e.key, e.val)) = M.map (fun x => ((fun k : Nat => iq k) x.1, encR x.2))) (h2 : (akeys M).Nodup) (h3 : Stamped es clock) : HLe (X ++ (rowsE b M :: Y)) (X ++ (mapX b es clock :: Y)) := fun w0 Wr w h => by
  have g := mapX_W (encK := fun k : Nat => iq k) (encV := encR) (r := 0) (b := b) (H := X ++ Y) h1 h2 h3 w0 Wr w (h.perm List.perm_middle)
  exact g.perm List.perm_middle.symm
theorem fork_end (B' B : Bk) (S : Sh) (most r : Nat) (M' : List (Nat × Rw)) (W T : Heap) (seen : Array Nat) {es : Array MapEntry} {clock : Nat} (h1 : es.toList.map (fun e : MapEntry => (e.key, e.val)) = S.M.map (fun x => ((fun k : Nat => iq k) x.1, encR x.2))) (h2 : (akeys S.M).Nodup) (h3 : Stamped es clock) :
    HLe (shH B' most ⟨S.s, M', S.nx, S.hi, S.mi⟩ ++ (W ++ shH B most S)) (forkH B' S.nx S.hi S.mi most S.s M' r B es clock seen ++ (W ++ T)) := by
  refine HLe.trans (b := [shelfE B' S.nx S.hi S.mi, rowsE B'.b M', shelfE B S.nx S.hi S.mi] ++ (rowsE B.b S.M :: (LI.cacheH B'.cg B'.cb most S.s ++ (LI.cacheH B.cg B.cb most S.s ++ W)))) ?_ ?_
  · refine fun _ _ _ hw => hw.perm (List.Perm.cons _ (List.Perm.cons _ ?_))
    refine (List.perm_append_comm_assoc [shelfE B S.nx S.hi S.mi, rowsE B.b S.M] (LI.cacheH B'.cg B'.cb most S.s) (LI.cacheH B.cg B.cb most S.s ++ W)).trans ?_
    exact List.Perm.append_left (LI.cacheH B'.cg B'.cb most S.s) (List.perm_append_comm (l₁ := shH B most S) (l₂ := W))
  · refine (mapX_mid [shelfE B' S.nx S.hi S.mi, rowsE B'.b M', shelfE B S.nx S.hi S.mi] _ h1 h2 h3).trans (HLe.sub ?_)
    exact .cons_cons _ (.cons_cons _ (.cons _ (.cons_cons _ (.cons_cons _ (.cons_cons _ (.cons_cons _ (.cons_cons _ (.cons_cons _ (List.sublist_append_left W T)))))))))
theorem shfork_fn (B : Bk) (most : Nat) (S : Sh) (X : List Item) (T : Heap) (hT : Ro T) (hS : ShIs most S X T) :
    Fn Try.prog 19 [ptr B.g 0] (shH B most S ++ T)
    fun v H' => ∃ B' S' W T1, v = ptr B'.g 0 ∧ H' = shH B' most S' ++ (W ++ shH B most S) ∧ Wrs W ∧ Turn W T1 ∧ ShIs most S' X T1 ∧ S'.nx = S.nx ∧ S'.hi = S.hi ∧ S'.mi = S.mi := by
  obtain ⟨L, tx, hS⟩ := hS
  refine Fn.enter (N := 46) Try.func19 rfl (by kernel_rfl) rfl (fun w0 => ?_)

  refine awp_seq_region (fun Z hZ => ?_)
  refine sx_assign rfl rfl ?_
  refine sx_nil (hZ _ _ ?_)
  refine awp_forget [(0, _)] (Kn.cons rfl (Kn.nil)) ?_
  refine awp_seq ?_
  refine awp_seq_region (fun Z hZ => ?_)
  refine sx_move rfl rfl ?_
  refine sx_ptrNil Try.underlying23 rfl rfl ?_
  refine sx_nil (hZ _ _ ?_)
  refine awp_forget [(0, _), (7, _)] (Kn.cons rfl (Kn.cons rfl (Kn.nil))) ?_
  first | refine awp_cond rfl (fun h => ?_) (fun h => ?_) | refine awp_seq (awp_cond rfl (fun h => ?_) (fun h => ?_))
  · cases h
  refine awp_skip ?_
  repeat (with_reducible (first | refine nx_block_normal ?_ | refine nx_scope_normal ?_))
  with_reducible first | refine nx_normal ?_ | refine nx_normalM ?_
  refine awr_seq_region (fun j : Bk => [(0, ptr B.g 0), (3, ptr j.g 0)]) (fun j => shelfE j S.nx S.hi S.mi :: rowsE j.b [] :: shelfE B S.nx S.hi S.mi :: rowsE B.b S.M :: (LI.cacheH j.cg j.cb most S.s ++ (LI.cacheH B.cg B.cb most S.s ++ T))) (fun j => True) _ [4, 5, 19] (Tr.step (0, true) (Tr.step (1, true) (Tr.step (2, true) (Tr.step (3, true) (Tr.step (6, true) (Tr.step (7, true) (Tr.step (8, true) (Tr.step (9, true) (Tr.step (10, true) (Tr.step (11, true) (Tr.step (12, true) (Tr.step (13, true) (Tr.step (14, true) (Tr.step (15, true) (Tr.step (16, true) (Tr.step (17, true) (Tr.fork (Tr.step (4, false) (Tr.step (5, false) (Tr.step (18, true) (Tr.step (19, false) (Tr.step (20, true) Tr.nil))))) (Tr.step (5, false) (Tr.step (4, false) (Tr.step (18, true) (Tr.step (19, false) (Tr.step (20, true) Tr.nil)))))))))))))))))))))) mixed (by kernel_rfl) (HLe.pick [0] (by simp) (by simp only [pick, List.filterMap_cons, List.filterMap_nil, List.getElem?_cons_succ, List.getElem?_cons_zero]; rfl)) ?_ ?_
  · refine tt_p rfl ?_
    refine sv_move rfl rfl ?_
    refine sv_nil ?_
    refine tt_p rfl ?_
    refine sv_nilCheck rfl rfl ?_
    refine sv_nil ?_
    refine tt_p rfl ?_
    refine sv_fieldAddr rfl tyF60_0 (by first | (simp only [Nat.reduceAdd, Nat.add_zero, Nat.zero_add]; first | done | rfl) | rfl) rfl ?_
    refine sv_nil ?_
    refine tt_p rfl ?_
    first | refine sv_load 0 rfl rfl tyA55 tyS55 rfl rfl ?_
    refine sv_nil ?_
    refine tt_p rfl ?_
    refine sv_move rfl rfl ?_
    refine sv_nil ?_
    refine tt_p rfl ?_
    refine sv_nilCheck rfl rfl ?_
    refine sv_nil ?_
    refine tt_p rfl ?_
    refine sv_fieldAddr rfl tyF60_2 (by first | (simp only [Nat.reduceAdd, Nat.add_zero, Nat.zero_add]; first | done | rfl) | rfl) rfl ?_
    refine sv_nil ?_
    refine tt_p rfl ?_
    first | refine sv_load 0 rfl rfl tyA3 tyS3 rfl rfl ?_
    refine sv_nil ?_
    refine tt_p rfl ?_
    refine sv_move rfl rfl ?_
    refine sv_nil ?_
    refine tt_p rfl ?_
    refine sv_nilCheck rfl rfl ?_
    refine sv_nil ?_
    refine tt_p rfl ?_
    refine sv_fieldAddr rfl tyF60_3 (by first | (simp only [Nat.reduceAdd, Nat.add_zero, Nat.zero_add]; first | done | rfl) | rfl) rfl ?_
    refine sv_nil ?_
    refine tt_p rfl ?_
    first | refine sv_load 0 rfl rfl tyA3 tyS3 rfl rfl ?_
    refine sv_nil ?_
    refine tt_p rfl ?_
    refine sv_move rfl rfl ?_
    refine sv_nil ?_
    refine tt_p rfl ?_
    refine sv_nilCheck rfl rfl ?_
    refine sv_nil ?_
    refine tt_p rfl ?_
    refine sv_fieldAddr rfl tyF60_4 (by first | (simp only [Nat.reduceAdd, Nat.add_zero, Nat.zero_add]; first | done | rfl) | rfl) rfl ?_
    refine sv_nil ?_
    refine tt_p rfl ?_
    first | refine sv_load 0 rfl rfl tyA3 tyS3 rfl rfl ?_
    refine sv_nil ?_
    refine tt_fork ?_ ?_
    · refine tt_g rfl ?_
      first | refine sx_callA (LI.cacheH B.cg B.cb most S.s) [] (_ :: _ :: T) (by rw [List.append_nil]; exact LI.fork_fn B.cg B.cb most S.s) rfl (HLe.pickT (A := [_, _, _, _]) [2, 3, 0, 1] (by simp) rfl hT) (List.nil_sublist _) Ro.nil rfl ?_ | refine sx_callA (LI.cacheH B.cg B.cb most S.s) [] (_ :: _ :: _ :: T) (by rw [List.append_nil]; exact LI.fork_fn B.cg B.cb most S.s) rfl (HLe.pickT (A := [_, _, _, _, _]) [3, 4, 0, 1, 2] (by simp) rfl hT) (List.nil_sublist _) Ro.nil rfl ?_
      rintro v H' ⟨cg, cb, rfl, rfl⟩
      first | refine sx_heap (shelfE B S.nx S.hi S.mi :: _ :: (LI.cacheH cg cb most S.s ++ (LI.cacheH B.cg B.cb most S.s ++ T))) (HLe.pickT (A := [_, _, _, _, _, _]) [4, 5, 0, 1, 2, 3] (by simp) rfl hT) ?_ | refine sx_heap (_ :: shelfE B S.nx S.hi S.mi :: _ :: (LI.cacheH cg cb most S.s ++ (LI.cacheH B.cg B.cb most S.s ++ T))) (HLe.pickT (A := [_, _, _, _, _, _, _]) [4, 5, 6, 0, 1, 2, 3] (by simp) rfl hT) ?_
      refine sx_nil ⟨HLe.pick [0] (by simp) rfl, ?_⟩
      refine tt_g rfl ?_
      refine sx_makeMapW rfl (fun k : Nat => iq k) encR (fun b2 => ?_)
      refine sx_nil ⟨HLe.pick [1] (by simp) rfl, ?_⟩
      refine tt_p rfl ?_
      refine sv_build tyZ60 tyP60 rfl rfl (by first | (simp only [List.take_succ_cons, List.take_zero, List.drop_succ_cons, List.drop_zero, List.cons_append, List.nil_append, List.append_nil, List.length_cons, List.length_nil, Nat.reduceAdd, Nat.zero_add, Nat.add_zero, Value.cells, wrV, zrep_one, List.replicate_succ, List.replicate_zero, Nat.reduceMul, Nat.zero_mul]; first | done | rfl) | rfl) rfl ?_
      refine sv_nil ?_
      refine tt_g rfl ?_
      refine sx_box rfl rfl rfl (fun g1 => ?_)
      refine sx_nil ⟨HLe.pick [2] (by simp) rfl, ?_⟩
      refine tt_p rfl ?_
      refine sv_assign rfl rfl ?_
      refine sv_nil ?_
      refine tt_nil ?_
      exact ⟨⟨g1, b2, cg, cb⟩, trivial, Kn.cons rfl (Kn.cons rfl Kn.nil), HLe.refl _⟩
    · refine tt_g rfl ?_
      refine sx_makeMapW rfl (fun k : Nat => iq k) encR (fun b2 => ?_)
      refine sx_nil ⟨HLe.pick [1] (by simp) rfl, ?_⟩
      refine tt_g rfl ?_
      first | refine sx_callA (LI.cacheH B.cg B.cb most S.s) [] (_ :: _ :: T) (by rw [List.append_nil]; exact LI.fork_fn B.cg B.cb most S.s) rfl (HLe.pickT (A := [_, _, _, _]) [2, 3, 0, 1] (by simp) rfl hT) (List.nil_sublist _) Ro.nil rfl ?_ | refine sx_callA (LI.cacheH B.cg B.cb most S.s) [] (_ :: _ :: _ :: T) (by rw [List.append_nil]; exact LI.fork_fn B.cg B.cb most S.s) rfl (HLe.pickT (A := [_, _, _, _, _]) [3, 4, 0, 1, 2] (by simp) rfl hT) (List.nil_sublist _) Ro.nil rfl ?_
      rintro v H' ⟨cg, cb, rfl, rfl⟩
      first | refine sx_heap (shelfE B S.nx S.hi S.mi :: _ :: (LI.cacheH cg cb most S.s ++ (LI.cacheH B.cg B.cb most S.s ++ T))) (HLe.pickT (A := [_, _, _, _, _, _]) [4, 5, 0, 1, 2, 3] (by simp) rfl hT) ?_ | refine sx_heap (_ :: shelfE B S.nx S.hi S.mi :: _ :: (LI.cacheH cg cb most S.s ++ (LI.cacheH B.cg B.cb most S.s ++ T))) (HLe.pickT (A := [_, _, _, _, _, _, _]) [4, 5, 6, 0, 1, 2, 3] (by simp) rfl hT) ?_
      refine sx_nil ⟨HLe.pick [1] (by simp) rfl, ?_⟩
      refine tt_p rfl ?_
      refine sv_build tyZ60 tyP60 rfl rfl (by first | (simp only [List.take_succ_cons, List.take_zero, List.drop_succ_cons, List.drop_zero, List.cons_append, List.nil_append, List.append_nil, List.length_cons, List.length_nil, Nat.reduceAdd, Nat.zero_add, Nat.add_zero, Value.cells, wrV, zrep_one, List.replicate_succ, List.replicate_zero, Nat.reduceMul, Nat.zero_mul]; first | done | rfl) | rfl) rfl ?_
      refine sv_nil ?_
      refine tt_g rfl ?_
      refine sx_box rfl rfl rfl (fun g1 => ?_)
      refine sx_nil ⟨HLe.pick [2] (by simp) rfl, ?_⟩
      refine tt_p rfl ?_
      refine sv_assign rfl rfl ?_
      refine sv_nil ?_
      refine tt_nil ?_
      exact ⟨⟨g1, b2, cg, cb⟩, trivial, Kn.cons rfl (Kn.cons rfl Kn.nil), HLe.refl _⟩
  rintro B' -
  refine awp_cut (ι := List (Nat × Rw) × Heap × Heap) (fun i => [(3, ptr B'.g 0)]) (fun i => shH B' most ⟨S.s, i.1, S.nx, S.hi, S.mi⟩ ++ (i.2.1 ++ shH B most S)) (fun i => Wrs i.2.1 ∧ Turn i.2.1 i.2.2 ∧ ShIs most ⟨S.s, i.1, S.nx, S.hi, S.mi⟩ X i.2.2) ?_ ?_
  · skip
    refine awp_seq_region (fun Z hZ => ?_)
    refine sx_move rfl rfl ?_
    refine sx_nilCheck rfl rfl ?_
    refine sx_fieldAddr rfl tyF60_1 (by first | (simp only [Nat.reduceAdd, Nat.add_zero, Nat.zero_add]; first | done | rfl) | rfl) rfl ?_
    first | refine sx_load 0 rfl rfl tyA58 tyS58 rfl rfl ?_ | refine sx_load 1 rfl rfl tyA58 tyS58 rfl rfl ?_ | refine sx_load 2 rfl rfl tyA58 tyS58 rfl rfl ?_ | refine sx_load 3 rfl rfl tyA58 tyS58 rfl rfl ?_
    refine sx_rangeW 3 Try.underlying58 rfl rfl rfl (fun r es clock hes hnd hst => ?_)
    refine sx_nil (hZ _ _ ?_)
    refine awp_forget [(3, _), (32, _)] (Kn.cons rfl (Kn.cons rfl (Kn.nil))) ?_
    refine awp_block ?_
    refine awp_loop (ι := Array Nat × List (Nat × Rw) × Heap × Heap) (fun i => [(3, ptr B'.g 0), (32, ptr r 0)]) (fun i => forkH B' S.nx S.hi S.mi most S.s i.2.1 r B es clock i.1 ++ (i.2.2.1 ++ T))
      (fun i => FkI es S.M i.2.1 i.1 i.2.2.1 i.2.2.2) (fun i => (leftOf es i.1).size) (#[], [], [], []) ⟨Wrs.nil, Turn.nil, went0 _ _ _, fun n r h => by simp [aget] at h, List.nodup_nil⟩ (Kn.cons rfl (Kn.cons rfl Kn.nil)) (HLe.pickT (A := [_, _, _, _, _, _, _, _, _]) [1, 2, 0, 3, 4, 5, 6, 7, 8] (by simp) rfl hT) ?_
    rintro ⟨seen, M', W, T1⟩ hI
    simp only at hI

    refine awp_seq_region (fun Z hZ => ?_)
    refine sx_nextW 4 2 rfl rfl rfl hst rfl (fun bb more H' hn1 hn2 => ?_)
    refine sx_extract rfl rfl rfl ?_
    refine sx_nil (hZ _ _ ?_)
    refine awp_forget [(3, _), (32, _), (34, _)] (Kn.cons rfl (Kn.cons rfl (Kn.cons rfl (Kn.nil)))) ?_
    first | refine awp_cond rfl (fun h => ?_) (fun h => ?_) | refine awp_seq (awp_cond rfl (fun h => ?_) (fun h => ?_))
    · subst h
      obtain ⟨e, he, rfl⟩ := hn2 rfl
      obtain ⟨he1, he2⟩ := mem_left he
      have hsm := left_shrinks es seen e he
      obtain ⟨k, rr, hmem, hkey, hval⟩ := es_of hes he1
      have hag := mem_aget hnd hmem
      obtain ⟨⟨hsl, hsub⟩, hr4⟩ := hS.has k rr hag
      refine awp_skip ?_
      repeat (with_reducible (first | refine nx_block_normal ?_ | refine nx_scope_normal ?_))
      with_reducible first | refine nx_normal ?_ | refine nx_normalM ?_
      refine awp_block ?_
      refine awp_heap (forkH B' S.nx S.hi S.mi most S.s M' r B es clock (seen.push e.born) ++ (W ++ T)) (HLe.refl _) ?_

      refine awp_seq_region (fun Z hZ => ?_)
      refine sx_entryW 4 2 rfl rfl rfl he1 hst rfl ?_
      rw [hkey, hval]
      refine sx_extract rfl rfl rfl ?_
      refine sx_extract rfl rfl rfl ?_
      refine sx_assign rfl rfl ?_
      refine sx_assign rfl rfl ?_
      refine sx_nil (hZ _ _ ?_)
      refine awp_forget [(3, _), (4, _), (5, _), (32, _)] (Kn.cons rfl (Kn.cons rfl (Kn.cons rfl (Kn.cons rfl (Kn.nil))))) ?_
      have hcl := clone_fn rr.a rr.c rr.L (roE rr.a (ecells rr.L)) hsl.arg (fun _ => rfl) hsl.nil (Ro.roE _ _) (by omega)
      refine aww_region _ [(0, true), (1, true), (2, true), (3, true), (4, true), (5, true), (6, false), (7, false)] mixed (by kernel_rfl) (HLe.pick [0] (by simp) (by simp only [pick, List.filterMap_cons, List.filterMap_nil, List.getElem?_cons_succ, List.getElem?_cons_zero]; rfl)) (fun Z hZ => ?_)
      refine tw_p rfl ?_
      refine sv_move rfl rfl ?_
      refine sv_nil ?_
      refine tw_p rfl ?_
      refine sv_nilCheck rfl rfl ?_
      refine sv_nil ?_
      refine tw_p rfl ?_
      refine sv_fieldAddr rfl tyF60_1 (by first | (simp only [Nat.reduceAdd, Nat.add_zero, Nat.zero_add]; first | done | rfl) | rfl) rfl ?_
      refine sv_nil ?_
      refine tw_p rfl ?_
      first | refine sv_load 0 rfl rfl tyA58 tyS58 rfl rfl ?_
      refine sv_nil ?_
      refine tw_p rfl ?_
      refine sv_move rfl rfl ?_
      refine sv_nil ?_
      refine tw_p rfl ?_
      refine sv_move rfl rfl ?_
      refine sv_nil ?_
      refine tw_g rfl ?_
      refine sx_callVU (roE rr.a (ecells rr.L)) hcl rfl (HLe.sub ((hsub.trans (List.sublist_append_right W T)).trans (List.sublist_append_right _ _))) (Ro.roE _ _) rfl ?_
      rintro v H' ⟨hv, rfl⟩
      rw [rowE_flt]
      obtain ⟨A2, c2, rfl, hA2, hle2⟩ := hv.ro
      refine sx_heap ([_, _, _, _, _, _, _, _, _] ++ (rowE (.slice A2 rr.L.length c2) 65 4 (ecells rr.L) ++ (W ++ T))) (HLe.comm3 _ _ _) ?_
      refine sx_nil ⟨HLe.pick [0] (by simp) rfl, ?_⟩
      refine tw_g rfl ?_
      refine sx_mapUpdateW 1 keyI Try.underlying58 k ⟨A2, c2, rr.L⟩ rfl rfl rfl rfl rfl ?_
      refine sx_nil ⟨HLe.pick [0] (by simp) rfl, ?_⟩
      refine tw_nil (hZ _ _ ?_)
      refine nx_forget [(3, _), (32, _)] (Kn.cons rfl (Kn.cons rfl (Kn.nil))) ?_
      repeat (with_reducible refine nx_block_normal ?_)
      refine nx_round (seen.push e.born, aput M' k ⟨A2, c2, rr.L⟩, rowE (.slice A2 rr.L.length c2) 65 4 (ecells rr.L) ++ W, roE A2 (ecells rr.L) ++ T1) ⟨Wrs.append (rowE_wrs _ _ _ _) hI.wrs, hI.turn.append ⟨Ro.roE _ _, fun Y Z => hle2 Y Z _ _ _⟩, hI.went.push hst he1 hkey hag rfl, fun n r9 h9 => ?_, nodup_put hI.mn _ _⟩ hsm (Kn.cons rfl (Kn.cons rfl Kn.nil)) (by show HLe (forkH B' S.nx S.hi S.mi most S.s (aput M' k ⟨A2, c2, rr.L⟩) r B es clock (seen.push e.born) ++ ((rowE (.slice A2 rr.L.length c2) 65 4 (ecells rr.L) ++ W) ++ T)) _; rw [List.append_assoc (rowE _ _ _ _) W T]; exact HLe.refl _)
      rw [aget_put] at h9
      split at h9
      · obtain rfl := Option.some.inj h9
        exact ⟨⟨hA2, List.sublist_append_left _ _⟩, hr4⟩
      · exact ⟨(hI.has n r9 h9).1.more _, (hI.has n r9 h9).2⟩
    · subst h
      obtain ⟨hz, rfl⟩ := hn1 rfl
      refine awp_exit ?_
      repeat (with_reducible (first | refine nx_then_exit ?_ | refine nx_block_other (by decide) ?_ | refine nx_scope_exit ?_))
      with_reducible refine nx_block_exit ?_
      repeat (with_reducible (first | refine nx_block_normal ?_ | refine nx_scope_normal ?_))
      refine nx_cut (M', W, T1) ⟨hI.wrs, hI.turn, L, tx, hS.rep, hS.val, hS.len, fun x hx => ?_, hI.has, hS.one, hI.mn⟩ (Kn.cons rfl Kn.nil) (fork_end _ _ _ _ _ _ _ _ _ hes hnd hst)
      obtain ⟨h1, r9, h2, h3⟩ := hS.row x hx
      obtain ⟨e, he, hkey⟩ := of_es hes (aget_mem h2)
      obtain ⟨r', h4, h5⟩ := hI.went e he (all_seen es seen hz e he) _ r9 h2 hkey
      exact ⟨h1, r', h4, h5.trans h3⟩
  rintro ⟨M', W, T1⟩ ⟨hW, hTu, hSh⟩
  simp only at hW hTu hSh ⊢

  refine awp_seq_region (fun Z hZ => ?_)
  refine sx_move rfl rfl ?_
  refine sx_assign rfl rfl ?_
  refine sx_nil (hZ _ _ ?_)
  refine awp_forget [(2, _)] (Kn.cons rfl (Kn.nil)) ?_
  refine awp_ret ?_
  repeat (with_reducible (first | refine nx_then_ret ?_ | refine nx_block_ret ?_ | refine nx_scope_ret ?_))
  exact nx_ret1 rfl rfl ⟨B', _, W, T1, rfl, rfl, hW, hTu, hSh, rfl, rfl, rfl⟩
end Go.Proofs.Ytjelakmndcecoaa
