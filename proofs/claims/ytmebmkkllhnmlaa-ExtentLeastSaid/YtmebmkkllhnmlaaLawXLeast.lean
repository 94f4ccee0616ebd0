/- ExtentLeast. No conditions. -/
import Derived.Test.YtmebmkkllhnmlaaXp9
namespace Go.Proofs.Ytmebmkkllhnmlaa
open Go.RowKit
set_option linter.unusedVariables false
set_option linter.unusedSimpArgs false
set_option maxRecDepth 100000
abbrev b4 (p q r s : Bool) : List Value := [.bool p, .bool q, .bool r, .bool s]
theorem bool4_eq : EqV Try.prog 10000 80 (.agg (b4 true true true true).toArray) (.agg (b4 true true true true).toArray) true := fun w => by kernel_rfl
theorem guard_b4 : Program.eqGuardType Try.prog Try.prog.depth 80 = false := by kernel_rfl
/-- Has one of the zoom's tiles this coordinate? -/
def sdQ (f : It → Nat) (z v : Int) (L : List It) : Bool := L.any fun e => decide ((tz e : Int) = z) && ((f e : Int) == v)
theorem sdQ_snoc (f : It → Nat) (z v : Int) {O : List It} {k : Nat} {e : It} (h : O[k]? = some e) : sdQ f z v (O.take (k + 1)) = (sdQ f z v (O.take k) || (decide ((tz e : Int) = z) && ((f e : Int) == v))) := by
  obtain ⟨hlt, rfl⟩ := List.getElem?_eq_some_iff.1 h
  unfold sdQ
  rw [List.take_succ_eq_append_getElem hlt, List.any_append, List.any_cons, List.any_nil, Bool.or_false]
theorem sdQ_all {f : It → Nat} {z v : Int} {O : List It} (h : ∃ e ∈ O, (tz e : Int) = z ∧ (f e : Int) = v) : sdQ f z v O = true := by
  obtain ⟨e, he, h1, h2⟩ := h
  exact List.any_eq_true.2 ⟨e, he, by simp [h1, h2]⟩
theorem put_ids {L : List It} (hr : Rise L) (k : Nat) (t : List UInt8) : ∀ e ∈ L, e.id ∈ idsI (putQ k t L) := fun e he => by
  by_cases hp : putE k t L = 0
  · have h1 : putQ k t L = cPut k t L := by unfold putQ; rw [if_pos hp]
    rw [h1, put_eq hr]
    unfold rPut idsI
    rw [List.map_append, List.map_cons, List.mem_append, List.mem_cons]
    by_cases hk : e.id = k
    · exact .inr (.inl hk)
    · have hd : e ∈ rDel k L := List.mem_filter.2 ⟨he, by simpa using hk⟩
      rw [← List.take_append_drop (cLo k (rDel k L)) (rDel k L)] at hd
      rcases List.mem_append.1 hd with hd | hd
      · exact .inl (List.mem_map_of_mem hd)
      · exact .inr (.inr (List.mem_map_of_mem hd))
  · rw [putQ_old hp]
    exact List.mem_map_of_mem he
set_option maxHeartbeats 4000000 in
theorem xleast_fn (A : Option Addr) (c : Nat) (L : List It) (T : Heap) (hA : ArgOk A L.length) (hT : 0 < L.length → T = roE A (icells L)) (hro : Ro T) (hL : L.length ≤ maxLen) (hE : ItsTx L) (z : Int) (x : It) (hx : x.tx.length ≤ maxLen) :
    Fn Try.prog 7 [.slice A L.length c, iq z, x.val] T fun v _ => v = .bool true := by
  have o1 := over_fn A c L T hA hT hro hL hE 60 3000 (by decide) (by decide)
  refine Fn.enter (N := 231) Try.func7 rfl (by kernel_rfl) rfl (fun w0 => ?_)

  refine awp_seq_region (fun Z hZ => ?_)
  refine sx_box rfl rfl rfl (fun g1 => ?_)
  refine sx_assign rfl rfl ?_
  refine sx_nil (hZ _ _ ?_)
  refine awp_forget [(0, _), (1, _), (5, _)] (Kn.cons rfl (Kn.cons rfl (Kn.cons rfl (Kn.nil)))) ?_

  refine awp_seq ?_
  refine awp_seq_meet [(0, .slice A L.length c), (1, iq z), (5, ptr g1 0), (30, .bool (decide ((3000 < cBytes L ∨ 60 < L.length) ∨ 300 < x.tx.length)))] (.own g1 78 x.cells :: T) (fun Z hZ => ?_) ?_
  · refine sx_move rfl rfl ?_
    refine sx_callPT T o1 rfl (by repeat (first | exact List.Sublist.refl _ | exact List.nil_sublist _ | exact List.sublist_append_right _ _ | refine List.Sublist.trans ?_ (List.sublist_append_left _ _) | exact List.Sublist.cons_cons _ (List.nil_sublist _) | refine List.Sublist.cons _ ?_)) hro rfl ?_
    refine sx_move rfl rfl ?_
    refine sx_split 25 rfl (fun hb2 => ?_) (fun hb2 => ?_)
    · refine sx_off rfl rfl rfl rfl rfl ?_
      refine sx_off rfl rfl rfl rfl rfl ?_
      refine sx_off rfl rfl rfl rfl rfl ?_
      refine sx_off rfl rfl rfl rfl rfl ?_
      refine sx_pick rfl rfl rfl ?_
      refine sx_nil (hZ _ _ ?_ ?_)
      · exact Kn.cons rfl (Kn.cons rfl (Kn.cons rfl (Kn.cons (congrArg some (congrArg Value.bool (by first | (rw [Bool.eq_iff_iff]; simp only [decide_eq_true_eq, decide_eq_false_iff_not] at hb2 ⊢; omega) | (simp at *; done) | (simp at *; omega)))) Kn.nil)))
      · exact HLe.refl _
    · refine sx_on rfl rfl rfl ?_
      refine sx_fieldAddr rfl tyF78_1 (by first | (simp only [Nat.reduceAdd, Nat.add_zero, Nat.zero_add]; first | done | rfl) | rfl) rfl ?_
      refine sx_on rfl rfl rfl ?_
      first | refine sx_load 0 rfl rfl tyA9 tyS9 rfl rfl ?_
      refine sx_on rfl rfl rfl ?_
      refine sx_lenS Try.underlying9 rfl rfl ?_
      refine sx_on rfl rfl rfl ?_
      refine sx_gtr rfl rfl rfl ?_
      refine sx_pick rfl rfl rfl ?_
      refine sx_nil (hZ _ _ ?_ ?_)
      · exact Kn.cons rfl (Kn.cons rfl (Kn.cons rfl (Kn.cons (congrArg some (congrArg Value.bool (by first | (rw [Bool.eq_iff_iff]; simp only [decide_eq_true_eq, decide_eq_false_iff_not] at hb2 ⊢; omega) | (simp at *; done) | (simp at *; omega)))) Kn.nil)))
      · exact HLe.refl _
  refine awp_cond rfl (fun h => ?_) (fun h => ?_)
  · refine awp_seq_region (fun Z hZ => ?_)
    refine sx_callP x44wake_fn rfl rfl ?_
    refine sx_assign rfl rfl ?_
    refine sx_nil (hZ _ _ ?_)
    refine awp_forget [(6, _)] (Kn.cons rfl (Kn.nil)) ?_
    refine awp_ret ?_
    repeat (with_reducible refine nx_then_ret ?_)
    exact nx_ret1 rfl rfl rfl
  have n1 : cBytes L ≤ 3000 ∧ L.length ≤ 60 ∧ x.tx.length ≤ 300 := by simp at h; omega
  have hok := ownQ_ok L
  refine awp_skip ?_
  with_reducible refine nx_normal ?_
  refine awp_seq_region (fun Z hZ => ?_)
  refine sx_move rfl rfl ?_
  refine sx_ownE L T hA hT hro (by repeat (first | exact List.Sublist.refl _ | exact List.nil_sublist _ | exact List.sublist_append_right _ _ | refine List.Sublist.trans ?_ (List.sublist_append_left _ _) | exact List.Sublist.cons_cons _ (List.nil_sublist _) | refine List.Sublist.cons _ ?_)) (by omega) rfl rfl (fun A1 c1 A2 c2 hA1 hA2 => ?_)
  refine sx_move rfl rfl ?_
  refine sx_extract rfl rfl rfl ?_
  refine sx_extract rfl rfl rfl ?_
  refine sx_alloc tyZ29 rfl (fun g2 => ?_)
  refine sx_store 0 rfl rfl rfl tyS29 (by first | (simp only [Value.cells]; first | done | rfl) | rfl) rfl rfl (by first | (simp only [List.length_cons, List.length_nil, Nat.reduceAdd, Nat.zero_add, Nat.add_zero]; first | done | rfl) | rfl) (by first | (simp only [List.take_succ_cons, List.take_zero, List.drop_succ_cons, List.drop_zero, List.cons_append, List.nil_append, List.append_nil, List.length_cons, List.length_nil, Nat.reduceAdd, Nat.zero_add, Nat.add_zero, Value.cells, wrV]; first | done | rfl) | rfl) (by first | (simp only [List.set_cons_succ, List.set_cons_zero]; first | done | rfl) | rfl) ?_
  refine sx_assign rfl rfl ?_
  refine sx_nil (hZ _ _ ?_)
  refine awp_forget [(1, _), (5, _), (7, _)] (Kn.cons rfl (Kn.cons rfl (Kn.cons rfl (Kn.nil)))) ?_
  obtain ⟨O, hO⟩ : ∃ O, ownQ L = O := ⟨_, rfl⟩
  rw [hO] at hok hA1 hA2 ⊢
  have hlen := hok.len
  have hb := xbox_fn A1 c1 O hA1 hok z
  have hct := xcount_fn A1 c1 O hA1 hok z
  have hfl := xfull_fn A1 c1 O hA1 hok z
  have his := ar_is_all z O
  have hai := fun k hk => ar_is z O k hk
  obtain ⟨s, hs⟩ : ∃ s, arZ O z = s := ⟨_, rfl⟩
  rw [hs] at hb hct hfl his
  refine awp_heap (.own g2 29 [.slice A1 O.length c1] :: .own g1 78 x.cells :: roE A1 (icells O)) (HLe.sub (.cons_cons _ (.cons_cons _ ((List.sublist_append_right T _).trans (List.sublist_append_left _ _))))) ?_

  refine awp_seq_region (fun Z hZ => ?_)
  refine sx_loadA 0 rfl rfl tyA29 tyS29 (by first | (simp only [List.length_cons, List.length_nil, Nat.reduceAdd, Nat.zero_add, Nat.add_zero]; first | done | rfl) | rfl) (by first | (simp only [List.take_succ_cons, List.take_zero, List.drop_succ_cons, List.drop_zero, List.cons_append, List.nil_append, List.append_nil, List.length_cons, List.length_nil, Nat.reduceAdd, Nat.zero_add, Nat.add_zero, Value.cells, wrV]; first | done | rfl) | rfl) rfl ?_
  refine sx_move rfl rfl ?_
  refine sx_callV (roE A1 (icells O)) hb rfl (HLe.drop 2 rfl) (Ro.roE _ _) rfl ?_
  refine sx_move rfl rfl ?_
  refine sx_extract rfl rfl rfl ?_
  refine sx_extract rfl rfl rfl ?_
  refine sx_alloc tyZ33 rfl (fun g3 => ?_)
  refine sx_store 0 rfl rfl rfl tyS33 (by first | (simp only [Value.cells]; first | done | rfl) | rfl) rfl rfl (by first | (simp only [List.length_cons, List.length_nil, Nat.reduceAdd, Nat.zero_add, Nat.add_zero]; first | done | rfl) | rfl) (by first | (simp only [List.take_succ_cons, List.take_zero, List.drop_succ_cons, List.drop_zero, List.cons_append, List.nil_append, List.append_nil, List.length_cons, List.length_nil, Nat.reduceAdd, Nat.zero_add, Nat.add_zero, Value.cells, wrV]; first | done | rfl) | rfl) (by first | (simp only [List.set_cons_succ, List.set_cons_zero]; first | done | rfl) | rfl) ?_
  refine sx_assign rfl rfl ?_
  refine sx_nil (hZ _ _ ?_)
  refine awp_forget [(1, _), (5, _), (7, _), (9, _), (10, _)] (Kn.cons rfl (Kn.cons rfl (Kn.cons rfl (Kn.cons rfl (Kn.cons rfl (Kn.nil)))))) ?_

  rcases Nat.eq_zero_or_pos s.n with h0 | h0
  · obtain rfl := his.zero h0
    rw [show fullQx ar0 = false from by kernel_rfl] at hfl
    refine awp_seq ?_
    refine awp_seq_region (fun Z hZ => ?_)
    refine sx_move rfl rfl ?_
    refine sx_not rfl rfl ?_
    refine sx_nil (hZ _ _ ?_)
    refine awp_forget [(1, _), (5, _), (7, _), (9, _), (44, _)] (Kn.cons rfl (Kn.cons rfl (Kn.cons rfl (Kn.cons rfl (Kn.cons rfl (Kn.nil)))))) ?_
    refine awp_cond rfl (fun h5 => ?_) (fun h5 => ?_)
    · refine awp_seq_region (fun Z hZ => ?_)
      refine sx_loadA 1 rfl rfl tyA29 tyS29 (by first | (simp only [List.length_cons, List.length_nil, Nat.reduceAdd, Nat.zero_add, Nat.add_zero]; first | done | rfl) | rfl) (by first | (simp only [List.take_succ_cons, List.take_zero, List.drop_succ_cons, List.drop_zero, List.cons_append, List.nil_append, List.append_nil, List.length_cons, List.length_nil, Nat.reduceAdd, Nat.zero_add, Nat.add_zero, Value.cells, wrV]; first | done | rfl) | rfl) rfl ?_
      refine sx_move rfl rfl ?_
      refine sx_callV (roE A1 (icells O)) hct rfl (HLe.drop 3 rfl) (Ro.roE _ _) rfl ?_
      refine sx_eql rfl rfl rfl ?_
      refine sx_move rfl rfl ?_
      refine sx_force 49 rfl true (by first | rfl | (simp; done) | (simp; omega) | (simp; assumption)) ?_
      refine sx_on rfl rfl rfl ?_
      refine sx_loadA 1 rfl rfl tyA29 tyS29 (by first | (simp only [List.length_cons, List.length_nil, Nat.reduceAdd, Nat.zero_add, Nat.add_zero]; first | done | rfl) | rfl) (by first | (simp only [List.take_succ_cons, List.take_zero, List.drop_succ_cons, List.drop_zero, List.cons_append, List.nil_append, List.append_nil, List.length_cons, List.length_nil, Nat.reduceAdd, Nat.zero_add, Nat.add_zero, Value.cells, wrV]; first | done | rfl) | rfl) rfl ?_
      refine sx_on rfl rfl rfl ?_
      refine sx_move rfl rfl ?_
      refine sx_on rfl rfl rfl ?_
      refine sx_callV (roE A1 (icells O)) hfl rfl (HLe.drop 3 rfl) (Ro.roE _ _) rfl ?_
      refine sx_on rfl rfl rfl ?_
      refine sx_not rfl rfl ?_
      refine sx_pick rfl rfl rfl ?_
      refine sx_move rfl rfl ?_
      refine sx_force 55 rfl true (by first | rfl | (simp; done) | (simp; omega) | (simp; assumption)) ?_
      refine sx_on rfl rfl rfl ?_
      refine sx_loadA 0 rfl rfl tyA33 tyS33 (by first | (simp only [List.length_cons, List.length_nil, Nat.reduceAdd, Nat.zero_add, Nat.add_zero]; first | done | rfl) | rfl) (by first | (simp only [List.take_succ_cons, List.take_zero, List.drop_succ_cons, List.drop_zero, List.cons_append, List.nil_append, List.append_nil, List.length_cons, List.length_nil, Nat.reduceAdd, Nat.zero_add, Nat.add_zero, Value.cells, wrV]; first | done | rfl) | rfl) rfl ?_
      refine sx_on rfl rfl rfl ?_
      refine sx_build tyZ33 tyP33 rfl rfl (by first | (simp only [List.take_succ_cons, List.take_zero, List.drop_succ_cons, List.drop_zero, List.cons_append, List.nil_append, List.append_nil, List.length_cons, List.length_nil, Nat.reduceAdd, Nat.zero_add, Nat.add_zero, Value.cells, wrV, zrep_one, List.replicate_succ, List.replicate_zero, Nat.reduceMul, Nat.zero_mul]; first | done | rfl) | rfl) rfl ?_
      refine sx_on rfl rfl rfl ?_
      refine sx_aeql (rc_eqC ⟨0, 0, 0, 0, 0⟩ ⟨0, 0, 0, 0, 0⟩) guard_rcC rfl rfl rfl ?_
      rw [rcq_self]
      refine sx_pick rfl rfl rfl ?_
      refine sx_move rfl rfl ?_
      refine sx_force 60 rfl true (by first | rfl | (simp; done) | (simp; omega) | (simp; assumption)) ?_
      refine sx_on rfl rfl rfl ?_
      refine sx_callP x44wake_fn rfl rfl ?_
      refine sx_pick rfl rfl rfl ?_
      refine sx_assign rfl rfl ?_
      refine sx_nil (hZ _ _ ?_)
      refine awp_forget [(6, _)] (Kn.cons rfl (Kn.nil)) ?_
      refine awp_ret ?_
      repeat (with_reducible refine nx_then_ret ?_)
      exact nx_ret1 rfl rfl rfl
    cases h5
  obtain ⟨Z0, a, b, cc, d, hrc, hzZ⟩ := ar_rc hok his h0
  have hcr := ar_cnt hok his h0
  have hsl := hrc.sizeLe
  rw [← hrc.size] at hsl
  have hcs := cSize_fn s.r
  refine awp_seq ?_
  refine awp_seq_region (fun Z hZ => ?_)
  refine sx_move rfl rfl ?_
  refine sx_not rfl rfl ?_
  refine sx_nil (hZ _ _ ?_)
  refine awp_forget [(1, _), (5, _), (7, _), (9, _), (44, _)] (Kn.cons rfl (Kn.cons rfl (Kn.cons rfl (Kn.cons rfl (Kn.cons rfl (Kn.nil)))))) ?_
  refine awp_cond rfl (fun h5 => ?_) (fun h5 => ?_)
  · exfalso
    simp at h5
    omega
  refine awp_skip ?_
  with_reducible refine nx_normal ?_
  refine awp_seq_region (fun Z hZ => ?_)
  refine sx_loadA 1 rfl rfl tyA29 tyS29 (by first | (simp only [List.length_cons, List.length_nil, Nat.reduceAdd, Nat.zero_add, Nat.add_zero]; first | done | rfl) | rfl) (by first | (simp only [List.take_succ_cons, List.take_zero, List.drop_succ_cons, List.drop_zero, List.cons_append, List.nil_append, List.append_nil, List.length_cons, List.length_nil, Nat.reduceAdd, Nat.zero_add, Nat.add_zero, Value.cells, wrV]; first | done | rfl) | rfl) rfl ?_
  refine sx_itemsE O hA1 (List.Sublist.cons _ (.cons _ (.cons _ (List.Sublist.refl _)))) (by omega) rfl rfl (fun A3 c3 hA3 => ?_)
  refine sx_assign rfl rfl ?_
  refine sx_nil (hZ _ _ ?_)
  refine awp_forget [(1, _), (5, _), (7, _), (9, _), (11, _)] (Kn.cons rfl (Kn.cons rfl (Kn.cons rfl (Kn.cons rfl (Kn.cons rfl (Kn.nil)))))) ?_
  refine awp_seq_region (fun Z hZ => ?_)
  refine sx_alloc tyZ80 rfl (fun g4 => ?_)
  refine sx_nil (hZ _ _ ?_)
  refine awp_forget [(1, _), (5, _), (7, _), (9, _), (11, _), (12, _)] (Kn.cons rfl (Kn.cons rfl (Kn.cons rfl (Kn.cons rfl (Kn.cons rfl (Kn.cons rfl (Kn.nil))))))) ?_
  refine awp_seq_region (fun Z hZ => ?_)
  refine sx_assign rfl rfl ?_
  refine sx_nil (hZ _ _ ?_)
  refine awp_forget [(1, _), (5, _), (7, _), (9, _), (11, _), (12, _), (13, _)] (Kn.cons rfl (Kn.cons rfl (Kn.cons rfl (Kn.cons rfl (Kn.cons rfl (Kn.cons rfl (Kn.cons rfl (Kn.nil)))))))) ?_
  refine awp_seq ?_
  refine awp_seq_region (fun Z hZ => ?_)
  refine sx_assign rfl rfl ?_
  refine sx_nil (hZ _ _ ?_)
  refine awp_forget [(1, _), (5, _), (7, _), (9, _), (11, _), (12, _), (13, _), (14, _)] (Kn.cons rfl (Kn.cons rfl (Kn.cons rfl (Kn.cons rfl (Kn.cons rfl (Kn.cons rfl (Kn.cons rfl (Kn.cons rfl (Kn.nil))))))))) ?_
  refine awp_block ?_
  refine awp_loop (ι := Nat) (fun i => [(1, iq z), (5, ptr g1 0), (7, ptr g2 0), (9, ptr g3 0), (11, .slice A3 O.length c3), (12, ptr g4 0), (13, iq ((arZ (O.take i) z).n : Nat)), (14, iq (i : Nat))]) (fun i => .own g4 80 (b4 (sdQ tx z s.r.a (O.take i)) (sdQ tx z s.r.c (O.take i)) (sdQ ty z s.r.b (O.take i)) (sdQ ty z s.r.d (O.take i))) :: ((.own g3 33 s.r.cells :: .own g2 29 [.slice A1 O.length c1] :: .own g1 78 x.cells :: roE A1 (icells O)) ++ roE A3 (icells O))) (fun i => i ≤ O.length) (fun i => O.length - i) 0 (Nat.zero_le _) (Kn.cons rfl (Kn.cons rfl (Kn.cons rfl (Kn.cons rfl (Kn.cons rfl (Kn.cons rfl (Kn.cons rfl (Kn.cons rfl Kn.nil)))))))) (HLe.refl _) ?_
  intro i hi

  refine awp_seq ?_
  refine awp_seq_region (fun Z hZ => ?_)
  refine sx_move rfl rfl ?_
  refine sx_move rfl rfl ?_
  refine sx_len Try.underlying27 rfl rfl ?_
  refine sx_lss rfl rfl rfl ?_
  refine sx_nil (hZ _ _ ?_)
  refine awp_forget [(1, _), (5, _), (7, _), (9, _), (11, _), (12, _), (13, _), (14, _), (68, _)] (Kn.cons rfl (Kn.cons rfl (Kn.cons rfl (Kn.cons rfl (Kn.cons rfl (Kn.cons rfl (Kn.cons rfl (Kn.cons rfl (Kn.cons rfl (Kn.nil)))))))))) ?_
  refine awp_cond rfl (fun h11 => ?_) (fun h11 => ?_)
  · have hlt : i < O.length := by simpa using h11
    obtain ⟨e, he⟩ : ∃ e, O[i]? = some e := ⟨_, List.getElem?_eq_getElem hlt⟩
    have hem := List.mem_of_getElem? he
    have htk := tile_ok (hok.lt e hem)
    have hof := tOf_k htk
    have hst := arZ_snoc he z
    have hnn := arZ_le (O.take i) z
    rw [List.length_take] at hnn
    have s1 := sdQ_snoc tx z s.r.a he
    have s2 := sdQ_snoc tx z s.r.c he
    have s3 := sdQ_snoc ty z s.r.b he
    have s4 := sdQ_snoc ty z s.r.d he
    obtain ⟨p1, hp1⟩ : ∃ p, sdQ tx z s.r.a (O.take i) = p := ⟨_, rfl⟩
    obtain ⟨p2, hp2⟩ : ∃ p, sdQ tx z s.r.c (O.take i) = p := ⟨_, rfl⟩
    obtain ⟨p3, hp3⟩ : ∃ p, sdQ ty z s.r.b (O.take i) = p := ⟨_, rfl⟩
    obtain ⟨p4, hp4⟩ : ∃ p, sdQ ty z s.r.d (O.take i) = p := ⟨_, rfl⟩
    obtain ⟨m, hm⟩ : ∃ m, arZ (O.take i) z = m := ⟨_, rfl⟩
    rw [hp1] at s1
    rw [hp2] at s2
    rw [hp3] at s3
    rw [hp4] at s4
    rw [hm] at hst hnn
    rw [hp1, hp2, hp3, hp4, hm]
    obtain ⟨g, o, rfl⟩ := hA3.arg (by omega)
    refine awp_heap ([.own g4 80 (b4 p1 p2 p3 p4), .own g3 33 s.r.cells, .own g2 29 [.slice A1 O.length c1], .own g1 78 x.cells] ++ (roE A1 (icells O) ++ [.ro g o (icells O)])) (by simp only [List.cons_append, List.nil_append]; exact HLe.refl _) ?_
    refine awp_skip ?_
    with_reducible refine nx_normal ?_
    refine awp_seq (awp_block ?_)

    refine awp_seq_region (fun Z hZ => ?_)
    refine sx_move rfl rfl ?_
    refine sx_move rfl rfl ?_
    refine sx_indexAddr (o + i * 2) Try.underlying27 tyS82 rfl rfl (by omega) (by simp) rfl ?_
    refine sx_fieldAddr rfl tyF82_0 (by first | (simp only [Nat.reduceAdd, Nat.add_zero, Nat.zero_add]; first | done | rfl) | rfl) rfl ?_
    refine sx_loadRd (size := 2) (n := O.length) (xs := icells O) (i * 2) rfl (by omega) (fun w hw1 => rd_roE (A := some ⟨g, o, none⟩) (.inr ⟨g, o, rfl⟩) (fun x hx => List.mem_append_right _ (List.mem_append_right _ hx)) (icells_len _) hw1) (by omega) tyA66 tyS66 (icells_id he) rfl ?_
    refine sx_callP hof rfl rfl ?_
    refine sx_move rfl rfl ?_
    refine sx_extract rfl rfl rfl ?_
    refine sx_extract rfl rfl rfl ?_
    refine sx_alloc tyZ39 rfl (fun g5 => ?_)
    refine sx_store 0 rfl rfl rfl tyS39 (by first | (simp only [Value.cells]; first | done | rfl) | rfl) rfl rfl (by first | (simp only [List.length_cons, List.length_nil, Nat.reduceAdd, Nat.zero_add, Nat.add_zero]; first | done | rfl) | rfl) (by first | (simp only [List.take_succ_cons, List.take_zero, List.drop_succ_cons, List.drop_zero, List.cons_append, List.nil_append, List.append_nil, List.length_cons, List.length_nil, Nat.reduceAdd, Nat.zero_add, Nat.add_zero, Value.cells, wrV]; first | done | rfl) | rfl) (by first | (simp only [List.set_cons_succ, List.set_cons_zero]; first | done | rfl) | rfl) ?_
    refine sx_assign rfl rfl ?_
    refine sx_nil (hZ _ _ ?_)
    refine awp_forget [(1, _), (5, _), (7, _), (9, _), (11, _), (12, _), (13, _), (14, _), (15, _), (16, _)] (Kn.cons rfl (Kn.cons rfl (Kn.cons rfl (Kn.cons rfl (Kn.cons rfl (Kn.cons rfl (Kn.cons rfl (Kn.cons rfl (Kn.cons rfl (Kn.cons rfl (Kn.nil))))))))))) ?_

    refine awp_seq ?_
    refine awp_seq_region (fun Z hZ => ?_)
    refine sx_move rfl rfl ?_
    refine sx_neq rfl rfl rfl ?_
    refine sx_move rfl rfl ?_
    refine sx_force 82 rfl false (by first | rfl | (simp; done) | (simp; omega) | (simp; assumption)) ?_
    refine sx_on rfl rfl rfl ?_
    refine sx_fieldAddr rfl tyF39_0 (by first | (simp only [Nat.reduceAdd, Nat.add_zero, Nat.zero_add]; first | done | rfl) | rfl) rfl ?_
    refine sx_on rfl rfl rfl ?_
    refine sx_load 0 rfl rfl tyA3 tyS3 rfl rfl ?_
    refine sx_on rfl rfl rfl ?_
    refine sx_move rfl rfl ?_
    refine sx_on rfl rfl rfl ?_
    refine sx_neq rfl rfl rfl ?_
    refine sx_pick rfl rfl rfl ?_
    refine sx_nil (hZ _ _ ?_)
    refine awp_forget [(1, _), (5, _), (7, _), (9, _), (11, _), (12, _), (13, _), (14, _), (15, _), (87, _)] (Kn.cons rfl (Kn.cons rfl (Kn.cons rfl (Kn.cons rfl (Kn.cons rfl (Kn.cons rfl (Kn.cons rfl (Kn.cons rfl (Kn.cons rfl (Kn.cons rfl (Kn.nil))))))))))) ?_
    refine awp_cond rfl (fun h14 => ?_) (fun h14 => ?_)
    · have hz : ¬ (tz e : Int) = z := by simpa using h14
      have e1 : arZ (O.take (i + 1)) z = m := by rw [hst]; unfold stepQ; rw [if_neg hz]
      simp only [decide_eq_false hz, Bool.false_and, Bool.or_false] at s1 s2 s3 s4
      refine awp_exit ?_
      repeat (with_reducible refine nx_then_exit ?_)
      with_reducible refine nx_block_exit ?_
      with_reducible refine nx_normal ?_
      refine awp_region (fun Z hZ => ?_)
      refine sx_move rfl rfl ?_
      refine sx_add rfl rfl ((i + 1 : Nat) : Int) (by rw [IntWalk.i64_in _ (by omega)]; omega) rfl ?_
      refine sx_assign rfl rfl ?_
      refine sx_nil (hZ _ _ ?_)
      refine nx_forget [(1, _), (5, _), (7, _), (9, _), (11, _), (12, _), (13, _), (14, _)] (Kn.cons rfl (Kn.cons rfl (Kn.cons rfl (Kn.cons rfl (Kn.cons rfl (Kn.cons rfl (Kn.cons rfl (Kn.cons rfl (Kn.nil))))))))) ?_
      refine nx_round (i + 1) hlt (by omega) (Kn.cons rfl (Kn.cons rfl (Kn.cons rfl (Kn.cons rfl (Kn.cons rfl (Kn.cons rfl (Kn.cons (by rw [e1]; rfl) (Kn.cons rfl Kn.nil)))))))) ?_
      show HLe (.own g4 80 (b4 (sdQ tx z s.r.a (O.take (i + 1))) (sdQ tx z s.r.c (O.take (i + 1))) (sdQ ty z s.r.b (O.take (i + 1))) (sdQ ty z s.r.d (O.take (i + 1)))) :: _) _
      rw [s1, s2, s3, s4]
      exact HLe.drop 1 rfl
    have hz : (tz e : Int) = z := by simpa using h14
    have e1 : (arZ (O.take (i + 1)) z).n = m.n + 1 := by rw [hst]; unfold stepQ; rw [if_pos hz]; rfl
    simp only [decide_eq_true hz, Bool.true_and] at s1 s2 s3 s4
    have hha := cHas_fn s.r (tz e : Nat) (tx e : Nat) (ty e : Nat)
    rw [ar_has hok his hem hz] at hha
    refine awp_skip ?_
    with_reducible refine nx_normal ?_
    refine awp_seq ?_
    refine awp_seq_region (fun Z hZ => ?_)
    refine sx_loadA 2 rfl rfl tyA33 tyS33 (by first | (simp only [List.length_cons, List.length_nil, Nat.reduceAdd, Nat.zero_add, Nat.add_zero]; first | done | rfl) | rfl) (by first | (simp only [List.take_succ_cons, List.take_zero, List.drop_succ_cons, List.drop_zero, List.cons_append, List.nil_append, List.append_nil, List.length_cons, List.length_nil, Nat.reduceAdd, Nat.zero_add, Nat.add_zero, Value.cells, wrV]; first | done | rfl) | rfl) rfl ?_
    refine sx_loadA 0 rfl rfl tyA39 tyS39 (by first | (simp only [List.length_cons, List.length_nil, Nat.reduceAdd, Nat.zero_add, Nat.add_zero]; first | done | rfl) | rfl) (by first | (simp only [List.take_succ_cons, List.take_zero, List.drop_succ_cons, List.drop_zero, List.cons_append, List.nil_append, List.append_nil, List.length_cons, List.length_nil, Nat.reduceAdd, Nat.zero_add, Nat.add_zero, Value.cells, wrV]; first | done | rfl) | rfl) rfl ?_
    refine sx_callP hha rfl rfl ?_
    refine sx_not rfl rfl ?_
    refine sx_nil (hZ _ _ ?_)
    refine awp_forget [(1, _), (5, _), (7, _), (9, _), (11, _), (12, _), (13, _), (14, _), (15, _), (91, _)] (Kn.cons rfl (Kn.cons rfl (Kn.cons rfl (Kn.cons rfl (Kn.cons rfl (Kn.cons rfl (Kn.cons rfl (Kn.cons rfl (Kn.cons rfl (Kn.cons rfl (Kn.nil))))))))))) ?_
    refine awp_cond rfl (fun h15 => ?_) (fun h15 => ?_)
    · cases h15
    refine awp_skip ?_
    with_reducible refine nx_normal ?_
    refine awp_seq_region (fun Z hZ => ?_)
    refine sx_move rfl rfl ?_
    refine sx_add rfl rfl ((m.n + 1 : Nat) : Int) (by rw [IntWalk.i64_in _ (by omega)]; omega) rfl ?_
    refine sx_assign rfl rfl ?_
    refine sx_nil (hZ _ _ ?_)
    refine awp_forget [(1, _), (5, _), (7, _), (9, _), (11, _), (12, _), (13, _), (14, _), (15, _)] (Kn.cons rfl (Kn.cons rfl (Kn.cons rfl (Kn.cons rfl (Kn.cons rfl (Kn.cons rfl (Kn.cons rfl (Kn.cons rfl (Kn.cons rfl (Kn.nil)))))))))) ?_
    obtain ⟨v1, hv1⟩ : ∃ b, ((tx e : Int) == s.r.a) = b := ⟨_, rfl⟩
    obtain ⟨v2, hv2⟩ : ∃ b, ((tx e : Int) == s.r.c) = b := ⟨_, rfl⟩
    obtain ⟨v3, hv3⟩ : ∃ b, ((ty e : Int) == s.r.b) = b := ⟨_, rfl⟩
    obtain ⟨v4, hv4⟩ : ∃ b, ((ty e : Int) == s.r.d) = b := ⟨_, rfl⟩
    rw [hv1] at s1
    rw [hv2] at s2
    rw [hv3] at s3
    rw [hv4] at s4
    refine awp_endmeet ([(1, iq z), (5, ptr g1 0), (7, ptr g2 0), (9, ptr g3 0), (11, .slice (some ⟨g, o, none⟩) O.length c3), (12, ptr g4 0), (13, iq (m.n + 1 : Nat)), (14, iq (i : Nat))]) ((.own g4 80 (b4 (p1 || v1) (p2 || v2) (p3 || v3) (p4 || v4)) :: ([.own g3 33 s.r.cells, .own g2 29 [.slice A1 O.length c1], .own g1 78 x.cells] ++ (roE A1 (icells O) ++ [.ro g o (icells O)])))) ?_ ?_
    · refine awp_region (fun Z hZ => ?_)
      refine sx_indexAddrA 0 Try.underlying80 tyS4 rfl rfl (by omega) rfl rfl ?_
      refine sx_load 1 rfl rfl tyA4 tyS4 rfl rfl ?_
      refine sx_move rfl rfl ?_
      refine sx_split 96 rfl (fun hb2 => ?_) (fun hb2 => ?_)
      · refine sx_off rfl rfl rfl rfl rfl ?_
        refine sx_off rfl rfl rfl rfl rfl ?_
        refine sx_off rfl rfl rfl rfl rfl ?_
        refine sx_off rfl rfl rfl rfl rfl ?_
        refine sx_off rfl rfl rfl rfl rfl ?_
        refine sx_pick rfl rfl rfl ?_
        refine sx_indexAddrA 1 Try.underlying80 tyS4 rfl rfl (by omega) rfl rfl ?_
        refine sx_load 1 rfl rfl tyA4 tyS4 rfl rfl ?_
        refine sx_move rfl rfl ?_
        refine sx_split 105 rfl (fun hb11 => ?_) (fun hb11 => ?_)
        · refine sx_off rfl rfl rfl rfl rfl ?_
          refine sx_off rfl rfl rfl rfl rfl ?_
          refine sx_off rfl rfl rfl rfl rfl ?_
          refine sx_off rfl rfl rfl rfl rfl ?_
          refine sx_off rfl rfl rfl rfl rfl ?_
          refine sx_pick rfl rfl rfl ?_
          refine sx_indexAddrA 2 Try.underlying80 tyS4 rfl rfl (by omega) rfl rfl ?_
          refine sx_load 1 rfl rfl tyA4 tyS4 rfl rfl ?_
          refine sx_move rfl rfl ?_
          refine sx_split 114 rfl (fun hb20 => ?_) (fun hb20 => ?_)
          · refine sx_off rfl rfl rfl rfl rfl ?_
            refine sx_off rfl rfl rfl rfl rfl ?_
            refine sx_off rfl rfl rfl rfl rfl ?_
            refine sx_off rfl rfl rfl rfl rfl ?_
            refine sx_off rfl rfl rfl rfl rfl ?_
            refine sx_pick rfl rfl rfl ?_
            refine sx_indexAddrA 3 Try.underlying80 tyS4 rfl rfl (by omega) rfl rfl ?_
            refine sx_load 1 rfl rfl tyA4 tyS4 rfl rfl ?_
            refine sx_move rfl rfl ?_
            refine sx_split 123 rfl (fun hb29 => ?_) (fun hb29 => ?_)
            · refine sx_off rfl rfl rfl rfl rfl ?_
              refine sx_off rfl rfl rfl rfl rfl ?_
              refine sx_off rfl rfl rfl rfl rfl ?_
              refine sx_off rfl rfl rfl rfl rfl ?_
              refine sx_off rfl rfl rfl rfl rfl ?_
              refine sx_pick rfl rfl rfl ?_
              refine sx_buildA tyZ80 Try.underlying80 tyS4 rfl rfl (by first | (simp only [List.take_succ_cons, List.take_zero, List.drop_succ_cons, List.drop_zero, List.cons_append, List.nil_append, List.append_nil, List.length_cons, List.length_nil, Nat.reduceAdd, Nat.zero_add, Nat.add_zero, Value.cells, wrV, zrep_one, List.replicate_succ, List.replicate_zero, Nat.reduceMul, Nat.zero_mul]; first | done | rfl) | rfl) rfl ?_
              refine sx_store 1 rfl rfl rfl tyS80 (by first | (simp only [Value.cells]; first | done | rfl) | rfl) rfl rfl (by first | (simp only [List.length_cons, List.length_nil, Nat.reduceAdd, Nat.zero_add, Nat.add_zero]; first | done | rfl) | rfl) (by first | (simp only [List.take_succ_cons, List.take_zero, List.drop_succ_cons, List.drop_zero, List.cons_append, List.nil_append, List.append_nil, List.length_cons, List.length_nil, Nat.reduceAdd, Nat.zero_add, Nat.add_zero, Value.cells, wrV]; first | done | rfl) | rfl) (by first | (simp only [List.set_cons_succ, List.set_cons_zero]; first | done | rfl) | rfl) ?_
              refine sx_nil (hZ _ _ (nx_cut () trivial ?_ ?_))
              · exact Kn.cons rfl (Kn.cons rfl (Kn.cons rfl (Kn.cons rfl (Kn.cons rfl (Kn.cons rfl (Kn.cons rfl (Kn.cons rfl Kn.nil)))))))
              · (subst hb2; subst hb11; subst hb20; subst hb29; exact HLe.drop 1 rfl)
            · refine sx_on rfl rfl rfl ?_
              refine sx_fieldAddr rfl tyF39_2 (by first | (simp only [Nat.reduceAdd, Nat.add_zero, Nat.zero_add]; first | done | rfl) | rfl) rfl ?_
              refine sx_on rfl rfl rfl ?_
              refine sx_load 0 rfl rfl tyA3 tyS3 rfl rfl ?_
              refine sx_on rfl rfl rfl ?_
              refine sx_fieldAddr rfl tyF33_4 (by first | (simp only [Nat.reduceAdd, Nat.add_zero, Nat.zero_add]; first | done | rfl) | rfl) rfl ?_
              refine sx_on rfl rfl rfl ?_
              refine sx_load 2 rfl rfl tyA3 tyS3 rfl rfl ?_
              refine sx_on rfl rfl rfl ?_
              refine sx_eql rfl rfl rfl ?_
              rw [hv4]
              refine sx_pick rfl rfl rfl ?_
              refine sx_buildA tyZ80 Try.underlying80 tyS4 rfl rfl (by first | (simp only [List.take_succ_cons, List.take_zero, List.drop_succ_cons, List.drop_zero, List.cons_append, List.nil_append, List.append_nil, List.length_cons, List.length_nil, Nat.reduceAdd, Nat.zero_add, Nat.add_zero, Value.cells, wrV, zrep_one, List.replicate_succ, List.replicate_zero, Nat.reduceMul, Nat.zero_mul]; first | done | rfl) | rfl) rfl ?_
              refine sx_store 1 rfl rfl rfl tyS80 (by first | (simp only [Value.cells]; first | done | rfl) | rfl) rfl rfl (by first | (simp only [List.length_cons, List.length_nil, Nat.reduceAdd, Nat.zero_add, Nat.add_zero]; first | done | rfl) | rfl) (by first | (simp only [List.take_succ_cons, List.take_zero, List.drop_succ_cons, List.drop_zero, List.cons_append, List.nil_append, List.append_nil, List.length_cons, List.length_nil, Nat.reduceAdd, Nat.zero_add, Nat.add_zero, Value.cells, wrV]; first | done | rfl) | rfl) (by first | (simp only [List.set_cons_succ, List.set_cons_zero]; first | done | rfl) | rfl) ?_
              refine sx_nil (hZ _ _ (nx_cut () trivial ?_ ?_))
              · exact Kn.cons rfl (Kn.cons rfl (Kn.cons rfl (Kn.cons rfl (Kn.cons rfl (Kn.cons rfl (Kn.cons rfl (Kn.cons rfl Kn.nil)))))))
              · (subst hb2; subst hb11; subst hb20; subst hb29; exact HLe.drop 1 rfl)
          · refine sx_on rfl rfl rfl ?_
            refine sx_fieldAddr rfl tyF39_2 (by first | (simp only [Nat.reduceAdd, Nat.add_zero, Nat.zero_add]; first | done | rfl) | rfl) rfl ?_
            refine sx_on rfl rfl rfl ?_
            refine sx_load 0 rfl rfl tyA3 tyS3 rfl rfl ?_
            refine sx_on rfl rfl rfl ?_
            refine sx_fieldAddr rfl tyF33_2 (by first | (simp only [Nat.reduceAdd, Nat.add_zero, Nat.zero_add]; first | done | rfl) | rfl) rfl ?_
            refine sx_on rfl rfl rfl ?_
            refine sx_load 2 rfl rfl tyA3 tyS3 rfl rfl ?_
            refine sx_on rfl rfl rfl ?_
            refine sx_eql rfl rfl rfl ?_
            rw [hv3]
            refine sx_pick rfl rfl rfl ?_
            refine sx_indexAddrA 3 Try.underlying80 tyS4 rfl rfl (by omega) rfl rfl ?_
            refine sx_load 1 rfl rfl tyA4 tyS4 rfl rfl ?_
            refine sx_move rfl rfl ?_
            refine sx_split 123 rfl (fun hb29 => ?_) (fun hb29 => ?_)
            · refine sx_off rfl rfl rfl rfl rfl ?_
              refine sx_off rfl rfl rfl rfl rfl ?_
              refine sx_off rfl rfl rfl rfl rfl ?_
              refine sx_off rfl rfl rfl rfl rfl ?_
              refine sx_off rfl rfl rfl rfl rfl ?_
              refine sx_pick rfl rfl rfl ?_
              refine sx_buildA tyZ80 Try.underlying80 tyS4 rfl rfl (by first | (simp only [List.take_succ_cons, List.take_zero, List.drop_succ_cons, List.drop_zero, List.cons_append, List.nil_append, List.append_nil, List.length_cons, List.length_nil, Nat.reduceAdd, Nat.zero_add, Nat.add_zero, Value.cells, wrV, zrep_one, List.replicate_succ, List.replicate_zero, Nat.reduceMul, Nat.zero_mul]; first | done | rfl) | rfl) rfl ?_
              refine sx_store 1 rfl rfl rfl tyS80 (by first | (simp only [Value.cells]; first | done | rfl) | rfl) rfl rfl (by first | (simp only [List.length_cons, List.length_nil, Nat.reduceAdd, Nat.zero_add, Nat.add_zero]; first | done | rfl) | rfl) (by first | (simp only [List.take_succ_cons, List.take_zero, List.drop_succ_cons, List.drop_zero, List.cons_append, List.nil_append, List.append_nil, List.length_cons, List.length_nil, Nat.reduceAdd, Nat.zero_add, Nat.add_zero, Value.cells, wrV]; first | done | rfl) | rfl) (by first | (simp only [List.set_cons_succ, List.set_cons_zero]; first | done | rfl) | rfl) ?_
              refine sx_nil (hZ _ _ (nx_cut () trivial ?_ ?_))
              · exact Kn.cons rfl (Kn.cons rfl (Kn.cons rfl (Kn.cons rfl (Kn.cons rfl (Kn.cons rfl (Kn.cons rfl (Kn.cons rfl Kn.nil)))))))
              · (subst hb2; subst hb11; subst hb20; subst hb29; exact HLe.drop 1 rfl)
            · refine sx_on rfl rfl rfl ?_
              refine sx_fieldAddr rfl tyF39_2 (by first | (simp only [Nat.reduceAdd, Nat.add_zero, Nat.zero_add]; first | done | rfl) | rfl) rfl ?_
              refine sx_on rfl rfl rfl ?_
              refine sx_load 0 rfl rfl tyA3 tyS3 rfl rfl ?_
              refine sx_on rfl rfl rfl ?_
              refine sx_fieldAddr rfl tyF33_4 (by first | (simp only [Nat.reduceAdd, Nat.add_zero, Nat.zero_add]; first | done | rfl) | rfl) rfl ?_
              refine sx_on rfl rfl rfl ?_
              refine sx_load 2 rfl rfl tyA3 tyS3 rfl rfl ?_
              refine sx_on rfl rfl rfl ?_
              refine sx_eql rfl rfl rfl ?_
              rw [hv4]
              refine sx_pick rfl rfl rfl ?_
              refine sx_buildA tyZ80 Try.underlying80 tyS4 rfl rfl (by first | (simp only [List.take_succ_cons, List.take_zero, List.drop_succ_cons, List.drop_zero, List.cons_append, List.nil_append, List.append_nil, List.length_cons, List.length_nil, Nat.reduceAdd, Nat.zero_add, Nat.add_zero, Value.cells, wrV, zrep_one, List.replicate_succ, List.replicate_zero, Nat.reduceMul, Nat.zero_mul]; first | done | rfl) | rfl) rfl ?_
              refine sx_store 1 rfl rfl rfl tyS80 (by first | (simp only [Value.cells]; first | done | rfl) | rfl) rfl rfl (by first | (simp only [List.length_cons, List.length_nil, Nat.reduceAdd, Nat.zero_add, Nat.add_zero]; first | done | rfl) | rfl) (by first | (simp only [List.take_succ_cons, List.take_zero, List.drop_succ_cons, List.drop_zero, List.cons_append, List.nil_append, List.append_nil, List.length_cons, List.length_nil, Nat.reduceAdd, Nat.zero_add, Nat.add_zero, Value.cells, wrV]; first | done | rfl) | rfl) (by first | (simp only [List.set_cons_succ, List.set_cons_zero]; first | done | rfl) | rfl) ?_
              refine sx_nil (hZ _ _ (nx_cut () trivial ?_ ?_))
              · exact Kn.cons rfl (Kn.cons rfl (Kn.cons rfl (Kn.cons rfl (Kn.cons rfl (Kn.cons rfl (Kn.cons rfl (Kn.cons rfl Kn.nil)))))))
              · (subst hb2; subst hb11; subst hb20; subst hb29; exact HLe.drop 1 rfl)
        · refine sx_on rfl rfl rfl ?_
          refine sx_fieldAddr rfl tyF39_1 (by first | (simp only [Nat.reduceAdd, Nat.add_zero, Nat.zero_add]; first | done | rfl) | rfl) rfl ?_
          refine sx_on rfl rfl rfl ?_
          refine sx_load 0 rfl rfl tyA3 tyS3 rfl rfl ?_
          refine sx_on rfl rfl rfl ?_
          refine sx_fieldAddr rfl tyF33_3 (by first | (simp only [Nat.reduceAdd, Nat.add_zero, Nat.zero_add]; first | done | rfl) | rfl) rfl ?_
          refine sx_on rfl rfl rfl ?_
          refine sx_load 2 rfl rfl tyA3 tyS3 rfl rfl ?_
          refine sx_on rfl rfl rfl ?_
          refine sx_eql rfl rfl rfl ?_
          rw [hv2]
          refine sx_pick rfl rfl rfl ?_
          refine sx_indexAddrA 2 Try.underlying80 tyS4 rfl rfl (by omega) rfl rfl ?_
          refine sx_load 1 rfl rfl tyA4 tyS4 rfl rfl ?_
          refine sx_move rfl rfl ?_
          refine sx_split 114 rfl (fun hb20 => ?_) (fun hb20 => ?_)
          · refine sx_off rfl rfl rfl rfl rfl ?_
            refine sx_off rfl rfl rfl rfl rfl ?_
            refine sx_off rfl rfl rfl rfl rfl ?_
            refine sx_off rfl rfl rfl rfl rfl ?_
            refine sx_off rfl rfl rfl rfl rfl ?_
            refine sx_pick rfl rfl rfl ?_
            refine sx_indexAddrA 3 Try.underlying80 tyS4 rfl rfl (by omega) rfl rfl ?_
            refine sx_load 1 rfl rfl tyA4 tyS4 rfl rfl ?_
            refine sx_move rfl rfl ?_
            refine sx_split 123 rfl (fun hb29 => ?_) (fun hb29 => ?_)
            · refine sx_off rfl rfl rfl rfl rfl ?_
              refine sx_off rfl rfl rfl rfl rfl ?_
              refine sx_off rfl rfl rfl rfl rfl ?_
              refine sx_off rfl rfl rfl rfl rfl ?_
              refine sx_off rfl rfl rfl rfl rfl ?_
              refine sx_pick rfl rfl rfl ?_
              refine sx_buildA tyZ80 Try.underlying80 tyS4 rfl rfl (by first | (simp only [List.take_succ_cons, List.take_zero, List.drop_succ_cons, List.drop_zero, List.cons_append, List.nil_append, List.append_nil, List.length_cons, List.length_nil, Nat.reduceAdd, Nat.zero_add, Nat.add_zero, Value.cells, wrV, zrep_one, List.replicate_succ, List.replicate_zero, Nat.reduceMul, Nat.zero_mul]; first | done | rfl) | rfl) rfl ?_
              refine sx_store 1 rfl rfl rfl tyS80 (by first | (simp only [Value.cells]; first | done | rfl) | rfl) rfl rfl (by first | (simp only [List.length_cons, List.length_nil, Nat.reduceAdd, Nat.zero_add, Nat.add_zero]; first | done | rfl) | rfl) (by first | (simp only [List.take_succ_cons, List.take_zero, List.drop_succ_cons, List.drop_zero, List.cons_append, List.nil_append, List.append_nil, List.length_cons, List.length_nil, Nat.reduceAdd, Nat.zero_add, Nat.add_zero, Value.cells, wrV]; first | done | rfl) | rfl) (by first | (simp only [List.set_cons_succ, List.set_cons_zero]; first | done | rfl) | rfl) ?_
              refine sx_nil (hZ _ _ (nx_cut () trivial ?_ ?_))
              · exact Kn.cons rfl (Kn.cons rfl (Kn.cons rfl (Kn.cons rfl (Kn.cons rfl (Kn.cons rfl (Kn.cons rfl (Kn.cons rfl Kn.nil)))))))
              · (subst hb2; subst hb11; subst hb20; subst hb29; exact HLe.drop 1 rfl)
            · refine sx_on rfl rfl rfl ?_
              refine sx_fieldAddr rfl tyF39_2 (by first | (simp only [Nat.reduceAdd, Nat.add_zero, Nat.zero_add]; first | done | rfl) | rfl) rfl ?_
              refine sx_on rfl rfl rfl ?_
              refine sx_load 0 rfl rfl tyA3 tyS3 rfl rfl ?_
              refine sx_on rfl rfl rfl ?_
              refine sx_fieldAddr rfl tyF33_4 (by first | (simp only [Nat.reduceAdd, Nat.add_zero, Nat.zero_add]; first | done | rfl) | rfl) rfl ?_
              refine sx_on rfl rfl rfl ?_
              refine sx_load 2 rfl rfl tyA3 tyS3 rfl rfl ?_
              refine sx_on rfl rfl rfl ?_
              refine sx_eql rfl rfl rfl ?_
              rw [hv4]
              refine sx_pick rfl rfl rfl ?_
              refine sx_buildA tyZ80 Try.underlying80 tyS4 rfl rfl (by first | (simp only [List.take_succ_cons, List.take_zero, List.drop_succ_cons, List.drop_zero, List.cons_append, List.nil_append, List.append_nil, List.length_cons, List.length_nil, Nat.reduceAdd, Nat.zero_add, Nat.add_zero, Value.cells, wrV, zrep_one, List.replicate_succ, List.replicate_zero, Nat.reduceMul, Nat.zero_mul]; first | done | rfl) | rfl) rfl ?_
              refine sx_store 1 rfl rfl rfl tyS80 (by first | (simp only [Value.cells]; first | done | rfl) | rfl) rfl rfl (by first | (simp only [List.length_cons, List.length_nil, Nat.reduceAdd, Nat.zero_add, Nat.add_zero]; first | done | rfl) | rfl) (by first | (simp only [List.take_succ_cons, List.take_zero, List.drop_succ_cons, List.drop_zero, List.cons_append, List.nil_append, List.append_nil, List.length_cons, List.length_nil, Nat.reduceAdd, Nat.zero_add, Nat.add_zero, Value.cells, wrV]; first | done | rfl) | rfl) (by first | (simp only [List.set_cons_succ, List.set_cons_zero]; first | done | rfl) | rfl) ?_
              refine sx_nil (hZ _ _ (nx_cut () trivial ?_ ?_))
              · exact Kn.cons rfl (Kn.cons rfl (Kn.cons rfl (Kn.cons rfl (Kn.cons rfl (Kn.cons rfl (Kn.cons rfl (Kn.cons rfl Kn.nil)))))))
              · (subst hb2; subst hb11; subst hb20; subst hb29; exact HLe.drop 1 rfl)
          · refine sx_on rfl rfl rfl ?_
            refine sx_fieldAddr rfl tyF39_2 (by first | (simp only [Nat.reduceAdd, Nat.add_zero, Nat.zero_add]; first | done | rfl) | rfl) rfl ?_
            refine sx_on rfl rfl rfl ?_
            refine sx_load 0 rfl rfl tyA3 tyS3 rfl rfl ?_
            refine sx_on rfl rfl rfl ?_
            refine sx_fieldAddr rfl tyF33_2 (by first | (simp only [Nat.reduceAdd, Nat.add_zero, Nat.zero_add]; first | done | rfl) | rfl) rfl ?_
            refine sx_on rfl rfl rfl ?_
            refine sx_load 2 rfl rfl tyA3 tyS3 rfl rfl ?_
            refine sx_on rfl rfl rfl ?_
            refine sx_eql rfl rfl rfl ?_
            rw [hv3]
            refine sx_pick rfl rfl rfl ?_
            refine sx_indexAddrA 3 Try.underlying80 tyS4 rfl rfl (by omega) rfl rfl ?_
            refine sx_load 1 rfl rfl tyA4 tyS4 rfl rfl ?_
            refine sx_move rfl rfl ?_
            refine sx_split 123 rfl (fun hb29 => ?_) (fun hb29 => ?_)
            · refine sx_off rfl rfl rfl rfl rfl ?_
              refine sx_off rfl rfl rfl rfl rfl ?_
              refine sx_off rfl rfl rfl rfl rfl ?_
              refine sx_off rfl rfl rfl rfl rfl ?_
              refine sx_off rfl rfl rfl rfl rfl ?_
              refine sx_pick rfl rfl rfl ?_
              refine sx_buildA tyZ80 Try.underlying80 tyS4 rfl rfl (by first | (simp only [List.take_succ_cons, List.take_zero, List.drop_succ_cons, List.drop_zero, List.cons_append, List.nil_append, List.append_nil, List.length_cons, List.length_nil, Nat.reduceAdd, Nat.zero_add, Nat.add_zero, Value.cells, wrV, zrep_one, List.replicate_succ, List.replicate_zero, Nat.reduceMul, Nat.zero_mul]; first | done | rfl) | rfl) rfl ?_
              refine sx_store 1 rfl rfl rfl tyS80 (by first | (simp only [Value.cells]; first | done | rfl) | rfl) rfl rfl (by first | (simp only [List.length_cons, List.length_nil, Nat.reduceAdd, Nat.zero_add, Nat.add_zero]; first | done | rfl) | rfl) (by first | (simp only [List.take_succ_cons, List.take_zero, List.drop_succ_cons, List.drop_zero, List.cons_append, List.nil_append, List.append_nil, List.length_cons, List.length_nil, Nat.reduceAdd, Nat.zero_add, Nat.add_zero, Value.cells, wrV]; first | done | rfl) | rfl) (by first | (simp only [List.set_cons_succ, List.set_cons_zero]; first | done | rfl) | rfl) ?_
              refine sx_nil (hZ _ _ (nx_cut () trivial ?_ ?_))
              · exact Kn.cons rfl (Kn.cons rfl (Kn.cons rfl (Kn.cons rfl (Kn.cons rfl (Kn.cons rfl (Kn.cons rfl (Kn.cons rfl Kn.nil)))))))
              · (subst hb2; subst hb11; subst hb20; subst hb29; exact HLe.drop 1 rfl)
            · refine sx_on rfl rfl rfl ?_
              refine sx_fieldAddr rfl tyF39_2 (by first | (simp only [Nat.reduceAdd, Nat.add_zero, Nat.zero_add]; first | done | rfl) | rfl) rfl ?_
              refine sx_on rfl rfl rfl ?_
              refine sx_load 0 rfl rfl tyA3 tyS3 rfl rfl ?_
              refine sx_on rfl rfl rfl ?_
              refine sx_fieldAddr rfl tyF33_4 (by first | (simp only [Nat.reduceAdd, Nat.add_zero, Nat.zero_add]; first | done | rfl) | rfl) rfl ?_
              refine sx_on rfl rfl rfl ?_
              refine sx_load 2 rfl rfl tyA3 tyS3 rfl rfl ?_
              refine sx_on rfl rfl rfl ?_
              refine sx_eql rfl rfl rfl ?_
              rw [hv4]
              refine sx_pick rfl rfl rfl ?_
              refine sx_buildA tyZ80 Try.underlying80 tyS4 rfl rfl (by first | (simp only [List.take_succ_cons, List.take_zero, List.drop_succ_cons, List.drop_zero, List.cons_append, List.nil_append, List.append_nil, List.length_cons, List.length_nil, Nat.reduceAdd, Nat.zero_add, Nat.add_zero, Value.cells, wrV, zrep_one, List.replicate_succ, List.replicate_zero, Nat.reduceMul, Nat.zero_mul]; first | done | rfl) | rfl) rfl ?_
              refine sx_store 1 rfl rfl rfl tyS80 (by first | (simp only [Value.cells]; first | done | rfl) | rfl) rfl rfl (by first | (simp only [List.length_cons, List.length_nil, Nat.reduceAdd, Nat.zero_add, Nat.add_zero]; first | done | rfl) | rfl) (by first | (simp only [List.take_succ_cons, List.take_zero, List.drop_succ_cons, List.drop_zero, List.cons_append, List.nil_append, List.append_nil, List.length_cons, List.length_nil, Nat.reduceAdd, Nat.zero_add, Nat.add_zero, Value.cells, wrV]; first | done | rfl) | rfl) (by first | (simp only [List.set_cons_succ, List.set_cons_zero]; first | done | rfl) | rfl) ?_
              refine sx_nil (hZ _ _ (nx_cut () trivial ?_ ?_))
              · exact Kn.cons rfl (Kn.cons rfl (Kn.cons rfl (Kn.cons rfl (Kn.cons rfl (Kn.cons rfl (Kn.cons rfl (Kn.cons rfl Kn.nil)))))))
              · (subst hb2; subst hb11; subst hb20; subst hb29; exact HLe.drop 1 rfl)
      · refine sx_on rfl rfl rfl ?_
        refine sx_fieldAddr rfl tyF39_1 (by first | (simp only [Nat.reduceAdd, Nat.add_zero, Nat.zero_add]; first | done | rfl) | rfl) rfl ?_
        refine sx_on rfl rfl rfl ?_
        refine sx_load 0 rfl rfl tyA3 tyS3 rfl rfl ?_
        refine sx_on rfl rfl rfl ?_
        refine sx_fieldAddr rfl tyF33_1 (by first | (simp only [Nat.reduceAdd, Nat.add_zero, Nat.zero_add]; first | done | rfl) | rfl) rfl ?_
        refine sx_on rfl rfl rfl ?_
        refine sx_load 2 rfl rfl tyA3 tyS3 rfl rfl ?_
        refine sx_on rfl rfl rfl ?_
        refine sx_eql rfl rfl rfl ?_
        rw [hv1]
        refine sx_pick rfl rfl rfl ?_
        refine sx_indexAddrA 1 Try.underlying80 tyS4 rfl rfl (by omega) rfl rfl ?_
        refine sx_load 1 rfl rfl tyA4 tyS4 rfl rfl ?_
        refine sx_move rfl rfl ?_
        refine sx_split 105 rfl (fun hb11 => ?_) (fun hb11 => ?_)
        · refine sx_off rfl rfl rfl rfl rfl ?_
          refine sx_off rfl rfl rfl rfl rfl ?_
          refine sx_off rfl rfl rfl rfl rfl ?_
          refine sx_off rfl rfl rfl rfl rfl ?_
          refine sx_off rfl rfl rfl rfl rfl ?_
          refine sx_pick rfl rfl rfl ?_
          refine sx_indexAddrA 2 Try.underlying80 tyS4 rfl rfl (by omega) rfl rfl ?_
          refine sx_load 1 rfl rfl tyA4 tyS4 rfl rfl ?_
          refine sx_move rfl rfl ?_
          refine sx_split 114 rfl (fun hb20 => ?_) (fun hb20 => ?_)
          · refine sx_off rfl rfl rfl rfl rfl ?_
            refine sx_off rfl rfl rfl rfl rfl ?_
            refine sx_off rfl rfl rfl rfl rfl ?_
            refine sx_off rfl rfl rfl rfl rfl ?_
            refine sx_off rfl rfl rfl rfl rfl ?_
            refine sx_pick rfl rfl rfl ?_
            refine sx_indexAddrA 3 Try.underlying80 tyS4 rfl rfl (by omega) rfl rfl ?_
            refine sx_load 1 rfl rfl tyA4 tyS4 rfl rfl ?_
            refine sx_move rfl rfl ?_
            refine sx_split 123 rfl (fun hb29 => ?_) (fun hb29 => ?_)
            · refine sx_off rfl rfl rfl rfl rfl ?_
              refine sx_off rfl rfl rfl rfl rfl ?_
              refine sx_off rfl rfl rfl rfl rfl ?_
              refine sx_off rfl rfl rfl rfl rfl ?_
              refine sx_off rfl rfl rfl rfl rfl ?_
              refine sx_pick rfl rfl rfl ?_
              refine sx_buildA tyZ80 Try.underlying80 tyS4 rfl rfl (by first | (simp only [List.take_succ_cons, List.take_zero, List.drop_succ_cons, List.drop_zero, List.cons_append, List.nil_append, List.append_nil, List.length_cons, List.length_nil, Nat.reduceAdd, Nat.zero_add, Nat.add_zero, Value.cells, wrV, zrep_one, List.replicate_succ, List.replicate_zero, Nat.reduceMul, Nat.zero_mul]; first | done | rfl) | rfl) rfl ?_
              refine sx_store 1 rfl rfl rfl tyS80 (by first | (simp only [Value.cells]; first | done | rfl) | rfl) rfl rfl (by first | (simp only [List.length_cons, List.length_nil, Nat.reduceAdd, Nat.zero_add, Nat.add_zero]; first | done | rfl) | rfl) (by first | (simp only [List.take_succ_cons, List.take_zero, List.drop_succ_cons, List.drop_zero, List.cons_append, List.nil_append, List.append_nil, List.length_cons, List.length_nil, Nat.reduceAdd, Nat.zero_add, Nat.add_zero, Value.cells, wrV]; first | done | rfl) | rfl) (by first | (simp only [List.set_cons_succ, List.set_cons_zero]; first | done | rfl) | rfl) ?_
              refine sx_nil (hZ _ _ (nx_cut () trivial ?_ ?_))
              · exact Kn.cons rfl (Kn.cons rfl (Kn.cons rfl (Kn.cons rfl (Kn.cons rfl (Kn.cons rfl (Kn.cons rfl (Kn.cons rfl Kn.nil)))))))
              · (subst hb2; subst hb11; subst hb20; subst hb29; exact HLe.drop 1 rfl)
            · refine sx_on rfl rfl rfl ?_
              refine sx_fieldAddr rfl tyF39_2 (by first | (simp only [Nat.reduceAdd, Nat.add_zero, Nat.zero_add]; first | done | rfl) | rfl) rfl ?_
              refine sx_on rfl rfl rfl ?_
              refine sx_load 0 rfl rfl tyA3 tyS3 rfl rfl ?_
              refine sx_on rfl rfl rfl ?_
              refine sx_fieldAddr rfl tyF33_4 (by first | (simp only [Nat.reduceAdd, Nat.add_zero, Nat.zero_add]; first | done | rfl) | rfl) rfl ?_
              refine sx_on rfl rfl rfl ?_
              refine sx_load 2 rfl rfl tyA3 tyS3 rfl rfl ?_
              refine sx_on rfl rfl rfl ?_
              refine sx_eql rfl rfl rfl ?_
              rw [hv4]
              refine sx_pick rfl rfl rfl ?_
              refine sx_buildA tyZ80 Try.underlying80 tyS4 rfl rfl (by first | (simp only [List.take_succ_cons, List.take_zero, List.drop_succ_cons, List.drop_zero, List.cons_append, List.nil_append, List.append_nil, List.length_cons, List.length_nil, Nat.reduceAdd, Nat.zero_add, Nat.add_zero, Value.cells, wrV, zrep_one, List.replicate_succ, List.replicate_zero, Nat.reduceMul, Nat.zero_mul]; first | done | rfl) | rfl) rfl ?_
              refine sx_store 1 rfl rfl rfl tyS80 (by first | (simp only [Value.cells]; first | done | rfl) | rfl) rfl rfl (by first | (simp only [List.length_cons, List.length_nil, Nat.reduceAdd, Nat.zero_add, Nat.add_zero]; first | done | rfl) | rfl) (by first | (simp only [List.take_succ_cons, List.take_zero, List.drop_succ_cons, List.drop_zero, List.cons_append, List.nil_append, List.append_nil, List.length_cons, List.length_nil, Nat.reduceAdd, Nat.zero_add, Nat.add_zero, Value.cells, wrV]; first | done | rfl) | rfl) (by first | (simp only [List.set_cons_succ, List.set_cons_zero]; first | done | rfl) | rfl) ?_
              refine sx_nil (hZ _ _ (nx_cut () trivial ?_ ?_))
              · exact Kn.cons rfl (Kn.cons rfl (Kn.cons rfl (Kn.cons rfl (Kn.cons rfl (Kn.cons rfl (Kn.cons rfl (Kn.cons rfl Kn.nil)))))))
              · (subst hb2; subst hb11; subst hb20; subst hb29; exact HLe.drop 1 rfl)
          · refine sx_on rfl rfl rfl ?_
            refine sx_fieldAddr rfl tyF39_2 (by first | (simp only [Nat.reduceAdd, Nat.add_zero, Nat.zero_add]; first | done | rfl) | rfl) rfl ?_
            refine sx_on rfl rfl rfl ?_
            refine sx_load 0 rfl rfl tyA3 tyS3 rfl rfl ?_
            refine sx_on rfl rfl rfl ?_
            refine sx_fieldAddr rfl tyF33_2 (by first | (simp only [Nat.reduceAdd, Nat.add_zero, Nat.zero_add]; first | done | rfl) | rfl) rfl ?_
            refine sx_on rfl rfl rfl ?_
            refine sx_load 2 rfl rfl tyA3 tyS3 rfl rfl ?_
            refine sx_on rfl rfl rfl ?_
            refine sx_eql rfl rfl rfl ?_
            rw [hv3]
            refine sx_pick rfl rfl rfl ?_
            refine sx_indexAddrA 3 Try.underlying80 tyS4 rfl rfl (by omega) rfl rfl ?_
            refine sx_load 1 rfl rfl tyA4 tyS4 rfl rfl ?_
            refine sx_move rfl rfl ?_
            refine sx_split 123 rfl (fun hb29 => ?_) (fun hb29 => ?_)
            · refine sx_off rfl rfl rfl rfl rfl ?_
              refine sx_off rfl rfl rfl rfl rfl ?_
              refine sx_off rfl rfl rfl rfl rfl ?_
              refine sx_off rfl rfl rfl rfl rfl ?_
              refine sx_off rfl rfl rfl rfl rfl ?_
              refine sx_pick rfl rfl rfl ?_
              refine sx_buildA tyZ80 Try.underlying80 tyS4 rfl rfl (by first | (simp only [List.take_succ_cons, List.take_zero, List.drop_succ_cons, List.drop_zero, List.cons_append, List.nil_append, List.append_nil, List.length_cons, List.length_nil, Nat.reduceAdd, Nat.zero_add, Nat.add_zero, Value.cells, wrV, zrep_one, List.replicate_succ, List.replicate_zero, Nat.reduceMul, Nat.zero_mul]; first | done | rfl) | rfl) rfl ?_
              refine sx_store 1 rfl rfl rfl tyS80 (by first | (simp only [Value.cells]; first | done | rfl) | rfl) rfl rfl (by first | (simp only [List.length_cons, List.length_nil, Nat.reduceAdd, Nat.zero_add, Nat.add_zero]; first | done | rfl) | rfl) (by first | (simp only [List.take_succ_cons, List.take_zero, List.drop_succ_cons, List.drop_zero, List.cons_append, List.nil_append, List.append_nil, List.length_cons, List.length_nil, Nat.reduceAdd, Nat.zero_add, Nat.add_zero, Value.cells, wrV]; first | done | rfl) | rfl) (by first | (simp only [List.set_cons_succ, List.set_cons_zero]; first | done | rfl) | rfl) ?_
              refine sx_nil (hZ _ _ (nx_cut () trivial ?_ ?_))
              · exact Kn.cons rfl (Kn.cons rfl (Kn.cons rfl (Kn.cons rfl (Kn.cons rfl (Kn.cons rfl (Kn.cons rfl (Kn.cons rfl Kn.nil)))))))
              · (subst hb2; subst hb11; subst hb20; subst hb29; exact HLe.drop 1 rfl)
            · refine sx_on rfl rfl rfl ?_
              refine sx_fieldAddr rfl tyF39_2 (by first | (simp only [Nat.reduceAdd, Nat.add_zero, Nat.zero_add]; first | done | rfl) | rfl) rfl ?_
              refine sx_on rfl rfl rfl ?_
              refine sx_load 0 rfl rfl tyA3 tyS3 rfl rfl ?_
              refine sx_on rfl rfl rfl ?_
              refine sx_fieldAddr rfl tyF33_4 (by first | (simp only [Nat.reduceAdd, Nat.add_zero, Nat.zero_add]; first | done | rfl) | rfl) rfl ?_
              refine sx_on rfl rfl rfl ?_
              refine sx_load 2 rfl rfl tyA3 tyS3 rfl rfl ?_
              refine sx_on rfl rfl rfl ?_
              refine sx_eql rfl rfl rfl ?_
              rw [hv4]
              refine sx_pick rfl rfl rfl ?_
              refine sx_buildA tyZ80 Try.underlying80 tyS4 rfl rfl (by first | (simp only [List.take_succ_cons, List.take_zero, List.drop_succ_cons, List.drop_zero, List.cons_append, List.nil_append, List.append_nil, List.length_cons, List.length_nil, Nat.reduceAdd, Nat.zero_add, Nat.add_zero, Value.cells, wrV, zrep_one, List.replicate_succ, List.replicate_zero, Nat.reduceMul, Nat.zero_mul]; first | done | rfl) | rfl) rfl ?_
              refine sx_store 1 rfl rfl rfl tyS80 (by first | (simp only [Value.cells]; first | done | rfl) | rfl) rfl rfl (by first | (simp only [List.length_cons, List.length_nil, Nat.reduceAdd, Nat.zero_add, Nat.add_zero]; first | done | rfl) | rfl) (by first | (simp only [List.take_succ_cons, List.take_zero, List.drop_succ_cons, List.drop_zero, List.cons_append, List.nil_append, List.append_nil, List.length_cons, List.length_nil, Nat.reduceAdd, Nat.zero_add, Nat.add_zero, Value.cells, wrV]; first | done | rfl) | rfl) (by first | (simp only [List.set_cons_succ, List.set_cons_zero]; first | done | rfl) | rfl) ?_
              refine sx_nil (hZ _ _ (nx_cut () trivial ?_ ?_))
              · exact Kn.cons rfl (Kn.cons rfl (Kn.cons rfl (Kn.cons rfl (Kn.cons rfl (Kn.cons rfl (Kn.cons rfl (Kn.cons rfl Kn.nil)))))))
              · (subst hb2; subst hb11; subst hb20; subst hb29; exact HLe.drop 1 rfl)
        · refine sx_on rfl rfl rfl ?_
          refine sx_fieldAddr rfl tyF39_1 (by first | (simp only [Nat.reduceAdd, Nat.add_zero, Nat.zero_add]; first | done | rfl) | rfl) rfl ?_
          refine sx_on rfl rfl rfl ?_
          refine sx_load 0 rfl rfl tyA3 tyS3 rfl rfl ?_
          refine sx_on rfl rfl rfl ?_
          refine sx_fieldAddr rfl tyF33_3 (by first | (simp only [Nat.reduceAdd, Nat.add_zero, Nat.zero_add]; first | done | rfl) | rfl) rfl ?_
          refine sx_on rfl rfl rfl ?_
          refine sx_load 2 rfl rfl tyA3 tyS3 rfl rfl ?_
          refine sx_on rfl rfl rfl ?_
          refine sx_eql rfl rfl rfl ?_
          rw [hv2]
          refine sx_pick rfl rfl rfl ?_
          refine sx_indexAddrA 2 Try.underlying80 tyS4 rfl rfl (by omega) rfl rfl ?_
          refine sx_load 1 rfl rfl tyA4 tyS4 rfl rfl ?_
          refine sx_move rfl rfl ?_
          refine sx_split 114 rfl (fun hb20 => ?_) (fun hb20 => ?_)
          · refine sx_off rfl rfl rfl rfl rfl ?_
            refine sx_off rfl rfl rfl rfl rfl ?_
            refine sx_off rfl rfl rfl rfl rfl ?_
            refine sx_off rfl rfl rfl rfl rfl ?_
            refine sx_off rfl rfl rfl rfl rfl ?_
            refine sx_pick rfl rfl rfl ?_
            refine sx_indexAddrA 3 Try.underlying80 tyS4 rfl rfl (by omega) rfl rfl ?_
            refine sx_load 1 rfl rfl tyA4 tyS4 rfl rfl ?_
            refine sx_move rfl rfl ?_
            refine sx_split 123 rfl (fun hb29 => ?_) (fun hb29 => ?_)
            · refine sx_off rfl rfl rfl rfl rfl ?_
              refine sx_off rfl rfl rfl rfl rfl ?_
              refine sx_off rfl rfl rfl rfl rfl ?_
              refine sx_off rfl rfl rfl rfl rfl ?_
              refine sx_off rfl rfl rfl rfl rfl ?_
              refine sx_pick rfl rfl rfl ?_
              refine sx_buildA tyZ80 Try.underlying80 tyS4 rfl rfl (by first | (simp only [List.take_succ_cons, List.take_zero, List.drop_succ_cons, List.drop_zero, List.cons_append, List.nil_append, List.append_nil, List.length_cons, List.length_nil, Nat.reduceAdd, Nat.zero_add, Nat.add_zero, Value.cells, wrV, zrep_one, List.replicate_succ, List.replicate_zero, Nat.reduceMul, Nat.zero_mul]; first | done | rfl) | rfl) rfl ?_
              refine sx_store 1 rfl rfl rfl tyS80 (by first | (simp only [Value.cells]; first | done | rfl) | rfl) rfl rfl (by first | (simp only [List.length_cons, List.length_nil, Nat.reduceAdd, Nat.zero_add, Nat.add_zero]; first | done | rfl) | rfl) (by first | (simp only [List.take_succ_cons, List.take_zero, List.drop_succ_cons, List.drop_zero, List.cons_append, List.nil_append, List.append_nil, List.length_cons, List.length_nil, Nat.reduceAdd, Nat.zero_add, Nat.add_zero, Value.cells, wrV]; first | done | rfl) | rfl) (by first | (simp only [List.set_cons_succ, List.set_cons_zero]; first | done | rfl) | rfl) ?_
              refine sx_nil (hZ _ _ (nx_cut () trivial ?_ ?_))
              · exact Kn.cons rfl (Kn.cons rfl (Kn.cons rfl (Kn.cons rfl (Kn.cons rfl (Kn.cons rfl (Kn.cons rfl (Kn.cons rfl Kn.nil)))))))
              · (subst hb2; subst hb11; subst hb20; subst hb29; exact HLe.drop 1 rfl)
            · refine sx_on rfl rfl rfl ?_
              refine sx_fieldAddr rfl tyF39_2 (by first | (simp only [Nat.reduceAdd, Nat.add_zero, Nat.zero_add]; first | done | rfl) | rfl) rfl ?_
              refine sx_on rfl rfl rfl ?_
              refine sx_load 0 rfl rfl tyA3 tyS3 rfl rfl ?_
              refine sx_on rfl rfl rfl ?_
              refine sx_fieldAddr rfl tyF33_4 (by first | (simp only [Nat.reduceAdd, Nat.add_zero, Nat.zero_add]; first | done | rfl) | rfl) rfl ?_
              refine sx_on rfl rfl rfl ?_
              refine sx_load 2 rfl rfl tyA3 tyS3 rfl rfl ?_
              refine sx_on rfl rfl rfl ?_
              refine sx_eql rfl rfl rfl ?_
              rw [hv4]
              refine sx_pick rfl rfl rfl ?_
              refine sx_buildA tyZ80 Try.underlying80 tyS4 rfl rfl (by first | (simp only [List.take_succ_cons, List.take_zero, List.drop_succ_cons, List.drop_zero, List.cons_append, List.nil_append, List.append_nil, List.length_cons, List.length_nil, Nat.reduceAdd, Nat.zero_add, Nat.add_zero, Value.cells, wrV, zrep_one, List.replicate_succ, List.replicate_zero, Nat.reduceMul, Nat.zero_mul]; first | done | rfl) | rfl) rfl ?_
              refine sx_store 1 rfl rfl rfl tyS80 (by first | (simp only [Value.cells]; first | done | rfl) | rfl) rfl rfl (by first | (simp only [List.length_cons, List.length_nil, Nat.reduceAdd, Nat.zero_add, Nat.add_zero]; first | done | rfl) | rfl) (by first | (simp only [List.take_succ_cons, List.take_zero, List.drop_succ_cons, List.drop_zero, List.cons_append, List.nil_append, List.append_nil, List.length_cons, List.length_nil, Nat.reduceAdd, Nat.zero_add, Nat.add_zero, Value.cells, wrV]; first | done | rfl) | rfl) (by first | (simp only [List.set_cons_succ, List.set_cons_zero]; first | done | rfl) | rfl) ?_
              refine sx_nil (hZ _ _ (nx_cut () trivial ?_ ?_))
              · exact Kn.cons rfl (Kn.cons rfl (Kn.cons rfl (Kn.cons rfl (Kn.cons rfl (Kn.cons rfl (Kn.cons rfl (Kn.cons rfl Kn.nil)))))))
              · (subst hb2; subst hb11; subst hb20; subst hb29; exact HLe.drop 1 rfl)
          · refine sx_on rfl rfl rfl ?_
            refine sx_fieldAddr rfl tyF39_2 (by first | (simp only [Nat.reduceAdd, Nat.add_zero, Nat.zero_add]; first | done | rfl) | rfl) rfl ?_
            refine sx_on rfl rfl rfl ?_
            refine sx_load 0 rfl rfl tyA3 tyS3 rfl rfl ?_
            refine sx_on rfl rfl rfl ?_
            refine sx_fieldAddr rfl tyF33_2 (by first | (simp only [Nat.reduceAdd, Nat.add_zero, Nat.zero_add]; first | done | rfl) | rfl) rfl ?_
            refine sx_on rfl rfl rfl ?_
            refine sx_load 2 rfl rfl tyA3 tyS3 rfl rfl ?_
            refine sx_on rfl rfl rfl ?_
            refine sx_eql rfl rfl rfl ?_
            rw [hv3]
            refine sx_pick rfl rfl rfl ?_
            refine sx_indexAddrA 3 Try.underlying80 tyS4 rfl rfl (by omega) rfl rfl ?_
            refine sx_load 1 rfl rfl tyA4 tyS4 rfl rfl ?_
            refine sx_move rfl rfl ?_
            refine sx_split 123 rfl (fun hb29 => ?_) (fun hb29 => ?_)
            · refine sx_off rfl rfl rfl rfl rfl ?_
              refine sx_off rfl rfl rfl rfl rfl ?_
              refine sx_off rfl rfl rfl rfl rfl ?_
              refine sx_off rfl rfl rfl rfl rfl ?_
              refine sx_off rfl rfl rfl rfl rfl ?_
              refine sx_pick rfl rfl rfl ?_
              refine sx_buildA tyZ80 Try.underlying80 tyS4 rfl rfl (by first | (simp only [List.take_succ_cons, List.take_zero, List.drop_succ_cons, List.drop_zero, List.cons_append, List.nil_append, List.append_nil, List.length_cons, List.length_nil, Nat.reduceAdd, Nat.zero_add, Nat.add_zero, Value.cells, wrV, zrep_one, List.replicate_succ, List.replicate_zero, Nat.reduceMul, Nat.zero_mul]; first | done | rfl) | rfl) rfl ?_
              refine sx_store 1 rfl rfl rfl tyS80 (by first | (simp only [Value.cells]; first | done | rfl) | rfl) rfl rfl (by first | (simp only [List.length_cons, List.length_nil, Nat.reduceAdd, Nat.zero_add, Nat.add_zero]; first | done | rfl) | rfl) (by first | (simp only [List.take_succ_cons, List.take_zero, List.drop_succ_cons, List.drop_zero, List.cons_append, List.nil_append, List.append_nil, List.length_cons, List.length_nil, Nat.reduceAdd, Nat.zero_add, Nat.add_zero, Value.cells, wrV]; first | done | rfl) | rfl) (by first | (simp only [List.set_cons_succ, List.set_cons_zero]; first | done | rfl) | rfl) ?_
              refine sx_nil (hZ _ _ (nx_cut () trivial ?_ ?_))
              · exact Kn.cons rfl (Kn.cons rfl (Kn.cons rfl (Kn.cons rfl (Kn.cons rfl (Kn.cons rfl (Kn.cons rfl (Kn.cons rfl Kn.nil)))))))
              · (subst hb2; subst hb11; subst hb20; subst hb29; exact HLe.drop 1 rfl)
            · refine sx_on rfl rfl rfl ?_
              refine sx_fieldAddr rfl tyF39_2 (by first | (simp only [Nat.reduceAdd, Nat.add_zero, Nat.zero_add]; first | done | rfl) | rfl) rfl ?_
              refine sx_on rfl rfl rfl ?_
              refine sx_load 0 rfl rfl tyA3 tyS3 rfl rfl ?_
              refine sx_on rfl rfl rfl ?_
              refine sx_fieldAddr rfl tyF33_4 (by first | (simp only [Nat.reduceAdd, Nat.add_zero, Nat.zero_add]; first | done | rfl) | rfl) rfl ?_
              refine sx_on rfl rfl rfl ?_
              refine sx_load 2 rfl rfl tyA3 tyS3 rfl rfl ?_
              refine sx_on rfl rfl rfl ?_
              refine sx_eql rfl rfl rfl ?_
              rw [hv4]
              refine sx_pick rfl rfl rfl ?_
              refine sx_buildA tyZ80 Try.underlying80 tyS4 rfl rfl (by first | (simp only [List.take_succ_cons, List.take_zero, List.drop_succ_cons, List.drop_zero, List.cons_append, List.nil_append, List.append_nil, List.length_cons, List.length_nil, Nat.reduceAdd, Nat.zero_add, Nat.add_zero, Value.cells, wrV, zrep_one, List.replicate_succ, List.replicate_zero, Nat.reduceMul, Nat.zero_mul]; first | done | rfl) | rfl) rfl ?_
              refine sx_store 1 rfl rfl rfl tyS80 (by first | (simp only [Value.cells]; first | done | rfl) | rfl) rfl rfl (by first | (simp only [List.length_cons, List.length_nil, Nat.reduceAdd, Nat.zero_add, Nat.add_zero]; first | done | rfl) | rfl) (by first | (simp only [List.take_succ_cons, List.take_zero, List.drop_succ_cons, List.drop_zero, List.cons_append, List.nil_append, List.append_nil, List.length_cons, List.length_nil, Nat.reduceAdd, Nat.zero_add, Nat.add_zero, Value.cells, wrV]; first | done | rfl) | rfl) (by first | (simp only [List.set_cons_succ, List.set_cons_zero]; first | done | rfl) | rfl) ?_
              refine sx_nil (hZ _ _ (nx_cut () trivial ?_ ?_))
              · exact Kn.cons rfl (Kn.cons rfl (Kn.cons rfl (Kn.cons rfl (Kn.cons rfl (Kn.cons rfl (Kn.cons rfl (Kn.cons rfl Kn.nil)))))))
              · (subst hb2; subst hb11; subst hb20; subst hb29; exact HLe.drop 1 rfl)
    repeat (with_reducible refine nx_block_normal ?_)
    with_reducible refine nx_normal ?_
    refine awp_region (fun Z hZ => ?_)
    refine sx_move rfl rfl ?_
    refine sx_add rfl rfl ((i + 1 : Nat) : Int) (by rw [IntWalk.i64_in _ (by omega)]; omega) rfl ?_
    refine sx_assign rfl rfl ?_
    refine sx_nil (hZ _ _ ?_)
    refine nx_forget [(1, _), (5, _), (7, _), (9, _), (11, _), (12, _), (13, _), (14, _)] (Kn.cons rfl (Kn.cons rfl (Kn.cons rfl (Kn.cons rfl (Kn.cons rfl (Kn.cons rfl (Kn.cons rfl (Kn.cons rfl (Kn.nil))))))))) ?_
    refine nx_round (i + 1) hlt (by omega) (Kn.cons rfl (Kn.cons rfl (Kn.cons rfl (Kn.cons rfl (Kn.cons rfl (Kn.cons rfl (Kn.cons (by rw [e1]; rfl) (Kn.cons rfl Kn.nil)))))))) ?_
    show HLe (.own g4 80 (b4 (sdQ tx z s.r.a (O.take (i + 1))) (sdQ tx z s.r.c (O.take (i + 1))) (sdQ ty z s.r.b (O.take (i + 1))) (sdQ ty z s.r.d (O.take (i + 1)))) :: _) _
    rw [s1, s2, s3, s4]
    exact HLe.refl _
  · refine awp_exit ?_
    repeat (with_reducible refine nx_then_exit ?_)
    with_reducible refine nx_block_exit ?_
    with_reducible refine nx_normal ?_
    obtain rfl : i = O.length := by simp at h11; omega
    rw [List.take_length, hs, sdQ_all (his.xa h0), sdQ_all (his.xc h0), sdQ_all (his.yb h0), sdQ_all (his.yd h0)]
    refine awp_heap (.own g4 80 (b4 true true true true) :: .own g3 33 s.r.cells :: .own g2 29 [.slice A1 O.length c1] :: .own g1 78 x.cells :: roE A1 (icells O)) (HLe.sub (.cons_cons _ (List.sublist_append_left _ _))) ?_

    refine awp_seq ?_
    refine awp_seq_region (fun Z hZ => ?_)
    refine sx_loadA 0 rfl rfl tyA80 tyS80 (by first | (simp only [List.length_cons, List.length_nil, Nat.reduceAdd, Nat.zero_add, Nat.add_zero]; first | done | rfl) | rfl) (by first | (simp only [List.take_succ_cons, List.take_zero, List.drop_succ_cons, List.drop_zero, List.cons_append, List.nil_append, List.append_nil, List.length_cons, List.length_nil, Nat.reduceAdd, Nat.zero_add, Nat.add_zero, Value.cells, wrV]; first | done | rfl) | rfl) rfl ?_
    refine sx_buildA tyZ80 Try.underlying80 tyS4 rfl rfl (by first | (simp only [List.take_succ_cons, List.take_zero, List.drop_succ_cons, List.drop_zero, List.cons_append, List.nil_append, List.append_nil, List.length_cons, List.length_nil, Nat.reduceAdd, Nat.zero_add, Nat.add_zero, Value.cells, wrV, zrep_one, List.replicate_succ, List.replicate_zero, Nat.reduceMul, Nat.zero_mul]; first | done | rfl) | rfl) rfl ?_
    refine sx_aneq bool4_eq guard_b4 rfl rfl rfl ?_
    refine sx_move rfl rfl ?_
    refine sx_force 134 rfl false (by first | rfl | (simp; done) | (simp; omega) | (simp; assumption)) ?_
    refine sx_on rfl rfl rfl ?_
    refine sx_move rfl rfl ?_
    refine sx_on rfl rfl rfl ?_
    refine sx_loadA 2 rfl rfl tyA29 tyS29 (by first | (simp only [List.length_cons, List.length_nil, Nat.reduceAdd, Nat.zero_add, Nat.add_zero]; first | done | rfl) | rfl) (by first | (simp only [List.take_succ_cons, List.take_zero, List.drop_succ_cons, List.drop_zero, List.cons_append, List.nil_append, List.append_nil, List.length_cons, List.length_nil, Nat.reduceAdd, Nat.zero_add, Nat.add_zero, Value.cells, wrV]; first | done | rfl) | rfl) rfl ?_
    refine sx_on rfl rfl rfl ?_
    refine sx_move rfl rfl ?_
    refine sx_on rfl rfl rfl ?_
    refine sx_callV (roE A1 (icells O)) hct rfl (HLe.drop 4 rfl) (Ro.roE _ _) rfl ?_
    refine sx_on rfl rfl rfl ?_
    refine sx_neq rfl rfl rfl ?_
    refine sx_pick rfl rfl rfl ?_
    refine sx_nil (hZ _ _ ?_)
    refine awp_forget [(1, _), (5, _), (7, _), (9, _), (13, _), (140, _)] (Kn.cons rfl (Kn.cons rfl (Kn.cons rfl (Kn.cons rfl (Kn.cons rfl (Kn.cons rfl (Kn.nil))))))) ?_
    refine awp_cond rfl (fun h19 => ?_) (fun h19 => ?_)
    · exact absurd h19 (by simp)
    refine awp_skip ?_
    with_reducible refine nx_normal ?_
    obtain ⟨Zm, K, e, hR, hx4, -⟩ := holes_both A1 c1 O hA1 hok s.r 4096
    have hKl := hR.len
    refine awp_seq ?_
    refine awp_seq_region (fun Z hZ => ?_)
    refine sx_loadA 2 rfl rfl tyA29 tyS29 (by first | (simp only [List.length_cons, List.length_nil, Nat.reduceAdd, Nat.zero_add, Nat.add_zero]; first | done | rfl) | rfl) (by first | (simp only [List.take_succ_cons, List.take_zero, List.drop_succ_cons, List.drop_zero, List.cons_append, List.nil_append, List.append_nil, List.length_cons, List.length_nil, Nat.reduceAdd, Nat.zero_add, Nat.add_zero, Value.cells, wrV]; first | done | rfl) | rfl) rfl ?_
    refine sx_loadA 1 rfl rfl tyA33 tyS33 (by first | (simp only [List.length_cons, List.length_nil, Nat.reduceAdd, Nat.zero_add, Nat.add_zero]; first | done | rfl) | rfl) (by first | (simp only [List.take_succ_cons, List.take_zero, List.drop_succ_cons, List.drop_zero, List.cons_append, List.nil_append, List.append_nil, List.length_cons, List.length_nil, Nat.reduceAdd, Nat.zero_add, Nat.add_zero, Value.cells, wrV]; first | done | rfl) | rfl) rfl ?_
    refine sx_callIX (fun u => .tuple #[u, iq e]) (roE A1 (icells O)) hx4 rfl (HLe.drop 4 rfl) (Ro.roE _ _) rfl (fun A4 c4 hA4 => ?_)
    refine sx_move rfl rfl ?_
    refine sx_extract rfl rfl rfl ?_
    refine sx_extract rfl rfl rfl ?_
    refine sx_assign rfl rfl ?_
    refine sx_assign rfl rfl ?_
    refine sx_nil (hZ _ _ ?_)
    refine awp_forget [(1, _), (5, _), (7, _), (9, _), (13, _), (17, _), (18, _)] (Kn.cons rfl (Kn.cons rfl (Kn.cons rfl (Kn.cons rfl (Kn.cons rfl (Kn.cons rfl (Kn.cons rfl (Kn.nil)))))))) ?_
    refine awp_heap (.own g3 33 s.r.cells :: .own g2 29 [.slice A1 O.length c1] :: .own g1 78 x.cells :: roE A1 (icells O)) (HLe.sub ((List.sublist_cons_self _ _).trans (List.sublist_append_left _ _))) ?_
    obtain ⟨M, hM⟩ : ∃ M, putQ x.id x.tx O = M := ⟨_, rfl⟩
    have hokM : ChOk M := by rw [← hM]; exact hok.putQ _ _
    have hids := put_ids hok.rise x.id x.tx
    rw [hM] at hids
    obtain ⟨pe, hpe⟩ : ∃ e, putE x.id x.tx O = e := ⟨_, rfl⟩
    have htM := ar_is_all z M
    obtain ⟨t, ht⟩ : ∃ t, arZ M z = t := ⟨_, rfl⟩
    rw [ht] at htM
    obtain ⟨m0, m1, m2, m3, m4⟩ := ar_more hok hokM his htM h0 hids
    refine awp_cut (ι := Unit) (fun _ => [(1, iq z), (5, ptr g1 0), (7, ptr g2 0), (9, ptr g3 0), (179, .bool false)]) (fun _ => .own g3 33 s.r.cells :: .own g2 29 [.slice A1 O.length c1] :: .own g1 78 x.cells :: roE A1 (icells O)) (fun _ => True) ?_ ?_
    · have hfe : ∀ q, q = decide (sizeQ s.r = s.n) → fullQx s = q := fun q hq => by
        rw [hq]
        unfold fullQx
        rw [Bool.eq_iff_iff, decide_eq_true_iff, decide_eq_true_iff]
        omega
      rcases hR with ⟨he, hK0, hw⟩ | ⟨rfl, a', b', c', d', hr', hKe, _⟩
      · have he21 : e = 21 ∧ 4096 + s.n < sizeQ s.r := by
          rcases hw with ⟨h1, _⟩ | ⟨_, _, h1, _⟩ | ⟨_, _, _, h1, h2⟩
          · omega
          · exact absurd hrc.chk h1
          · rw [hcr] at h2
            exact ⟨h1, by omega⟩
        obtain ⟨rfl, hgt⟩ := he21
        rw [hfe false (by rw [eq_comm, decide_eq_false_iff_not]; omega)] at hfl
        subst hK0

        refine awp_region (fun Z hZ => ?_)
        refine sx_move rfl rfl ?_
        refine sx_eql rfl rfl rfl ?_
        refine sx_move rfl rfl ?_
        refine sx_force 149 rfl false (by first | rfl | (simp; done) | (simp; omega) | (simp; assumption)) ?_
        refine sx_off rfl rfl rfl rfl rfl ?_
        refine sx_off rfl rfl rfl rfl rfl ?_
        refine sx_off rfl rfl rfl rfl rfl ?_
        refine sx_off rfl rfl rfl rfl rfl ?_
        refine sx_off rfl rfl rfl rfl rfl ?_
        refine sx_off rfl rfl rfl rfl rfl ?_
        refine sx_off rfl rfl rfl rfl rfl ?_
        refine sx_off rfl rfl rfl rfl rfl ?_
        refine sx_offU rfl rfl rfl rfl ?_
        refine sx_offU rfl rfl rfl rfl ?_
        refine sx_offU rfl rfl rfl rfl ?_
        refine sx_offU rfl rfl rfl rfl ?_
        refine sx_offU rfl rfl rfl rfl ?_
        refine sx_offU rfl rfl rfl rfl ?_
        refine sx_offU rfl rfl rfl rfl ?_
        refine sx_off rfl rfl rfl rfl rfl ?_
        refine sx_pick rfl rfl rfl ?_
        refine sx_move rfl rfl ?_
        refine sx_force 167 rfl false (by first | rfl | (simp; done) | (simp; omega) | (simp; assumption)) ?_
        refine sx_on rfl rfl rfl ?_
        refine sx_move rfl rfl ?_
        refine sx_on rfl rfl rfl ?_
        refine sx_neq rfl rfl rfl ?_
        refine sx_on rfl rfl rfl ?_
        refine sx_move rfl rfl ?_
        refine sx_force 170 rfl true (by first | rfl | (simp; done) | (simp; omega) | (simp; assumption)) ?_
        refine sx_on rfl rfl rfl ?_
        refine sx_move rfl rfl ?_
        refine sx_on rfl rfl rfl ?_
        refine sx_neq rfl rfl rfl ?_
        refine sx_on rfl rfl rfl ?_
        refine sx_move rfl rfl ?_
        refine sx_force 173 rfl false (by first | rfl | (simp; done) | (simp; omega) | (simp; assumption)) ?_
        refine sx_on rfl rfl rfl ?_
        refine sx_loadA 1 rfl rfl tyA29 tyS29 (by first | (simp only [List.length_cons, List.length_nil, Nat.reduceAdd, Nat.zero_add, Nat.add_zero]; first | done | rfl) | rfl) (by first | (simp only [List.take_succ_cons, List.take_zero, List.drop_succ_cons, List.drop_zero, List.cons_append, List.nil_append, List.append_nil, List.length_cons, List.length_nil, Nat.reduceAdd, Nat.zero_add, Nat.add_zero, Value.cells, wrV]; first | done | rfl) | rfl) rfl ?_
        refine sx_on rfl rfl rfl ?_
        refine sx_move rfl rfl ?_
        refine sx_on rfl rfl rfl ?_
        refine sx_callV (roE A1 (icells O)) hfl rfl (HLe.drop 3 rfl) (Ro.roE _ _) rfl ?_
        refine sx_on rfl rfl rfl ?_
        refine sx_pick rfl rfl rfl ?_
        refine sx_on rfl rfl rfl ?_
        refine sx_pick rfl rfl rfl ?_
        refine sx_pick rfl rfl rfl ?_
        refine sx_nil (hZ _ _ ?_)
        refine nx_forget [(1, _), (5, _), (7, _), (9, _), (179, _)] (Kn.cons rfl (Kn.cons rfl (Kn.cons rfl (Kn.cons rfl (Kn.cons rfl (Kn.nil)))))) ?_
        exact nx_cut () trivial (Kn.cons rfl (Kn.cons rfl (Kn.cons rfl (Kn.cons rfl (Kn.cons rfl Kn.nil))))) (HLe.refl _)
      · have hho := holes_len hr' hok
        rw [← hKe, hcr, ← hr'.size] at hho
        have hcs2 := hcs
        rw [← hho] at hcs2
        by_cases hk : K = []
        · subst hk
          rw [hfe true (by rw [eq_comm, decide_eq_true_iff]; simp at hho; omega)] at hfl

          refine awp_region (fun Z hZ => ?_)
          refine sx_move rfl rfl ?_
          refine sx_eql rfl rfl rfl ?_
          refine sx_move rfl rfl ?_
          refine sx_force 149 rfl true (by first | rfl | (simp; done) | (simp; omega) | (simp; assumption)) ?_
          refine sx_on rfl rfl rfl ?_
          refine sx_move rfl rfl ?_
          refine sx_on rfl rfl rfl ?_
          refine sx_len Try.underlying54 rfl rfl ?_
          refine sx_on rfl rfl rfl ?_
          refine sx_move rfl rfl ?_
          refine sx_on rfl rfl rfl ?_
          refine sx_add rfl rfl ((([] : List (Nat × Nat)).length + s.n : Nat) : Int) (by rw [IntWalk.i64_in _ (by simp at *; omega)]; simp) rfl ?_
          refine sx_on rfl rfl rfl ?_
          refine sx_loadA 0 rfl rfl tyA33 tyS33 (by first | (simp only [List.length_cons, List.length_nil, Nat.reduceAdd, Nat.zero_add, Nat.add_zero]; first | done | rfl) | rfl) (by first | (simp only [List.take_succ_cons, List.take_zero, List.drop_succ_cons, List.drop_zero, List.cons_append, List.nil_append, List.append_nil, List.length_cons, List.length_nil, Nat.reduceAdd, Nat.zero_add, Nat.add_zero, Value.cells, wrV]; first | done | rfl) | rfl) rfl ?_
          refine sx_on rfl rfl rfl ?_
          refine sx_callP hcs2 rfl rfl ?_
          refine sx_on rfl rfl rfl ?_
          refine sx_neq rfl rfl rfl ?_
          refine sx_on rfl rfl rfl ?_
          refine sx_move rfl rfl ?_
          refine sx_force 157 rfl false (by first | rfl | (simp; done) | (simp; omega) | (simp; assumption)) ?_
          refine sx_on rfl rfl rfl ?_
          refine sx_move rfl rfl ?_
          refine sx_on rfl rfl rfl ?_
          refine sx_len Try.underlying54 rfl rfl ?_
          refine sx_on rfl rfl rfl ?_
          refine sx_eql rfl rfl rfl ?_
          refine sx_on rfl rfl rfl ?_
          refine sx_loadA 1 rfl rfl tyA29 tyS29 (by first | (simp only [List.length_cons, List.length_nil, Nat.reduceAdd, Nat.zero_add, Nat.add_zero]; first | done | rfl) | rfl) (by first | (simp only [List.take_succ_cons, List.take_zero, List.drop_succ_cons, List.drop_zero, List.cons_append, List.nil_append, List.append_nil, List.length_cons, List.length_nil, Nat.reduceAdd, Nat.zero_add, Nat.add_zero, Value.cells, wrV]; first | done | rfl) | rfl) rfl ?_
          refine sx_on rfl rfl rfl ?_
          refine sx_move rfl rfl ?_
          refine sx_on rfl rfl rfl ?_
          refine sx_callV (roE A1 (icells O)) hfl rfl (HLe.drop 3 rfl) (Ro.roE _ _) rfl ?_
          refine sx_on rfl rfl rfl ?_
          refine sx_bneq Try.underlying4 rfl rfl rfl ?_
          refine sx_on rfl rfl rfl ?_
          refine sx_pick rfl rfl rfl ?_
          refine sx_pick rfl rfl rfl ?_
          refine sx_move rfl rfl ?_
          refine sx_force 167 rfl false (by first | rfl | (simp; done) | (simp; omega) | (simp; assumption)) ?_
          refine sx_on rfl rfl rfl ?_
          refine sx_move rfl rfl ?_
          refine sx_on rfl rfl rfl ?_
          refine sx_neq rfl rfl rfl ?_
          refine sx_on rfl rfl rfl ?_
          refine sx_move rfl rfl ?_
          refine sx_force 170 rfl false (by first | rfl | (simp; done) | (simp; omega) | (simp; assumption)) ?_
          refine sx_off rfl rfl rfl rfl rfl ?_
          refine sx_off rfl rfl rfl rfl rfl ?_
          refine sx_off rfl rfl rfl rfl rfl ?_
          refine sx_offU rfl rfl rfl rfl ?_
          refine sx_offU rfl rfl rfl rfl ?_
          refine sx_offU rfl rfl rfl rfl ?_
          refine sx_off rfl rfl rfl rfl rfl ?_
          refine sx_on rfl rfl rfl ?_
          refine sx_pick rfl rfl rfl ?_
          refine sx_pick rfl rfl rfl ?_
          refine sx_nil (hZ _ _ ?_)
          refine nx_forget [(1, _), (5, _), (7, _), (9, _), (179, _)] (Kn.cons rfl (Kn.cons rfl (Kn.cons rfl (Kn.cons rfl (Kn.cons rfl (Kn.nil)))))) ?_
          exact nx_cut () trivial (Kn.cons rfl (Kn.cons rfl (Kn.cons rfl (Kn.cons rfl (Kn.cons rfl Kn.nil))))) (HLe.refl _)
        · have hkl := List.length_pos_iff.2 hk
          rw [hfe false (by rw [eq_comm, decide_eq_false_iff_not]; omega)] at hfl

          refine awp_region (fun Z hZ => ?_)
          refine sx_move rfl rfl ?_
          refine sx_eql rfl rfl rfl ?_
          refine sx_move rfl rfl ?_
          refine sx_force 149 rfl true (by first | rfl | (simp; done) | (simp; omega) | (simp; assumption)) ?_
          refine sx_on rfl rfl rfl ?_
          refine sx_move rfl rfl ?_
          refine sx_on rfl rfl rfl ?_
          refine sx_len Try.underlying54 rfl rfl ?_
          refine sx_on rfl rfl rfl ?_
          refine sx_move rfl rfl ?_
          refine sx_on rfl rfl rfl ?_
          refine sx_add rfl rfl ((K.length + s.n : Nat) : Int) (by rw [IntWalk.i64_in _ (by omega)]; omega) rfl ?_
          refine sx_on rfl rfl rfl ?_
          refine sx_loadA 0 rfl rfl tyA33 tyS33 (by first | (simp only [List.length_cons, List.length_nil, Nat.reduceAdd, Nat.zero_add, Nat.add_zero]; first | done | rfl) | rfl) (by first | (simp only [List.take_succ_cons, List.take_zero, List.drop_succ_cons, List.drop_zero, List.cons_append, List.nil_append, List.append_nil, List.length_cons, List.length_nil, Nat.reduceAdd, Nat.zero_add, Nat.add_zero, Value.cells, wrV]; first | done | rfl) | rfl) rfl ?_
          refine sx_on rfl rfl rfl ?_
          refine sx_callP hcs2 rfl rfl ?_
          refine sx_on rfl rfl rfl ?_
          refine sx_neq rfl rfl rfl ?_
          refine sx_on rfl rfl rfl ?_
          refine sx_move rfl rfl ?_
          refine sx_force 157 rfl false (by first | rfl | (simp; done) | (simp; omega) | (simp; assumption)) ?_
          refine sx_on rfl rfl rfl ?_
          refine sx_move rfl rfl ?_
          refine sx_on rfl rfl rfl ?_
          refine sx_len Try.underlying54 rfl rfl ?_
          refine sx_on rfl rfl rfl ?_
          refine sx_eql rfl rfl rfl ?_
          refine sx_on rfl rfl rfl ?_
          refine sx_loadA 1 rfl rfl tyA29 tyS29 (by first | (simp only [List.length_cons, List.length_nil, Nat.reduceAdd, Nat.zero_add, Nat.add_zero]; first | done | rfl) | rfl) (by first | (simp only [List.take_succ_cons, List.take_zero, List.drop_succ_cons, List.drop_zero, List.cons_append, List.nil_append, List.append_nil, List.length_cons, List.length_nil, Nat.reduceAdd, Nat.zero_add, Nat.add_zero, Value.cells, wrV]; first | done | rfl) | rfl) rfl ?_
          refine sx_on rfl rfl rfl ?_
          refine sx_move rfl rfl ?_
          refine sx_on rfl rfl rfl ?_
          refine sx_callV (roE A1 (icells O)) hfl rfl (HLe.drop 3 rfl) (Ro.roE _ _) rfl ?_
          refine sx_on rfl rfl rfl ?_
          refine sx_bneq Try.underlying4 rfl rfl rfl ?_
          refine sx_on rfl rfl rfl ?_
          refine sx_pick rfl rfl rfl ?_
          refine sx_pick rfl rfl rfl ?_
          refine sx_move rfl rfl ?_
          refine sx_force 167 rfl false (by first | rfl | (simp; done) | (simp; omega) | (simp; assumption)) ?_
          refine sx_on rfl rfl rfl ?_
          refine sx_move rfl rfl ?_
          refine sx_on rfl rfl rfl ?_
          refine sx_neq rfl rfl rfl ?_
          refine sx_on rfl rfl rfl ?_
          refine sx_move rfl rfl ?_
          refine sx_force 170 rfl false (by first | rfl | (simp; done) | (simp; omega) | (simp; assumption)) ?_
          refine sx_off rfl rfl rfl rfl rfl ?_
          refine sx_off rfl rfl rfl rfl rfl ?_
          refine sx_off rfl rfl rfl rfl rfl ?_
          refine sx_offU rfl rfl rfl rfl ?_
          refine sx_offU rfl rfl rfl rfl ?_
          refine sx_offU rfl rfl rfl rfl ?_
          refine sx_off rfl rfl rfl rfl rfl ?_
          refine sx_on rfl rfl rfl ?_
          refine sx_pick rfl rfl rfl ?_
          refine sx_pick rfl rfl rfl ?_
          refine sx_nil (hZ _ _ ?_)
          refine nx_forget [(1, _), (5, _), (7, _), (9, _), (179, _)] (Kn.cons rfl (Kn.cons rfl (Kn.cons rfl (Kn.cons rfl (Kn.cons rfl (Kn.nil)))))) ?_
          exact nx_cut () trivial (Kn.cons rfl (Kn.cons rfl (Kn.cons rfl (Kn.cons rfl (Kn.cons (congrArg some (congrArg Value.bool (by first | rfl | (simp; done)))) Kn.nil))))) (HLe.refl _)
    rintro ⟨⟩ -

    refine awp_cond rfl (fun h22 => ?_) (fun h22 => ?_)
    · cases h22
    refine awp_skip ?_
    with_reducible refine nx_normal ?_
    have hb2 := fun (A6 : Option Addr) (c6 : Nat) (hA6 : SlIn A6 M.length c6) => xbox_fn A6 c6 M hA6 hokM z
    rw [ht] at hb2

    refine awp_seq_region (fun Z hZ => ?_)
    refine sx_loadA 1 rfl rfl tyA29 tyS29 (by first | (simp only [List.length_cons, List.length_nil, Nat.reduceAdd, Nat.zero_add, Nat.add_zero]; first | done | rfl) | rfl) (by first | (simp only [List.take_succ_cons, List.take_zero, List.drop_succ_cons, List.drop_zero, List.cons_append, List.nil_append, List.append_nil, List.length_cons, List.length_nil, Nat.reduceAdd, Nat.zero_add, Nat.add_zero, Value.cells, wrV]; first | done | rfl) | rfl) rfl ?_
    refine sx_fieldAddr rfl tyF78_0 (by first | (simp only [Nat.reduceAdd, Nat.add_zero, Nat.zero_add]; first | done | rfl) | rfl) rfl ?_
    refine sx_load 2 rfl rfl tyA66 tyS66 rfl rfl ?_
    refine sx_fieldAddr rfl tyF78_1 (by first | (simp only [Nat.reduceAdd, Nat.add_zero, Nat.zero_add]; first | done | rfl) | rfl) rfl ?_
    refine sx_load 2 rfl rfl tyA9 tyS9 rfl rfl ?_
    refine sx_putE O x.id x.tx hA1 (List.Sublist.cons _ (.cons _ (.cons _ (List.Sublist.refl _)))) hok rfl rfl (fun A6 c6 hA6 => ?_)
    rw [hM, hpe]
    rw [hM] at hA6
    refine sx_move rfl rfl ?_
    refine sx_extract rfl rfl rfl ?_
    refine sx_extract rfl rfl rfl ?_
    refine sx_alloc tyZ29 rfl (fun g6 => ?_)
    refine sx_store 0 rfl rfl rfl tyS29 (by first | (simp only [Value.cells]; first | done | rfl) | rfl) rfl rfl (by first | (simp only [List.length_cons, List.length_nil, Nat.reduceAdd, Nat.zero_add, Nat.add_zero]; first | done | rfl) | rfl) (by first | (simp only [List.take_succ_cons, List.take_zero, List.drop_succ_cons, List.drop_zero, List.cons_append, List.nil_append, List.append_nil, List.length_cons, List.length_nil, Nat.reduceAdd, Nat.zero_add, Nat.add_zero, Value.cells, wrV]; first | done | rfl) | rfl) (by first | (simp only [List.set_cons_succ, List.set_cons_zero]; first | done | rfl) | rfl) ?_
    refine sx_assign rfl rfl ?_
    refine sx_nil (hZ _ _ ?_)
    refine awp_forget [(1, _), (9, _), (19, _), (20, _)] (Kn.cons rfl (Kn.cons rfl (Kn.cons rfl (Kn.cons rfl (Kn.nil))))) ?_
    refine awp_seq_region (fun Z hZ => ?_)
    refine sx_loadA 0 rfl rfl tyA29 tyS29 (by first | (simp only [List.length_cons, List.length_nil, Nat.reduceAdd, Nat.zero_add, Nat.add_zero]; first | done | rfl) | rfl) (by first | (simp only [List.take_succ_cons, List.take_zero, List.drop_succ_cons, List.drop_zero, List.cons_append, List.nil_append, List.append_nil, List.length_cons, List.length_nil, Nat.reduceAdd, Nat.zero_add, Nat.add_zero, Value.cells, wrV]; first | done | rfl) | rfl) rfl ?_
    refine sx_move rfl rfl ?_
    refine sx_callV (roE A6 (icells M)) (hb2 A6 c6 hA6) rfl (HLe.sub (.cons _ (List.sublist_append_right _ _))) (Ro.roE _ _) rfl ?_
    refine sx_move rfl rfl ?_
    refine sx_extract rfl rfl rfl ?_
    refine sx_extract rfl rfl rfl ?_
    refine sx_alloc tyZ33 rfl (fun g7 => ?_)
    refine sx_store 0 rfl rfl rfl tyS33 (by first | (simp only [Value.cells]; first | done | rfl) | rfl) rfl rfl (by first | (simp only [List.length_cons, List.length_nil, Nat.reduceAdd, Nat.zero_add, Nat.add_zero]; first | done | rfl) | rfl) (by first | (simp only [List.take_succ_cons, List.take_zero, List.drop_succ_cons, List.drop_zero, List.cons_append, List.nil_append, List.append_nil, List.length_cons, List.length_nil, Nat.reduceAdd, Nat.zero_add, Nat.add_zero, Value.cells, wrV]; first | done | rfl) | rfl) (by first | (simp only [List.set_cons_succ, List.set_cons_zero]; first | done | rfl) | rfl) ?_
    refine sx_assign rfl rfl ?_
    refine sx_nil (hZ _ _ ?_)
    refine awp_forget [(9, _), (20, _), (21, _), (22, _)] (Kn.cons rfl (Kn.cons rfl (Kn.cons rfl (Kn.cons rfl (Kn.nil))))) ?_
    refine awp_heap [.own g7 33 t.r.cells, .own g3 33 s.r.cells] (HLe.sub (.cons_cons _ (.cons _ (.cons_cons _ (List.nil_sublist _))))) ?_

    by_cases hp0 : pe = 0
    · subst hp0
      refine awp_seq_region (fun Z hZ => ?_)
      refine sx_move rfl rfl ?_
      refine sx_neq rfl rfl rfl ?_
      refine sx_move rfl rfl ?_
      refine sx_force 197 rfl false (by first | rfl | (simp; done) | (simp; omega) | (simp; assumption)) ?_
      refine sx_on rfl rfl rfl ?_
      refine sx_move rfl rfl ?_
      refine sx_on rfl rfl rfl ?_
      refine sx_move rfl rfl ?_
      refine sx_force 199 rfl true (by first | rfl | (simp; done) | (simp; omega) | (simp; assumption)) ?_
      refine sx_on rfl rfl rfl ?_
      refine sx_fieldAddr rfl tyF33_1 (by first | (simp only [Nat.reduceAdd, Nat.add_zero, Nat.zero_add]; first | done | rfl) | rfl) rfl ?_
      refine sx_on rfl rfl rfl ?_
      refine sx_load 0 rfl rfl tyA3 tyS3 rfl rfl ?_
      refine sx_on rfl rfl rfl ?_
      refine sx_fieldAddr rfl tyF33_1 (by first | (simp only [Nat.reduceAdd, Nat.add_zero, Nat.zero_add]; first | done | rfl) | rfl) rfl ?_
      refine sx_on rfl rfl rfl ?_
      refine sx_load 1 rfl rfl tyA3 tyS3 rfl rfl ?_
      refine sx_on rfl rfl rfl ?_
      refine sx_leq rfl rfl rfl ?_
      refine sx_on rfl rfl rfl ?_
      refine sx_pick rfl rfl rfl ?_
      refine sx_on rfl rfl rfl ?_
      refine sx_move rfl rfl ?_
      refine sx_force 206 rfl true (by first | rfl | (simp; done) | (simp; omega) | (simp; assumption)) ?_
      refine sx_on rfl rfl rfl ?_
      refine sx_fieldAddr rfl tyF33_2 (by first | (simp only [Nat.reduceAdd, Nat.add_zero, Nat.zero_add]; first | done | rfl) | rfl) rfl ?_
      refine sx_on rfl rfl rfl ?_
      refine sx_load 0 rfl rfl tyA3 tyS3 rfl rfl ?_
      refine sx_on rfl rfl rfl ?_
      refine sx_fieldAddr rfl tyF33_2 (by first | (simp only [Nat.reduceAdd, Nat.add_zero, Nat.zero_add]; first | done | rfl) | rfl) rfl ?_
      refine sx_on rfl rfl rfl ?_
      refine sx_load 1 rfl rfl tyA3 tyS3 rfl rfl ?_
      refine sx_on rfl rfl rfl ?_
      refine sx_leq rfl rfl rfl ?_
      refine sx_on rfl rfl rfl ?_
      refine sx_pick rfl rfl rfl ?_
      refine sx_on rfl rfl rfl ?_
      refine sx_move rfl rfl ?_
      refine sx_force 213 rfl true (by first | rfl | (simp; done) | (simp; omega) | (simp; assumption)) ?_
      refine sx_on rfl rfl rfl ?_
      refine sx_fieldAddr rfl tyF33_3 (by first | (simp only [Nat.reduceAdd, Nat.add_zero, Nat.zero_add]; first | done | rfl) | rfl) rfl ?_
      refine sx_on rfl rfl rfl ?_
      refine sx_load 0 rfl rfl tyA3 tyS3 rfl rfl ?_
      refine sx_on rfl rfl rfl ?_
      refine sx_fieldAddr rfl tyF33_3 (by first | (simp only [Nat.reduceAdd, Nat.add_zero, Nat.zero_add]; first | done | rfl) | rfl) rfl ?_
      refine sx_on rfl rfl rfl ?_
      refine sx_load 1 rfl rfl tyA3 tyS3 rfl rfl ?_
      refine sx_on rfl rfl rfl ?_
      refine sx_geq rfl rfl rfl ?_
      refine sx_on rfl rfl rfl ?_
      refine sx_pick rfl rfl rfl ?_
      refine sx_on rfl rfl rfl ?_
      refine sx_move rfl rfl ?_
      refine sx_force 220 rfl true (by first | rfl | (simp; done) | (simp; omega) | (simp; assumption)) ?_
      refine sx_on rfl rfl rfl ?_
      refine sx_fieldAddr rfl tyF33_4 (by first | (simp only [Nat.reduceAdd, Nat.add_zero, Nat.zero_add]; first | done | rfl) | rfl) rfl ?_
      refine sx_on rfl rfl rfl ?_
      refine sx_load 0 rfl rfl tyA3 tyS3 rfl rfl ?_
      refine sx_on rfl rfl rfl ?_
      refine sx_fieldAddr rfl tyF33_4 (by first | (simp only [Nat.reduceAdd, Nat.add_zero, Nat.zero_add]; first | done | rfl) | rfl) rfl ?_
      refine sx_on rfl rfl rfl ?_
      refine sx_load 1 rfl rfl tyA3 tyS3 rfl rfl ?_
      refine sx_on rfl rfl rfl ?_
      refine sx_geq rfl rfl rfl ?_
      refine sx_on rfl rfl rfl ?_
      refine sx_pick rfl rfl rfl ?_
      refine sx_pick rfl rfl rfl ?_
      refine sx_move rfl rfl ?_
      refine sx_force 228 rfl true (by first | rfl | (simp; done) | (simp; omega) | (simp; assumption)) ?_
      refine sx_on rfl rfl rfl ?_
      refine sx_callP x44wake_fn rfl rfl ?_
      refine sx_pick rfl rfl rfl ?_
      refine sx_assign rfl rfl ?_
      refine sx_nil (hZ _ _ ?_)
      refine awp_forget [(6, _)] (Kn.cons rfl (Kn.nil)) ?_
      refine awp_ret ?_
      exact nx_ret1 rfl rfl rfl
    · refine awp_seq_region (fun Z hZ => ?_)
      refine sx_move rfl rfl ?_
      refine sx_neq rfl rfl rfl ?_
      refine sx_move rfl rfl ?_
      refine sx_force 197 rfl true (by first | rfl | (simp; done) | (simp; omega) | (simp; assumption)) ?_
      refine sx_off rfl rfl rfl rfl rfl ?_
      refine sx_off rfl rfl rfl rfl rfl ?_
      refine sx_offU rfl rfl rfl rfl ?_
      refine sx_offU rfl rfl rfl rfl ?_
      refine sx_offU rfl rfl rfl rfl ?_
      refine sx_offU rfl rfl rfl rfl ?_
      refine sx_offU rfl rfl rfl rfl ?_
      refine sx_off rfl rfl rfl rfl rfl ?_
      refine sx_off rfl rfl rfl rfl rfl ?_
      refine sx_offU rfl rfl rfl rfl ?_
      refine sx_offU rfl rfl rfl rfl ?_
      refine sx_offU rfl rfl rfl rfl ?_
      refine sx_offU rfl rfl rfl rfl ?_
      refine sx_offU rfl rfl rfl rfl ?_
      refine sx_off rfl rfl rfl rfl rfl ?_
      refine sx_off rfl rfl rfl rfl rfl ?_
      refine sx_offU rfl rfl rfl rfl ?_
      refine sx_offU rfl rfl rfl rfl ?_
      refine sx_offU rfl rfl rfl rfl ?_
      refine sx_offU rfl rfl rfl rfl ?_
      refine sx_offU rfl rfl rfl rfl ?_
      refine sx_off rfl rfl rfl rfl rfl ?_
      refine sx_off rfl rfl rfl rfl rfl ?_
      refine sx_offU rfl rfl rfl rfl ?_
      refine sx_offU rfl rfl rfl rfl ?_
      refine sx_offU rfl rfl rfl rfl ?_
      refine sx_offU rfl rfl rfl rfl ?_
      refine sx_offU rfl rfl rfl rfl ?_
      refine sx_off rfl rfl rfl rfl rfl ?_
      refine sx_pick rfl rfl rfl ?_
      refine sx_move rfl rfl ?_
      refine sx_force 228 rfl true (by first | rfl | (simp; done) | (simp; omega) | (simp; assumption)) ?_
      refine sx_on rfl rfl rfl ?_
      refine sx_callP x44wake_fn rfl rfl ?_
      refine sx_pick rfl rfl rfl ?_
      refine sx_assign rfl rfl ?_
      refine sx_nil (hZ _ _ ?_)
      refine awp_forget [(6, _)] (Kn.cons rfl (Kn.nil)) ?_
      refine awp_ret ?_
      exact nx_ret1 rfl rfl rfl
theorem ExtentLeast_read {H : Type} {enc : TypeId × Value → H} (w : World) {base : Nat} {v0 v1 v2 : Value} {d0 d1 d2 : DataW H} {p0 p1 p2 : List MemPlace}
    (k0 : Value.okWide Try.prog w .any base 22 v0) (h0 : DataW.Trod enc Try.prog w 0 (fun _ => true) true 22 v0 d0 p0)
    (k1 : Value.okWide Try.prog w .any base 3 v1) (h1 : DataW.Trod enc Try.prog w 0 (fun _ => true) true 3 v1 d1 p1)
    (k2 : Value.okWide Try.prog w .any base 78 v2) (h2 : DataW.Trod enc Try.prog w 0 (fun _ => true) true 78 v2 d2 p2) :
    Calls Try.prog 7 #[v0, v1, v2] w fun e w' => e = .returned (.bool true) ∧ Bel w w' := by
  obtain ⟨A, c, L, T, rfl, hA, hL, hE, hT, hro, hS, hc⟩ := open_its k0 h0
  obtain ⟨z, rfl, _, _, _⟩ := ChangeShapes.open_int Try.underlying3 k1 h1
  obtain ⟨cs, rfl, a⟩ := open_struct 5 Try.underlying78 leaves_it k2 h2
  obtain ⟨x, hx, rfl⟩ := it_of cs a
  exact tail_bel hro hS (xleast_fn A c L T hA hT hro hL hE z x hx.2)
namespace extentLeast
open Go.ChangeShapes Go.WideShapes Go.ChangeAt Go.RowKit
theorem own : ownKnob Try.prog.godebug = none := by kernel_rfl
theorem laidOut : laidOutB Try.prog = true := by kernel_rfl
set_option maxRecDepth 100000 in
theorem lifted (os : Os) (started : os.Started) (H : Type) (enc : TypeId × Value → H) :
    ReturnsInHanded {} Try.checked os 7 .any (Rows.extentLeastSpec.pre6 enc Try.prog Try.f7 Rows.extentLeastRow.domain false) (Rows.extentLeastSpec.post enc Try.prog Try.f7 false true false false) := by
  refine returnsInHanded_of_change (C := Try.checked) own started (by kernel_rfl) Try.func7
    (ChangeSpec.witness6 (enc := enc) (C := Try.checked) false ⟨#[], #[.slice none 0 0, .int .i64 0, .agg #[.int .u64 0, .string ⟨#[]⟩]], []⟩ 8 (by kernel_rfl) (by kernel_rfl) (by kernel_rfl) (by kernel_rfl)) ?_
  intro W base args ds gs before hval0 hW hcnd _
  have hval : ∀ (j : Nat) t v, Try.f7.params[j]? = some t → args[j]? = some v → Value.okWide Try.prog W .any base t v := hval0
  have hW' := hW
  obtain ⟨p, q, hA0, hV, rfl, hfz, hnd⟩ := hW
  have hA : DataW.TrodAll enc Try.prog W 0 (fun _ => true) true Try.f7.params.toList args.toList ds p := hA0
  rw [Try.params7] at hA hval
  obtain ⟨v0, vs0, d0, ds0, p0, q0, hargs, rfl, rfl, h0, r0⟩ := trodAll_cons hA
  obtain ⟨v1, vs1, d1, ds1, p1, q1, rfl, rfl, rfl, h1, r1⟩ := trodAll_cons r0
  obtain ⟨v2, vs2, d2, ds2, p2, q2, rfl, rfl, rfl, h2, r2⟩ := trodAll_cons r1
  obtain ⟨rfl, rfl, rfl⟩ := trodAll_nil r2
  obtain rfl : args = #[v0, v1, v2] := by cases args; simp_all
  obtain ⟨rfl, rfl⟩ := trodVars_none hV
  have lt0 : ∀ x ∈ p0, x.block < W.heap.size := by obtain ⟨m, hm⟩ := h0; exact DataW.trod_lt m _ _ _ hm
  have lt1 : ∀ x ∈ p1, x.block < W.heap.size := by obtain ⟨m, hm⟩ := h1; exact DataW.trod_lt m _ _ _ hm
  have lt2 : ∀ x ∈ p2, x.block < W.heap.size := by obtain ⟨m, hm⟩ := h2; exact DataW.trod_lt m _ _ _ hm
  refine (ExtentLeast_read W (hval 0 22 v0 rfl rfl) h0 (hval 1 3 v1 rfl rfl) h1 (hval 2 78 v2 rfl rfl) h2).mono fun e W' ⟨he, bel0⟩ => ?_
  have bel : Below W.heap.size W W' := bel0
  subst he
  exact ⟨_, rfl, _, _, _, [], _, [], hW', trodAll_mk1 (shut_bool Try.underlying4 _), (trodAll_cons_mk (Below.trod laidOut (by kernel_rfl) (of_decide_eq_true (by kernel_rfl)) h0 bel lt0) (trodAll_cons_mk (Below.trod laidOut (by kernel_rfl) (of_decide_eq_true (by kernel_rfl)) h1 bel lt1) (trodAll_cons_mk (Below.trod laidOut (by kernel_rfl) (of_decide_eq_true (by kernel_rfl)) h2 bel lt2) trodAll_mk0))), rfl, bel.frame _, fun h => by cases h⟩
theorem over : Rows.extentLeastRow.holds Try.pinned (OpenSpec.ofChange Rows.extentLeastSpec) :=
  OpenClaim.holds_of_wide 7 Try.f7 rfl rfl rfl rfl rfl rfl rfl ⟨rfl, rfl, rfl, rfl, rfl⟩ rfl rfl rfl rfl rfl (by kernel_rfl) Try.func7 (by kernel_rfl)
    (of_decide_eq_true (by kernel_rfl)) (by unfold Func.isWrapper; first | (rw [if_pos (by decide +kernel)]; kernel_rfl) | (rw [if_neg (by decide +kernel)]; exact ⟨rfl, rfl⟩))
    (fun os started H enc _ => lifted os started H enc)
theorem proved : Rows.ExtentLeastSaid := over
#print axioms proved
end extentLeast
end Go.Proofs.Ytmebmkkllhnmlaa
