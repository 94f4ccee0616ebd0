/- DiffFiles. No conditions. -/
import Derived.Test.YtahmhcmfeloclaaGreatGdf2
import Derived.Test.YtahmhcmfeloclaaGreatMg4
namespace Go.Proofs.YtahmhcmfeloclaaGreat
open Go.RowKit
set_option linter.unusedVariables false
set_option linter.unusedSimpArgs false
set_option maxRecDepth 100000
def flE (s t : List UInt8) : Int := if V.rdE s = 0 then (if V.rdE t = 0 then 0 else V.rdE t) else V.rdE s
def flO (s t : List UInt8) : List Chg := if V.rdE s = 0 then (if V.rdE t = 0 then betQ (V.rdO s) (V.rdO t) else []) else []
theorem files_fn (s t : List UInt8) (hs : s.length ≤ 100000) (ht : t.length ≤ 100000) : Fn Tryz.prog 5 [.string (str s), .string (str t)] [] fun v H' => ∃ u, v = .tuple #[u, iq (flE s t)] ∧ RowOk u (flO s t).length ∧ H' = rowE u 45 3 (gcells (flO s t)) := by
  have h1 := V.nread_fn s hs
  have h2 := V.nread_fn t ht
  have k1 := (V.rdO_ok s).len
  have k2 := (V.rdO_ok t).len
  refine Fn.enter (N := 28) Tryz.func5 rfl (by kernel_rfl) rfl (fun w0 => ?_)

  refine awp_seq_region (fun Z hZ => ?_)
  refine sx_assign rfl rfl ?_
  refine sx_assign rfl rfl ?_
  refine sx_nil (hZ _ _ ?_)
  refine awp_forget [(0, _), (1, _)] (Kn.cons rfl (Kn.cons rfl (Kn.nil))) ?_
  refine awp_seq_region (fun Z hZ => ?_)
  refine sx_move rfl rfl ?_
  refine sx_callO [] [] h1 rfl (HLe.refl _) rfl ?_
  rintro v H' ⟨u, rfl, hu, rfl⟩
  rw [rowE_flt]
  refine sx_toRo (fun u => (_, Value.tuple #[.agg #[u], iq (V.rdE s)]) :: _) hu (fun A1 c1 hA1 => ?_)
  refine sx_move rfl rfl ?_
  refine sx_extract rfl rfl rfl ?_
  refine sx_extract rfl rfl rfl ?_
  refine sx_alloc tyZ35 rfl (fun g1 => ?_)
  first | refine sx_store 0 rfl rfl rfl tyS35 (by first | (simp only [Value.cells]; first | done | rfl) | rfl) rfl rfl (by first | (simp only [List.length_cons, List.length_nil, Nat.reduceAdd, Nat.zero_add, Nat.add_zero]; first | done | rfl) | rfl) (by first | (simp only [List.take_succ_cons, List.take_zero, List.drop_succ_cons, List.drop_zero, List.cons_append, List.nil_append, List.append_nil, List.length_cons, List.length_nil, Nat.reduceAdd, Nat.zero_add, Nat.add_zero, Value.cells, wrV]; first | done | rfl) | rfl) (by first | (simp only [List.set_cons_succ, List.set_cons_zero]; first | done | rfl) | rfl) ?_
  refine sx_assign rfl rfl ?_
  refine sx_nil (hZ _ _ ?_)
  refine awp_forget [(1, _), (6, _), (7, _)] (Kn.cons rfl (Kn.cons rfl (Kn.cons rfl (Kn.nil)))) ?_
  refine awp_seq ?_
  refine awp_seq_region (fun Z hZ => ?_)
  refine sx_move rfl rfl ?_
  refine sx_neq rfl rfl rfl ?_
  refine sx_nil (hZ _ _ ?_)
  refine awp_forget [(1, _), (6, _), (7, _), (15, _)] (Kn.cons rfl (Kn.cons rfl (Kn.cons rfl (Kn.cons rfl (Kn.nil))))) ?_
  refine awp_cond rfl (fun h => ?_) (fun h => ?_)
  · have h' : ¬ V.rdE s = 0 := by simpa using h
    rw [show flE s t = V.rdE s by unfold flE; rw [if_neg h'], show flO s t = [] by unfold flO; rw [if_neg h']]
    refine awp_seq_region (fun Z hZ => ?_)
    refine sx_move rfl rfl ?_
    refine sx_assign rfl rfl ?_
    refine sx_assign rfl rfl ?_
    refine sx_nil (hZ _ _ ?_)
    refine awp_forget [(4, _), (5, _)] (Kn.cons rfl (Kn.cons rfl (Kn.nil))) ?_
    refine awp_ret ?_
    repeat (with_reducible refine nx_then_ret ?_)
    exact nx_ret2h [] rfl rfl rfl (HLe.sub (List.nil_sublist _)) ⟨_, rfl, RowOk.nil, rfl⟩
  have h' : V.rdE s = 0 := by simpa using h
  refine awp_skip ?_
  with_reducible refine nx_normal ?_

  refine awp_seq_region (fun Z hZ => ?_)
  refine sx_move rfl rfl ?_
  refine sx_callO [] _ h2 rfl (HLe.refl _) rfl ?_
  rintro v H' ⟨u, rfl, hu, rfl⟩
  rw [rowE_flt]
  refine sx_toRo (fun u => (_, Value.tuple #[.agg #[u], iq (V.rdE t)]) :: _) hu (fun A2 c2 hA2 => ?_)
  refine sx_move rfl rfl ?_
  refine sx_extract rfl rfl rfl ?_
  refine sx_extract rfl rfl rfl ?_
  refine sx_alloc tyZ35 rfl (fun g2 => ?_)
  refine sx_store 0 rfl rfl rfl tyS35 (by first | (simp only [Value.cells]; first | done | rfl) | rfl) rfl rfl (by first | (simp only [List.length_cons, List.length_nil, Nat.reduceAdd, Nat.zero_add, Nat.add_zero]; first | done | rfl) | rfl) (by first | (simp only [List.take_succ_cons, List.take_zero, List.drop_succ_cons, List.drop_zero, List.cons_append, List.nil_append, List.append_nil, List.length_cons, List.length_nil, Nat.reduceAdd, Nat.zero_add, Nat.add_zero, Value.cells, wrV]; first | done | rfl) | rfl) (by first | (simp only [List.set_cons_succ, List.set_cons_zero]; first | done | rfl) | rfl) ?_
  refine sx_assign rfl rfl ?_
  refine sx_nil (hZ _ _ ?_)
  refine awp_forget [(6, _), (7, _), (8, _)] (Kn.cons rfl (Kn.cons rfl (Kn.cons rfl (Kn.nil)))) ?_

  refine awp_seq ?_
  refine awp_seq_region (fun Z hZ => ?_)
  refine sx_move rfl rfl ?_
  refine sx_neq rfl rfl rfl ?_
  refine sx_nil (hZ _ _ ?_)
  refine awp_forget [(6, _), (7, _), (8, _), (23, _)] (Kn.cons rfl (Kn.cons rfl (Kn.cons rfl (Kn.cons rfl (Kn.nil))))) ?_
  refine awp_cond rfl (fun h3 => ?_) (fun h3 => ?_)
  · have h3' : ¬ V.rdE t = 0 := by simpa using h3
    rw [show flE s t = V.rdE t by unfold flE; rw [if_pos h', if_neg h3'], show flO s t = [] by unfold flO; rw [if_pos h', if_neg h3']]
    refine awp_seq_region (fun Z hZ => ?_)
    refine sx_move rfl rfl ?_
    refine sx_assign rfl rfl ?_
    refine sx_assign rfl rfl ?_
    refine sx_nil (hZ _ _ ?_)
    refine awp_forget [(4, _), (5, _)] (Kn.cons rfl (Kn.cons rfl (Kn.nil))) ?_
    refine awp_ret ?_
    repeat (with_reducible refine nx_then_ret ?_)
    exact nx_ret2h [] rfl rfl rfl (HLe.sub (List.nil_sublist _)) ⟨_, rfl, RowOk.nil, rfl⟩
  have h3' : V.rdE t = 0 := by simpa using h3
  rw [show flE s t = 0 by unfold flE; rw [if_pos h', if_pos h3'], show flO s t = betQ (V.rdO s) (V.rdO t) by unfold flO; rw [if_pos h', if_pos h3']]
  refine awp_skip ?_
  with_reducible refine nx_normal ?_
  refine awp_seq_region (fun Z hZ => ?_)
  refine sx_loadA 1 rfl rfl tyA35 tyS35 (by first | (simp only [List.length_cons, List.length_nil, Nat.reduceAdd, Nat.zero_add, Nat.add_zero]; first | done | rfl) | rfl) (by first | (simp only [List.take_succ_cons, List.take_zero, List.drop_succ_cons, List.drop_zero, List.cons_append, List.nil_append, List.append_nil, List.length_cons, List.length_nil, Nat.reduceAdd, Nat.zero_add, Nat.add_zero, Value.cells, wrV]; first | done | rfl) | rfl) rfl ?_
  refine sx_loadA 0 rfl rfl tyA35 tyS35 (by first | (simp only [List.length_cons, List.length_nil, Nat.reduceAdd, Nat.zero_add, Nat.add_zero]; first | done | rfl) | rfl) (by first | (simp only [List.take_succ_cons, List.take_zero, List.drop_succ_cons, List.drop_zero, List.cons_append, List.nil_append, List.append_nil, List.length_cons, List.length_nil, Nat.reduceAdd, Nat.zero_add, Nat.add_zero, Value.cells, wrV]; first | done | rfl) | rfl) rfl ?_
  refine sx_callVU (roE A1 (icells (V.rdO s)) ++ roE A2 (icells (V.rdO t))) (gbet_fn A1 c1 _ A2 c2 _ hA1 hA2 (by omega) (by omega)) rfl (HLe.two (by repeat (first | exact List.Sublist.refl _ | exact List.nil_sublist _ | exact List.sublist_append_right _ _ | refine List.Sublist.trans ?_ (List.sublist_append_left _ _) | exact List.Sublist.cons_cons _ (List.nil_sublist _) | refine List.Sublist.cons _ ?_)) (by repeat (first | exact List.Sublist.refl _ | exact List.nil_sublist _ | exact List.sublist_append_right _ _ | refine List.Sublist.trans ?_ (List.sublist_append_left _ _) | exact List.Sublist.cons_cons _ (List.nil_sublist _) | refine List.Sublist.cons _ ?_)) (Ro.roE _ _)) ((Ro.roE _ _).append (Ro.roE _ _)) rfl ?_
  rintro v H' ⟨hv, rfl⟩
  rw [rowE_flt]
  refine sx_assign rfl rfl ?_
  refine sx_assign rfl rfl ?_
  refine sx_nil (hZ _ _ ?_)
  refine awp_forget [(4, _), (5, _)] (Kn.cons rfl (Kn.cons rfl (Kn.nil))) ?_
  refine awp_ret ?_
  exact nx_ret2h _ rfl rfl rfl (HLe.sub (List.sublist_append_left _ _)) ⟨_, rfl, hv, rfl⟩
theorem rfiles_fn (s t : List UInt8) (hs : s.length ≤ 100000) (ht : t.length ≤ 100000) : Fn Tryz.prog 6 [.string (str s), .string (str t)] [] fun v H' => ∃ u, v = .tuple #[u, iq (flE s t)] ∧ RowOk u (flO s t).length ∧ H' = rowE u 52 3 (gcells (flO s t)) := by
  have h1 := V.rnread_fn s hs
  have h2 := V.rnread_fn t ht
  refine Fn.enter (N := 29) Tryz.func6 rfl (by kernel_rfl) rfl (fun w0 => ?_)

  refine awp_seq_region (fun Z hZ => ?_)
  refine sx_assign rfl rfl ?_
  refine sx_assign rfl rfl ?_
  refine sx_nil (hZ _ _ ?_)
  refine awp_forget [(0, _), (1, _)] (Kn.cons rfl (Kn.cons rfl (Kn.nil))) ?_
  refine awp_seq_region (fun Z hZ => ?_)
  refine sx_move rfl rfl ?_
  refine sx_callO [] [] h1 rfl (HLe.refl _) rfl ?_
  rintro v H' ⟨u, rfl, hu, rfl⟩
  rw [rowE_flt]
  refine sx_toRo (fun u => (_, Value.tuple #[u, iq (V.rdE s)]) :: _) hu (fun A1 c1 hA1 => ?_)
  refine sx_move rfl rfl ?_
  refine sx_extract rfl rfl rfl ?_
  refine sx_extract rfl rfl rfl ?_
  refine sx_assign rfl rfl ?_
  refine sx_assign rfl rfl ?_
  refine sx_nil (hZ _ _ ?_)
  refine awp_forget [(1, _), (6, _), (7, _)] (Kn.cons rfl (Kn.cons rfl (Kn.cons rfl (Kn.nil)))) ?_
  refine awp_seq ?_
  refine awp_seq_region (fun Z hZ => ?_)
  refine sx_move rfl rfl ?_
  refine sx_neq rfl rfl rfl ?_
  refine sx_nil (hZ _ _ ?_)
  refine awp_forget [(1, _), (6, _), (7, _), (16, _)] (Kn.cons rfl (Kn.cons rfl (Kn.cons rfl (Kn.cons rfl (Kn.nil))))) ?_
  refine awp_cond rfl (fun h => ?_) (fun h => ?_)
  · have h' : ¬ V.rdE s = 0 := by simpa using h
    rw [show flE s t = V.rdE s by unfold flE; rw [if_neg h'], show flO s t = [] by unfold flO; rw [if_neg h']]
    refine awp_seq_region (fun Z hZ => ?_)
    refine sx_move rfl rfl ?_
    refine sx_assign rfl rfl ?_
    refine sx_assign rfl rfl ?_
    refine sx_nil (hZ _ _ ?_)
    refine awp_forget [(4, _), (5, _)] (Kn.cons rfl (Kn.cons rfl (Kn.nil))) ?_
    refine awp_ret ?_
    repeat (with_reducible refine nx_then_ret ?_)
    exact nx_ret2h [] rfl rfl rfl (HLe.sub (List.nil_sublist _)) ⟨_, rfl, RowOk.nil, rfl⟩
  have h' : V.rdE s = 0 := by simpa using h
  refine awp_skip ?_
  with_reducible refine nx_normal ?_
  refine awp_seq_region (fun Z hZ => ?_)
  refine sx_move rfl rfl ?_
  refine sx_callO [] _ h2 rfl (HLe.refl _) rfl ?_
  rintro v H' ⟨u, rfl, hu, rfl⟩
  rw [rowE_flt]
  refine sx_toRo (fun u => (_, Value.tuple #[u, iq (V.rdE t)]) :: _) hu (fun A2 c2 hA2 => ?_)
  refine sx_move rfl rfl ?_
  refine sx_extract rfl rfl rfl ?_
  refine sx_extract rfl rfl rfl ?_
  refine sx_assign rfl rfl ?_
  refine sx_assign rfl rfl ?_
  refine sx_nil (hZ _ _ ?_)
  refine awp_forget [(6, _), (8, _), (9, _)] (Kn.cons rfl (Kn.cons rfl (Kn.cons rfl (Kn.nil)))) ?_
  refine awp_seq ?_
  refine awp_seq_region (fun Z hZ => ?_)
  refine sx_move rfl rfl ?_
  refine sx_neq rfl rfl rfl ?_
  refine sx_nil (hZ _ _ ?_)
  refine awp_forget [(6, _), (8, _), (9, _), (24, _)] (Kn.cons rfl (Kn.cons rfl (Kn.cons rfl (Kn.cons rfl (Kn.nil))))) ?_
  refine awp_cond rfl (fun h3 => ?_) (fun h3 => ?_)
  · have h3' : ¬ V.rdE t = 0 := by simpa using h3
    rw [show flE s t = V.rdE t by unfold flE; rw [if_pos h', if_neg h3'], show flO s t = [] by unfold flO; rw [if_pos h', if_neg h3']]
    refine awp_seq_region (fun Z hZ => ?_)
    refine sx_move rfl rfl ?_
    refine sx_assign rfl rfl ?_
    refine sx_assign rfl rfl ?_
    refine sx_nil (hZ _ _ ?_)
    refine awp_forget [(4, _), (5, _)] (Kn.cons rfl (Kn.cons rfl (Kn.nil))) ?_
    refine awp_ret ?_
    repeat (with_reducible refine nx_then_ret ?_)
    exact nx_ret2h [] rfl rfl rfl (HLe.sub (List.nil_sublist _)) ⟨_, rfl, RowOk.nil, rfl⟩
  have h3' : V.rdE t = 0 := by simpa using h3
  rw [show flE s t = 0 by unfold flE; rw [if_pos h', if_pos h3'], show flO s t = betQ (V.rdO s) (V.rdO t) by unfold flO; rw [if_pos h', if_pos h3']]
  refine awp_skip ?_
  with_reducible refine nx_normal ?_
  refine awp_seq_region (fun Z hZ => ?_)
  refine sx_move rfl rfl ?_
  refine sx_move rfl rfl ?_
  refine sx_callVU (roE A1 (icells (V.rdO s)) ++ roE A2 (icells (V.rdO t))) (grbet_fn A1 c1 _ _ hA1.arg (fun _ => rfl) (Ro.roE _ _) (V.rdO_ok s) A2 c2 _ _ hA2.arg (fun _ => rfl) (Ro.roE _ _) (V.rdO_ok t)) rfl (HLe.two (by repeat (first | exact List.Sublist.refl _ | exact List.nil_sublist _ | exact List.sublist_append_right _ _ | refine List.Sublist.trans ?_ (List.sublist_append_left _ _) | exact List.Sublist.cons_cons _ (List.nil_sublist _) | refine List.Sublist.cons _ ?_)) (by repeat (first | exact List.Sublist.refl _ | exact List.nil_sublist _ | exact List.sublist_append_right _ _ | refine List.Sublist.trans ?_ (List.sublist_append_left _ _) | exact List.Sublist.cons_cons _ (List.nil_sublist _) | refine List.Sublist.cons _ ?_)) (Ro.roE _ _)) ((Ro.roE _ _).append (Ro.roE _ _)) rfl ?_
  rintro v H' ⟨hv, rfl⟩
  rw [rowE_flt]
  refine sx_assign rfl rfl ?_
  refine sx_assign rfl rfl ?_
  refine sx_nil (hZ _ _ ?_)
  refine awp_forget [(4, _), (5, _)] (Kn.cons rfl (Kn.cons rfl (Kn.nil))) ?_
  refine awp_ret ?_
  exact nx_ret2h _ rfl rfl rfl (HLe.sub (List.sublist_append_left _ _)) ⟨_, rfl, hv, rfl⟩
theorem flO_len (s t : List UInt8) : (flO s t).length ≤ 5000 := by
  have k1 := (V.rdO_ok s).len
  have k2 := (V.rdO_ok t).len
  unfold flO
  split
  · split
    · have := bet_len (V.rdO s) (V.rdO t); omega
    · exact Nat.zero_le _
  · exact Nat.zero_le _
theorem ffiles_fn (s t : List UInt8) : Fn Tryz.prog 3 [.string (str s), .string (str t)] [] fun v _ => v = .bool true := by
  refine Fn.enter (N := 42) Tryz.func3 rfl (by kernel_rfl) rfl (fun w0 => ?_)

  refine awp_seq_region (fun Z hZ => ?_)
  refine sx_assign rfl rfl ?_
  refine sx_nil (hZ _ _ ?_)
  refine awp_forget [(0, _), (1, _)] (Kn.cons rfl (Kn.cons rfl (Kn.nil))) ?_
  by_cases hov : 3000 < s.length ∨ 3000 < t.length
  · refine awp_seq ?_
    refine awp_seq_meet [(16, .bool true)] [] (fun Z hZ => ?_) ?_
    · refine sx_move rfl rfl ?_
      refine sx_lenS Tryz.underlying9 rfl rfl ?_
      refine sx_gtr rfl rfl rfl ?_
      refine sx_move rfl rfl ?_
      refine sx_split 12 rfl (fun hb3 => ?_) (fun hb3 => ?_)
      · refine sx_off rfl rfl rfl rfl rfl ?_
        refine sx_off rfl rfl rfl rfl rfl ?_
        refine sx_off rfl rfl rfl rfl rfl ?_
        refine sx_pick rfl rfl rfl ?_
        refine sx_nil (hZ _ _ ?_ ?_)
        · exact Kn.cons (congrArg some (congrArg Value.bool (by first | (simp at *; done) | (simp at *; omega)))) Kn.nil
        · exact HLe.sub (List.nil_sublist _)
      · refine sx_on rfl rfl rfl ?_
        refine sx_move rfl rfl ?_
        refine sx_on rfl rfl rfl ?_
        refine sx_lenS Tryz.underlying9 rfl rfl ?_
        refine sx_on rfl rfl rfl ?_
        refine sx_gtr rfl rfl rfl ?_
        refine sx_pick rfl rfl rfl ?_
        refine sx_nil (hZ _ _ ?_ ?_)
        · exact Kn.cons (congrArg some (congrArg Value.bool (by first | (simp at *; done) | (simp at *; omega)))) Kn.nil
        · exact HLe.sub (List.nil_sublist _)
    refine awp_cond rfl (fun h => ?_) (fun h => ?_)
    · refine awp_seq_region (fun Z hZ => ?_)
      refine sx_callP gawake_fn rfl rfl ?_
      refine sx_assign rfl rfl ?_
      refine sx_nil (hZ _ _ ?_)
      refine awp_forget [(4, _)] (Kn.cons rfl (Kn.nil)) ?_
      refine awp_ret ?_
      repeat (with_reducible refine nx_then_ret ?_)
      exact nx_ret1 rfl rfl rfl
    · cases h
  have n1 : s.length ≤ 3000 := by omega
  have n2 : t.length ≤ 3000 := by omega
  refine awp_seq ?_
  refine awp_seq_meet [(0, .string (str s)), (1, .string (str t)), (16, .bool false)] [] (fun Z hZ => ?_) ?_
  · refine sx_move rfl rfl ?_
    refine sx_lenS Tryz.underlying9 rfl rfl ?_
    refine sx_gtr rfl rfl rfl ?_
    refine sx_move rfl rfl ?_
    refine sx_force 12 rfl false (by first | rfl | (simp; omega)) ?_
    refine sx_on rfl rfl rfl ?_
    refine sx_move rfl rfl ?_
    refine sx_on rfl rfl rfl ?_
    refine sx_lenS Tryz.underlying9 rfl rfl ?_
    refine sx_on rfl rfl rfl ?_
    refine sx_gtr rfl rfl rfl ?_
    refine sx_pick rfl rfl rfl ?_
    refine sx_nil (hZ _ _ ?_ ?_)
    · exact Kn.cons rfl (Kn.cons rfl (Kn.cons (congrArg some (congrArg Value.bool (by first | (simp; done) | (simp; omega) | (simp at *; done) | (simp at *; omega)))) Kn.nil))
    · exact HLe.refl _
  refine awp_cond rfl (fun h => ?_) (fun h => ?_)
  · cases h
  refine awp_skip ?_
  with_reducible refine nx_normal ?_
  have hl := flO_len s t
  have f1 := files_fn s t (by omega) (by omega)
  have f2 := rfiles_fn s t (by omega) (by omega)
  obtain ⟨D, hD⟩ : ∃ D, flO s t = D := ⟨_, rfl⟩
  obtain ⟨e, he⟩ : ∃ e, flE s t = e := ⟨_, rfl⟩
  rw [hD, he] at f1 f2
  rw [hD] at hl
  refine awp_seq_region (fun Z hZ => ?_)
  refine sx_move rfl rfl ?_
  refine sx_move rfl rfl ?_
  refine sx_callO [] [] f1 rfl (HLe.refl _) rfl ?_
  rintro v H' ⟨u, rfl, hu, rfl⟩
  rw [rowE_flt]
  refine sx_toRo (fun u => (_, Value.tuple #[u, iq e]) :: _) hu (fun A1 c1 hA1 => ?_)
  refine sx_move rfl rfl ?_
  refine sx_extract rfl rfl rfl ?_
  refine sx_extract rfl rfl rfl ?_
  refine sx_assign rfl rfl ?_
  refine sx_assign rfl rfl ?_
  refine sx_nil (hZ _ _ ?_)
  refine awp_forget [(0, _), (1, _), (5, _), (6, _)] (Kn.cons rfl (Kn.cons rfl (Kn.cons rfl (Kn.cons rfl (Kn.nil))))) ?_
  refine awp_seq_region (fun Z hZ => ?_)
  refine sx_move rfl rfl ?_
  refine sx_move rfl rfl ?_
  refine sx_callO [] _ f2 rfl (HLe.refl _) rfl ?_
  rintro v H' ⟨u, rfl, hu, rfl⟩
  rw [rowE_flt]
  refine sx_toRo (fun u => (_, Value.tuple #[u, iq e]) :: _) hu (fun A2 c2 hA2 => ?_)
  refine sx_move rfl rfl ?_
  refine sx_extract rfl rfl rfl ?_
  refine sx_extract rfl rfl rfl ?_
  refine sx_assign rfl rfl ?_
  refine sx_assign rfl rfl ?_
  refine sx_nil (hZ _ _ ?_)
  refine awp_forget [(5, _), (6, _), (7, _), (8, _)] (Kn.cons rfl (Kn.cons rfl (Kn.cons rfl (Kn.cons rfl (Kn.nil))))) ?_
  refine awp_seq_meet [(4, .bool true)] [] (fun Z hZ => ?_) ?_
  · refine sx_move rfl rfl ?_
    refine sx_gbackE D hA1 (by repeat (first | exact List.Sublist.refl _ | exact List.nil_sublist _ | exact List.sublist_append_right _ _ | refine List.Sublist.trans ?_ (List.sublist_append_left _ _) | exact List.Sublist.cons_cons _ (List.nil_sublist _) | refine List.Sublist.cons _ ?_)) (by omega) rfl rfl (fun A3 c3 hA3 => ?_)
    refine sx_move rfl rfl ?_
    refine sx_rgsame D D hA3 hA2 (by repeat (first | exact List.Sublist.refl _ | exact List.nil_sublist _ | exact List.sublist_append_right _ _ | refine List.Sublist.trans ?_ (List.sublist_append_left _ _) | exact List.Sublist.cons_cons _ (List.nil_sublist _) | refine List.Sublist.cons _ ?_)) (by repeat (first | exact List.Sublist.refl _ | exact List.nil_sublist _ | exact List.sublist_append_right _ _ | refine List.Sublist.trans ?_ (List.sublist_append_left _ _) | exact List.Sublist.cons_cons _ (List.nil_sublist _) | refine List.Sublist.cons _ ?_)) (by show _ ≤ 9223372036854775807; omega) (by show _ ≤ 9223372036854775807; omega) rfl rfl ?_
    rw [sameG_self]
    refine sx_move rfl rfl ?_
    refine sx_force 34 rfl true (by first | rfl | (simp; done)) ?_
    refine sx_on rfl rfl rfl ?_
    refine sx_move rfl rfl ?_
    refine sx_on rfl rfl rfl ?_
    refine sx_move rfl rfl ?_
    refine sx_on rfl rfl rfl ?_
    refine sx_eql rfl rfl rfl ?_
    refine sx_pick rfl rfl rfl ?_
    refine sx_move rfl rfl ?_
    refine sx_force 39 rfl true (by first | rfl | (simp; done)) ?_
    refine sx_on rfl rfl rfl ?_
    refine sx_callP gawake_fn rfl rfl ?_
    refine sx_pick rfl rfl rfl ?_
    refine sx_assign rfl rfl ?_
    refine sx_nil (hZ _ _ ?_ ?_)
    · exact Kn.cons rfl Kn.nil
    · exact HLe.sub (List.nil_sublist _)
  refine awp_ret ?_
  exact nx_ret1 rfl rfl rfl
theorem DiffFiles_read {H : Type} {enc : TypeId × Value → H} (w : World) {base : Nat} {v0 v1 : Value} {d0 d1 : DataW H} {p0 p1 : List MemPlace}
    (k0 : Value.okWide Tryz.prog w .any base 9 v0) (h0 : DataW.Trod enc Tryz.prog w 0 (fun _ => true) true 9 v0 d0 p0)
    (k1 : Value.okWide Tryz.prog w .any base 9 v1) (h1 : DataW.Trod enc Tryz.prog w 0 (fun _ => true) true 9 v1 d1 p1) :
    Calls Tryz.prog 3 #[v0, v1] w fun e w' => e = .returned (.bool true) ∧ Bel w w' := by
  obtain ⟨s, rfl⟩ := V.open_text k0 h0
  obtain ⟨t, rfl⟩ := V.open_text k1 h1
  exact (ffiles_fn s t).bel w
namespace diffFiles
open Go.ChangeShapes Go.WideShapes Go.ChangeAt Go.RowKit
theorem own : ownKnob Tryz.prog.godebug = none := by kernel_rfl
theorem laidOut : laidOutB Tryz.prog = true := by kernel_rfl
set_option maxRecDepth 100000 in
theorem lifted (os : Os) (started : os.Started) (H : Type) (enc : TypeId × Value → H) :
    ReturnsInHanded {} Tryz.checked os 3 .any (Rows.diffFilesSpec.pre6 enc Tryz.prog Tryz.f3 Rows.diffFilesRow.domain false) (Rows.diffFilesSpec.post enc Tryz.prog Tryz.f3 false true false false) := by
  refine returnsInHanded_of_change (C := Tryz.checked) own started (by kernel_rfl) Tryz.func3
    (ChangeSpec.witness6 (enc := enc) (C := Tryz.checked) false ⟨#[], #[.string ⟨#[]⟩, .string ⟨#[]⟩], []⟩ 8 (by kernel_rfl) (by kernel_rfl) (by kernel_rfl) (by kernel_rfl)) ?_
  intro W base args ds gs before hval0 hW hcnd _
  have hval : ∀ (j : Nat) t v, Tryz.f3.params[j]? = some t → args[j]? = some v → Value.okWide Tryz.prog W .any base t v := hval0
  have hW' := hW
  obtain ⟨p, q, hA0, hV, rfl, hfz, hnd⟩ := hW
  have hA : DataW.TrodAll enc Tryz.prog W 0 (fun _ => true) true Tryz.f3.params.toList args.toList ds p := hA0
  rw [Tryz.params3] at hA hval
  obtain ⟨v0, vs0, d0, ds0, p0, q0, hargs, rfl, rfl, h0, r0⟩ := trodAll_cons hA
  obtain ⟨v1, vs1, d1, ds1, p1, q1, rfl, rfl, rfl, h1, r1⟩ := trodAll_cons r0
  obtain ⟨rfl, rfl, rfl⟩ := trodAll_nil r1
  obtain rfl : args = #[v0, v1] := by cases args; simp_all
  obtain ⟨rfl, rfl⟩ := trodVars_none hV
  have lt0 : ∀ x ∈ p0, x.block < W.heap.size := by obtain ⟨m, hm⟩ := h0; exact DataW.trod_lt m _ _ _ hm
  have lt1 : ∀ x ∈ p1, x.block < W.heap.size := by obtain ⟨m, hm⟩ := h1; exact DataW.trod_lt m _ _ _ hm
  refine (DiffFiles_read W (hval 0 9 v0 rfl rfl) h0 (hval 1 9 v1 rfl rfl) h1).mono fun e W' ⟨he, bel0⟩ => ?_
  have bel : Below W.heap.size W W' := bel0
  subst he
  exact ⟨_, rfl, _, _, _, [], _, [], hW', trodAll_mk1 (shut_bool Tryz.underlying4 _), (trodAll_cons_mk (Below.trod laidOut (by kernel_rfl) (of_decide_eq_true (by kernel_rfl)) h0 bel lt0) (trodAll_cons_mk (Below.trod laidOut (by kernel_rfl) (of_decide_eq_true (by kernel_rfl)) h1 bel lt1) trodAll_mk0)), rfl, bel.frame _, fun h => by cases h⟩
theorem over : Rows.diffFilesRow.holds Tryz.pinned (OpenSpec.ofChange Rows.diffFilesSpec) :=
  OpenClaim.holds_of_wide 3 Tryz.f3 rfl rfl rfl rfl rfl rfl rfl ⟨rfl, rfl, rfl, rfl, rfl⟩ rfl rfl rfl rfl rfl (by kernel_rfl) Tryz.func3 (by kernel_rfl)
    (of_decide_eq_true (by kernel_rfl)) (by unfold Func.isWrapper; first | (rw [if_pos (by decide +kernel)]; kernel_rfl) | (rw [if_neg (by decide +kernel)]; exact ⟨rfl, rfl⟩))
    (fun os started H enc _ => lifted os started H enc)
theorem proved : Rows.DiffFilesSaid := over
#print axioms proved
end diffFiles
end Go.Proofs.YtahmhcmfeloclaaGreat
