/- The walks of naive.Rows and Read, and of the document's. Conditions: the texts are not too long. -/
import Derived.Test.YtahmhcmfeloclaaGreatMg3
import Derived.Test.YtahmhcmfeloclaaGreatGlf1
import Derived.Test.YtahmhcmfeloclaaGreatGly1
namespace Go.Proofs.YtahmhcmfeloclaaGreat.V
open Go.RowKit
set_option linter.unusedVariables false
set_option linter.unusedSimpArgs false
set_option maxRecDepth 100000
theorem cutP_len (s : List UInt8) : (Y.cutP s).a.length ≤ s.length ∧ (Y.cutP s).c.length ≤ s.length ∧ (Y.cutP s).d.length ≤ s.length := by
  have hp : ∀ k, (Y.piece s k).length ≤ s.length := fun k => by
    unfold Y.piece
    rw [List.length_take, List.length_drop]
    omega
  unfold Y.cutP
  split
  · exact ⟨hp 0, hp 2, hp 3⟩
  · exact ⟨Nat.zero_le _, Nat.zero_le _, Nat.zero_le _⟩
def nrE (s : List UInt8) : Int := if Y.cutE s = 0 then (if (decQ (Y.cutP s).a).2.2 = 0 then ((joinQ (decQ (Y.cutP s).a).1 (Y.cutP s).c).2 : Int) else ((decQ (Y.cutP s).a).2.2 : Int)) else Y.cutE s
def nrL (s : List UInt8) : List En := if nrE s = 0 then (joinQ (decQ (Y.cutP s).a).1 (Y.cutP s).c).1 else []
def nrT (s : List UInt8) : List UInt8 := if nrE s = 0 then (Y.cutP s).d else []
theorem nrT_len (s : List UInt8) : (nrT s).length ≤ s.length := by
  unfold nrT
  split
  · exact (cutP_len s).2.2
  · exact Nat.zero_le _
theorem joinG_ok (t : List UInt8) : ∀ (L out : List En), EnsOk out → EnsOk L → EnsOk (joinG t out L).1
  | [], out, h, _ => by
    rw [joinG]
    split
    · exact fun e he => by cases he
    · exact h
  | x :: r, out, h, hL => by
    rw [joinG]
    have hr : EnsOk r := fun e he => hL e (List.mem_cons_of_mem _ he)
    split
    · split
      · exact fun e he => by cases he
      · refine joinG_ok t r _ (fun e he => ?_) hr
        rcases List.mem_append.1 he with he | he
        · exact h e he
        · exact (pieceQ_ok x t).2 e he
    · refine joinG_ok t r _ (fun e he => ?_) hr
      rcases List.mem_append.1 he with he | he
      · exact h e he
      · rw [List.mem_singleton.1 he]; exact hL x List.mem_cons_self
theorem joinG_len (t : List UInt8) : ∀ (L out : List En), (joinG t out L).1.length ≤ out.length + L.length * 4097
  | [], out => by
    rw [joinG]
    split <;> simp
  | x :: r, out => by
    rw [joinG, List.length_cons]
    split
    · split
      · simp
      · have h1 := joinG_len t r (out ++ (pieceQ x t).1)
        have h2 := (pieceQ_ok x t).1
        rw [List.length_append] at h1
        omega
    · have h1 := joinG_len t r (out ++ [x])
      rw [List.length_append] at h1
      simp at h1
      omega
theorem nrL_ok (s : List UInt8) : EnsOk (nrL s) ∧ (nrL s).length ≤ maxLen := by
  obtain ⟨d1, d2, _, _⟩ := decQ_ok (Y.cutP s).a
  unfold nrL
  split
  · unfold joinQ
    split
    · exact ⟨fun e he => (by cases he), Nat.zero_le _⟩
    · refine ⟨joinG_ok _ _ [] (fun e he => by cases he) d2, ?_⟩
      have := joinG_len (Y.cutP s).c (decQ (Y.cutP s).a).1 []
      show _ ≤ 9223372036854775807
      simp at this
      omega
  · exact ⟨fun e he => (by cases he), Nat.zero_le _⟩
theorem nrows_fn (s : List UInt8) (hs : s.length ≤ 100000) : Fn Tryz.prog 24 [.string (str s)] [] fun v H' => ∃ u, v = .tuple #[u, .string (str (nrT s)), iq (nrE s)] ∧ RowOk u (nrL s).length ∧ H' = rowE u 97 4 (ecells (nrL s)) := by
  have hcut := Y.cut_fn s hs
  obtain ⟨hp0, hp2, _⟩ := cutP_len s
  obtain ⟨h0, hh0⟩ : ∃ h0, Y.cutH s = h0 := ⟨_, rfl⟩
  obtain ⟨p0, hpp⟩ : ∃ p0, Y.cutP s = p0 := ⟨_, rfl⟩
  obtain ⟨e0, he0⟩ : ∃ e0, Y.cutE s = e0 := ⟨_, rfl⟩
  have hE : nrE s = if e0 = 0 then (if (decQ p0.a).2.2 = 0 then ((joinQ (decQ p0.a).1 p0.c).2 : Int) else ((decQ p0.a).2.2 : Int)) else e0 := by unfold nrE; rw [he0, hpp]
  have hLL : nrL s = if nrE s = 0 then (joinQ (decQ p0.a).1 p0.c).1 else [] := by unfold nrL; rw [hpp]
  have hTT : nrT s = if nrE s = 0 then p0.d else [] := by unfold nrT; rw [hpp]
  rw [hh0, hpp, he0] at hcut
  rw [hpp] at hp0 hp2
  obtain ⟨d1, d2, d3, d4⟩ := decQ_ok p0.a
  have hdec := ddecode_fn p0.a (by omega)
  refine Fn.enter (N := 43) Tryz.func24 rfl (by kernel_rfl) rfl (fun w0 => ?_)

  refine awp_seq_region (fun Z hZ => ?_)
  refine sx_assign rfl rfl ?_
  refine sx_assign rfl rfl ?_
  refine sx_assign rfl rfl ?_
  refine sx_nil (hZ _ _ ?_)
  refine awp_forget [(0, _)] (Kn.cons rfl (Kn.nil)) ?_
  refine awp_seq_region (fun Z hZ => ?_)
  refine sx_move rfl rfl ?_
  refine sx_callP hcut rfl rfl ?_
  refine sx_move rfl rfl ?_
  refine sx_extract rfl rfl rfl ?_
  refine sx_extract rfl rfl rfl ?_
  refine sx_extract rfl rfl rfl ?_
  refine sx_alloc tyZ86 rfl (fun g1 => ?_)
  refine sx_alloc tyZ87 rfl (fun g2 => ?_)
  refine sx_store 1 rfl rfl rfl tyS86 (by first | (simp only [Value.cells]; first | done | rfl) | rfl) rfl rfl (by first | (simp only [List.length_cons, List.length_nil, Nat.reduceAdd, Nat.zero_add, Nat.add_zero]; first | done | rfl) | rfl) (by first | (simp only [List.take_succ_cons, List.take_zero, List.drop_succ_cons, List.drop_zero, List.cons_append, List.nil_append, List.append_nil, List.length_cons, List.length_nil, Nat.reduceAdd, Nat.zero_add, Nat.add_zero, Value.cells, wrV]; first | done | rfl) | rfl) (by first | (simp only [List.set_cons_succ, List.set_cons_zero]; first | done | rfl) | rfl) ?_
  refine sx_store 0 rfl rfl rfl tyS87 (by first | (simp only [Value.cells]; first | done | rfl) | rfl) rfl rfl (by first | (simp only [List.length_cons, List.length_nil, Nat.reduceAdd, Nat.zero_add, Nat.add_zero]; first | done | rfl) | rfl) (by first | (simp only [List.take_succ_cons, List.take_zero, List.drop_succ_cons, List.drop_zero, List.cons_append, List.nil_append, List.append_nil, List.length_cons, List.length_nil, Nat.reduceAdd, Nat.zero_add, Nat.add_zero, Value.cells, wrV]; first | done | rfl) | rfl) (by first | (simp only [List.set_cons_succ, List.set_cons_zero]; first | done | rfl) | rfl) ?_
  refine sx_assign rfl rfl ?_
  refine sx_nil (hZ _ _ ?_)
  refine awp_forget [(6, _), (7, _)] (Kn.cons rfl (Kn.cons rfl (Kn.nil))) ?_
  refine awp_seq ?_
  refine awp_seq_region (fun Z hZ => ?_)
  refine sx_move rfl rfl ?_
  refine sx_neq rfl rfl rfl ?_
  refine sx_nil (hZ _ _ ?_)
  refine awp_forget [(6, _), (7, _), (18, _)] (Kn.cons rfl (Kn.cons rfl (Kn.cons rfl (Kn.nil)))) ?_
  refine awp_cond rfl (fun h => ?_) (fun h => ?_)
  · have h' : ¬ e0 = 0 := by simpa using h
    have hx : nrE s = e0 := by rw [hE, if_neg h']
    rw [hLL, hTT, hx, if_neg h', if_neg h']
    refine awp_seq_region (fun Z hZ => ?_)
    refine sx_move rfl rfl ?_
    refine sx_assign rfl rfl ?_
    refine sx_assign rfl rfl ?_
    refine sx_assign rfl rfl ?_
    refine sx_nil (hZ _ _ ?_)
    refine awp_forget [(2, _), (3, _), (4, _)] (Kn.cons rfl (Kn.cons rfl (Kn.cons rfl (Kn.nil)))) ?_
    refine awp_ret ?_
    repeat (with_reducible refine nx_then_ret ?_)
    exact nx_ret3h [] rfl rfl rfl rfl (HLe.sub (List.nil_sublist _)) ⟨_, rfl, RowOk.nil, rfl⟩
  have h' : e0 = 0 := by simpa using h
  rw [if_pos h'] at hE
  refine awp_skip ?_
  with_reducible refine nx_normal ?_

  obtain ⟨Q, hQ⟩ : ∃ Q, (decQ p0.a).1 = Q := ⟨_, rfl⟩
  obtain ⟨ed, hed⟩ : ∃ ed, (decQ p0.a).2.2 = ed := ⟨_, rfl⟩
  rw [hQ, hed] at hdec hE d4
  rw [hQ] at d1 d2 hLL
  refine awp_seq_region (fun Z hZ => ?_)
  refine sx_indexAddrA 0 Tryz.underlying87 tyS9 rfl rfl (by omega) rfl rfl ?_
  refine sx_load 0 rfl rfl tyA9 tyS9 rfl rfl ?_
  refine sx_callO [] [_, _] hdec rfl (HLe.refl _) rfl ?_
  rintro v H' ⟨u, rfl, hu, rfl⟩
  rw [rowE_flt]
  obtain ⟨A1, c1, rfl, hA1, hle1⟩ := hu.ro
  refine sx_heap ([_, _] ++ roE A1 (ecells Q)) ((HLe.swap _ _).trans (hle1 [] [_, _] 97 4 (ecells Q))) ?_
  refine sx_move rfl rfl ?_
  refine sx_extract rfl rfl rfl ?_
  refine sx_extract rfl rfl rfl ?_
  refine sx_extract rfl rfl rfl ?_
  refine sx_assign rfl rfl ?_
  refine sx_assign rfl rfl ?_
  refine sx_assign rfl rfl ?_
  refine sx_nil (hZ _ _ ?_)
  refine awp_forget [(6, _), (7, _), (8, _)] (Kn.cons rfl (Kn.cons rfl (Kn.cons rfl (Kn.nil)))) ?_
  refine awp_seq ?_
  refine awp_seq_region (fun Z hZ => ?_)
  refine sx_move rfl rfl ?_
  refine sx_neq rfl rfl rfl ?_
  refine sx_nil (hZ _ _ ?_)
  refine awp_forget [(6, _), (7, _), (8, _), (28, _)] (Kn.cons rfl (Kn.cons rfl (Kn.cons rfl (Kn.cons rfl (Kn.nil))))) ?_
  refine awp_cond rfl (fun h2 => ?_) (fun h2 => ?_)
  · have h2' : ¬ ed = 0 := by simp at h2; omega
    rw [if_neg h2'] at hE
    have hx : ¬ nrE s = 0 := by rw [hE]; omega
    rw [hLL, hTT, if_neg hx, if_neg hx, hE]
    refine awp_seq_region (fun Z hZ => ?_)
    refine sx_move rfl rfl ?_
    refine sx_assign rfl rfl ?_
    refine sx_assign rfl rfl ?_
    refine sx_assign rfl rfl ?_
    refine sx_nil (hZ _ _ ?_)
    refine awp_forget [(2, _), (3, _), (4, _)] (Kn.cons rfl (Kn.cons rfl (Kn.cons rfl (Kn.nil)))) ?_
    refine awp_ret ?_
    repeat (with_reducible refine nx_then_ret ?_)
    exact nx_ret3h [] rfl rfl rfl rfl (HLe.sub (List.nil_sublist _)) ⟨_, rfl, RowOk.nil, rfl⟩
  have h2' : ed = 0 := by simp at h2; omega
  rw [if_pos h2'] at hE
  have hjoin := join_fn A1 c1 Q (roE A1 (ecells Q)) hA1.arg (fun _ => rfl) (Ro.roE _ _) (by show _ ≤ 9223372036854775807; omega) d2 p0.c (by omega)
  obtain ⟨J, hJ⟩ : ∃ J, (joinQ Q p0.c).1 = J := ⟨_, rfl⟩
  obtain ⟨ej, hej⟩ : ∃ ej, (joinQ Q p0.c).2 = ej := ⟨_, rfl⟩
  rw [hJ, hej] at hjoin
  rw [hej] at hE
  rw [hJ] at hLL
  refine awp_skip ?_
  with_reducible refine nx_normal ?_
  refine awp_seq_region (fun Z hZ => ?_)
  refine sx_move rfl rfl ?_
  refine sx_indexAddrA 2 Tryz.underlying87 tyS9 rfl rfl (by omega) rfl rfl ?_
  refine sx_load 0 rfl rfl tyA9 tyS9 rfl rfl ?_
  refine sx_callVU (roE A1 (ecells Q)) hjoin rfl (HLe.sub (.cons _ (.cons _ (List.Sublist.refl _)))) (Ro.roE _ _) rfl ?_
  rintro v H' ⟨u, rfl, hu2, rfl⟩
  rw [rowE_flt]
  refine sx_heap ([_, _] ++ rowE u 97 4 (ecells J)) ((HLe.swap _ _).trans (HLe.sub (List.Sublist.append_left (.cons_cons _ (.cons_cons _ (List.nil_sublist _))) _))) ?_
  refine sx_move rfl rfl ?_
  refine sx_extract rfl rfl rfl ?_
  refine sx_extract rfl rfl rfl ?_
  refine sx_assign rfl rfl ?_
  refine sx_assign rfl rfl ?_
  refine sx_nil (hZ _ _ ?_)
  refine awp_forget [(6, _), (7, _), (10, _)] (Kn.cons rfl (Kn.cons rfl (Kn.cons rfl (Kn.nil)))) ?_
  refine awp_seq ?_
  refine awp_seq_region (fun Z hZ => ?_)
  refine sx_move rfl rfl ?_
  refine sx_neq rfl rfl rfl ?_
  refine sx_nil (hZ _ _ ?_)
  refine awp_forget [(6, _), (7, _), (10, _), (38, _)] (Kn.cons rfl (Kn.cons rfl (Kn.cons rfl (Kn.cons rfl (Kn.nil))))) ?_
  refine awp_cond rfl (fun h3 => ?_) (fun h3 => ?_)
  · have h3' : ¬ ej = 0 := by simp at h3; omega
    have hx : ¬ nrE s = 0 := by rw [hE]; omega
    rw [hLL, hTT, if_neg hx, if_neg hx, hE]
    refine awp_seq_region (fun Z hZ => ?_)
    refine sx_move rfl rfl ?_
    refine sx_assign rfl rfl ?_
    refine sx_assign rfl rfl ?_
    refine sx_assign rfl rfl ?_
    refine sx_nil (hZ _ _ ?_)
    refine awp_forget [(2, _), (3, _), (4, _)] (Kn.cons rfl (Kn.cons rfl (Kn.cons rfl (Kn.nil)))) ?_
    refine awp_ret ?_
    repeat (with_reducible refine nx_then_ret ?_)
    exact nx_ret3h [] rfl rfl rfl rfl (HLe.sub (List.nil_sublist _)) ⟨_, rfl, RowOk.nil, rfl⟩
  have h3' : ej = 0 := by simp at h3; omega
  have hx : nrE s = 0 := by rw [hE]; omega
  rw [hLL, hTT, hx, if_pos rfl, if_pos rfl]
  refine awp_skip ?_
  with_reducible refine nx_normal ?_
  refine awq_seq_region mixed (by kernel_rfl) (fun Z hZ => ?_)
  refine sq_move rfl rfl ?_
  refine sq_indexAddrA 3 Tryz.underlying87 tyS9 rfl rfl (by omega) rfl rfl ?_
  refine sq_load 0 rfl rfl tyA9 tyS9 rfl rfl ?_
  refine sq_assign rfl rfl ?_
  refine sq_assign rfl rfl ?_
  refine sq_assign rfl rfl ?_
  refine sq_nil (hZ _ _ ?_)
  refine awp_forget [(2, _), (3, _), (4, _)] (Kn.cons rfl (Kn.cons rfl (Kn.cons rfl (Kn.nil)))) ?_
  refine awp_ret ?_
  exact nx_ret3h _ rfl rfl rfl rfl (HLe.sub (List.sublist_append_right _ _)) ⟨_, rfl, hu2, rfl⟩
theorem rnrows_fn (s : List UInt8) (hs : s.length ≤ 100000) : Fn Tryz.prog 26 [.string (str s)] [] fun v H' => ∃ u, v = .tuple #[u, .string (str (nrT s)), iq (nrE s)] ∧ RowOk u (nrL s).length ∧ H' = rowE u 109 4 (ecells (nrL s)) := by
  have hcut := Y.rcut_fn s hs
  obtain ⟨hp0, hp2, _⟩ := cutP_len s
  obtain ⟨h0, hh0⟩ : ∃ h0, Y.cutH s = h0 := ⟨_, rfl⟩
  obtain ⟨p0, hpp⟩ : ∃ p0, Y.cutP s = p0 := ⟨_, rfl⟩
  obtain ⟨e0, he0⟩ : ∃ e0, Y.cutE s = e0 := ⟨_, rfl⟩
  have hE : nrE s = if e0 = 0 then (if (decQ p0.a).2.2 = 0 then ((joinQ (decQ p0.a).1 p0.c).2 : Int) else ((decQ p0.a).2.2 : Int)) else e0 := by unfold nrE; rw [he0, hpp]
  have hLL : nrL s = if nrE s = 0 then (joinQ (decQ p0.a).1 p0.c).1 else [] := by unfold nrL; rw [hpp]
  have hTT : nrT s = if nrE s = 0 then p0.d else [] := by unfold nrT; rw [hpp]
  rw [hh0, hpp, he0] at hcut
  rw [hpp] at hp0 hp2
  obtain ⟨d1, d2, d3, d4⟩ := decQ_ok p0.a
  have hdec := rdecode_fn p0.a (by omega)
  refine Fn.enter (N := 45) Tryz.func26 rfl (by kernel_rfl) rfl (fun w0 => ?_)

  refine awp_seq_region (fun Z hZ => ?_)
  refine sx_assign rfl rfl ?_
  refine sx_assign rfl rfl ?_
  refine sx_assign rfl rfl ?_
  refine sx_nil (hZ _ _ ?_)
  refine awp_forget [(0, _)] (Kn.cons rfl (Kn.nil)) ?_
  refine awp_seq_region (fun Z hZ => ?_)
  refine sx_move rfl rfl ?_
  refine sx_callP hcut rfl rfl ?_
  refine sx_move rfl rfl ?_
  refine sx_extract rfl rfl rfl ?_
  refine sx_extract rfl rfl rfl ?_
  refine sx_extract rfl rfl rfl ?_
  refine sx_alloc tyZ101 rfl (fun g1 => ?_)
  refine sx_alloc tyZ87 rfl (fun g2 => ?_)
  refine sx_store 1 rfl rfl rfl tyS101 (by first | (simp only [Value.cells]; first | done | rfl) | rfl) rfl rfl (by first | (simp only [List.length_cons, List.length_nil, Nat.reduceAdd, Nat.zero_add, Nat.add_zero]; first | done | rfl) | rfl) (by first | (simp only [List.take_succ_cons, List.take_zero, List.drop_succ_cons, List.drop_zero, List.cons_append, List.nil_append, List.append_nil, List.length_cons, List.length_nil, Nat.reduceAdd, Nat.zero_add, Nat.add_zero, Value.cells, wrV]; first | done | rfl) | rfl) (by first | (simp only [List.set_cons_succ, List.set_cons_zero]; first | done | rfl) | rfl) ?_
  refine sx_store 0 rfl rfl rfl tyS87 (by first | (simp only [Value.cells]; first | done | rfl) | rfl) rfl rfl (by first | (simp only [List.length_cons, List.length_nil, Nat.reduceAdd, Nat.zero_add, Nat.add_zero]; first | done | rfl) | rfl) (by first | (simp only [List.take_succ_cons, List.take_zero, List.drop_succ_cons, List.drop_zero, List.cons_append, List.nil_append, List.append_nil, List.length_cons, List.length_nil, Nat.reduceAdd, Nat.zero_add, Nat.add_zero, Value.cells, wrV]; first | done | rfl) | rfl) (by first | (simp only [List.set_cons_succ, List.set_cons_zero]; first | done | rfl) | rfl) ?_
  refine sx_assign rfl rfl ?_
  refine sx_nil (hZ _ _ ?_)
  refine awp_forget [(6, _), (7, _)] (Kn.cons rfl (Kn.cons rfl (Kn.nil))) ?_
  refine awp_seq ?_
  refine awp_seq_region (fun Z hZ => ?_)
  refine sx_move rfl rfl ?_
  refine sx_neq rfl rfl rfl ?_
  refine sx_nil (hZ _ _ ?_)
  refine awp_forget [(6, _), (7, _), (20, _)] (Kn.cons rfl (Kn.cons rfl (Kn.cons rfl (Kn.nil)))) ?_
  refine awp_cond rfl (fun h => ?_) (fun h => ?_)
  · have h' : ¬ e0 = 0 := by simpa using h
    have hx : nrE s = e0 := by rw [hE, if_neg h']
    rw [hLL, hTT, hx, if_neg h', if_neg h']
    refine awp_seq_region (fun Z hZ => ?_)
    refine sx_move rfl rfl ?_
    refine sx_assign rfl rfl ?_
    refine sx_assign rfl rfl ?_
    refine sx_assign rfl rfl ?_
    refine sx_nil (hZ _ _ ?_)
    refine awp_forget [(2, _), (3, _), (4, _)] (Kn.cons rfl (Kn.cons rfl (Kn.cons rfl (Kn.nil)))) ?_
    refine awp_ret ?_
    repeat (with_reducible refine nx_then_ret ?_)
    exact nx_ret3h [] rfl rfl rfl rfl (HLe.sub (List.nil_sublist _)) ⟨_, rfl, RowOk.nil, rfl⟩
  have h' : e0 = 0 := by simpa using h
  rw [if_pos h'] at hE
  refine awp_skip ?_
  with_reducible refine nx_normal ?_

  obtain ⟨Q, hQ⟩ : ∃ Q, (decQ p0.a).1 = Q := ⟨_, rfl⟩
  obtain ⟨ed, hed⟩ : ∃ ed, (decQ p0.a).2.2 = ed := ⟨_, rfl⟩
  rw [hQ, hed] at hdec hE d4
  rw [hQ] at d1 d2 hLL
  refine awp_seq_region (fun Z hZ => ?_)
  refine sx_indexAddrA 0 Tryz.underlying87 tyS9 rfl rfl (by omega) rfl rfl ?_
  refine sx_load 0 rfl rfl tyA9 tyS9 rfl rfl ?_
  refine sx_callO [] [_, _] hdec rfl (HLe.refl _) rfl ?_
  rintro v H' ⟨u, rfl, hu, rfl⟩
  rw [rowE_flt]
  obtain ⟨A1, c1, rfl, hA1, hle1⟩ := hu.ro
  refine sx_heap ([_, _] ++ roE A1 (ecells Q)) ((HLe.swap _ _).trans (hle1 [] [_, _] 109 4 (ecells Q))) ?_
  refine sx_move rfl rfl ?_
  refine sx_extract rfl rfl rfl ?_
  refine sx_extract rfl rfl rfl ?_
  refine sx_extract rfl rfl rfl ?_
  refine sx_assign rfl rfl ?_
  refine sx_assign rfl rfl ?_
  refine sx_assign rfl rfl ?_
  refine sx_nil (hZ _ _ ?_)
  refine awp_forget [(6, _), (8, _), (10, _)] (Kn.cons rfl (Kn.cons rfl (Kn.cons rfl (Kn.nil)))) ?_
  refine awp_seq ?_
  refine awp_seq_region (fun Z hZ => ?_)
  refine sx_move rfl rfl ?_
  refine sx_neq rfl rfl rfl ?_
  refine sx_nil (hZ _ _ ?_)
  refine awp_forget [(6, _), (8, _), (10, _), (30, _)] (Kn.cons rfl (Kn.cons rfl (Kn.cons rfl (Kn.cons rfl (Kn.nil))))) ?_
  refine awp_cond rfl (fun h2 => ?_) (fun h2 => ?_)
  · have h2' : ¬ ed = 0 := by simp at h2; omega
    rw [if_neg h2'] at hE
    have hx : ¬ nrE s = 0 := by rw [hE]; omega
    rw [hLL, hTT, if_neg hx, if_neg hx, hE]
    refine awp_seq_region (fun Z hZ => ?_)
    refine sx_move rfl rfl ?_
    refine sx_assign rfl rfl ?_
    refine sx_assign rfl rfl ?_
    refine sx_assign rfl rfl ?_
    refine sx_nil (hZ _ _ ?_)
    refine awp_forget [(2, _), (3, _), (4, _)] (Kn.cons rfl (Kn.cons rfl (Kn.cons rfl (Kn.nil)))) ?_
    refine awp_ret ?_
    repeat (with_reducible refine nx_then_ret ?_)
    exact nx_ret3h [] rfl rfl rfl rfl (HLe.sub (List.nil_sublist _)) ⟨_, rfl, RowOk.nil, rfl⟩
  have h2' : ed = 0 := by simp at h2; omega
  rw [if_pos h2'] at hE
  have hjoin := rjoin_fn A1 c1 Q (roE A1 (ecells Q)) hA1.arg (fun _ => rfl) (Ro.roE _ _) (by show _ ≤ 9223372036854775807; omega) d2 p0.c (by omega)
  obtain ⟨J, hJ⟩ : ∃ J, (joinQ Q p0.c).1 = J := ⟨_, rfl⟩
  obtain ⟨ej, hej⟩ : ∃ ej, (joinQ Q p0.c).2 = ej := ⟨_, rfl⟩
  rw [hJ, hej] at hjoin
  rw [hej] at hE
  rw [hJ] at hLL
  refine awp_skip ?_
  with_reducible refine nx_normal ?_
  refine awp_seq_region (fun Z hZ => ?_)
  refine sx_move rfl rfl ?_
  refine sx_indexAddrA 2 Tryz.underlying87 tyS9 rfl rfl (by omega) rfl rfl ?_
  refine sx_load 0 rfl rfl tyA9 tyS9 rfl rfl ?_
  refine sx_callVU (roE A1 (ecells Q)) hjoin rfl (HLe.sub (.cons _ (.cons _ (List.Sublist.refl _)))) (Ro.roE _ _) rfl ?_
  rintro v H' ⟨u, rfl, hu2, rfl⟩
  rw [rowE_flt]
  refine sx_heap ([_, _] ++ rowE u 109 4 (ecells J)) ((HLe.swap _ _).trans (HLe.sub (List.Sublist.append_left (.cons_cons _ (.cons_cons _ (List.nil_sublist _))) _))) ?_
  refine sx_move rfl rfl ?_
  refine sx_extract rfl rfl rfl ?_
  refine sx_extract rfl rfl rfl ?_
  refine sx_assign rfl rfl ?_
  refine sx_assign rfl rfl ?_
  refine sx_nil (hZ _ _ ?_)
  refine awp_forget [(6, _), (11, _), (12, _)] (Kn.cons rfl (Kn.cons rfl (Kn.cons rfl (Kn.nil)))) ?_
  refine awp_seq ?_
  refine awp_seq_region (fun Z hZ => ?_)
  refine sx_move rfl rfl ?_
  refine sx_neq rfl rfl rfl ?_
  refine sx_nil (hZ _ _ ?_)
  refine awp_forget [(6, _), (11, _), (12, _), (40, _)] (Kn.cons rfl (Kn.cons rfl (Kn.cons rfl (Kn.cons rfl (Kn.nil))))) ?_
  refine awp_cond rfl (fun h3 => ?_) (fun h3 => ?_)
  · have h3' : ¬ ej = 0 := by simp at h3; omega
    have hx : ¬ nrE s = 0 := by rw [hE]; omega
    rw [hLL, hTT, if_neg hx, if_neg hx, hE]
    refine awp_seq_region (fun Z hZ => ?_)
    refine sx_move rfl rfl ?_
    refine sx_assign rfl rfl ?_
    refine sx_assign rfl rfl ?_
    refine sx_assign rfl rfl ?_
    refine sx_nil (hZ _ _ ?_)
    refine awp_forget [(2, _), (3, _), (4, _)] (Kn.cons rfl (Kn.cons rfl (Kn.cons rfl (Kn.nil)))) ?_
    refine awp_ret ?_
    repeat (with_reducible refine nx_then_ret ?_)
    exact nx_ret3h [] rfl rfl rfl rfl (HLe.sub (List.nil_sublist _)) ⟨_, rfl, RowOk.nil, rfl⟩
  have h3' : ej = 0 := by simp at h3; omega
  have hx : nrE s = 0 := by rw [hE]; omega
  rw [hLL, hTT, hx, if_pos rfl, if_pos rfl]
  refine awp_skip ?_
  with_reducible refine nx_normal ?_
  refine awq_seq_region mixed (by kernel_rfl) (fun Z hZ => ?_)
  refine sq_move rfl rfl ?_
  refine sq_indexAddrA 3 Tryz.underlying87 tyS9 rfl rfl (by omega) rfl rfl ?_
  refine sq_load 0 rfl rfl tyA9 tyS9 rfl rfl ?_
  refine sq_assign rfl rfl ?_
  refine sq_assign rfl rfl ?_
  refine sq_assign rfl rfl ?_
  refine sq_nil (hZ _ _ ?_)
  refine awp_forget [(2, _), (3, _), (4, _)] (Kn.cons rfl (Kn.cons rfl (Kn.cons rfl (Kn.nil)))) ?_
  refine awp_ret ?_
  exact nx_ret3h _ rfl rfl rfl rfl (HLe.sub (List.sublist_append_right _ _)) ⟨_, rfl, hu2, rfl⟩
def rdE (s : List UInt8) : Int := if nrE s = 0 then ((mbQ (nrL s) (nrT s)).1 : Int) else nrE s
def rdO (s : List UInt8) : List It := if nrE s = 0 then (mbQ (nrL s) (nrT s)).2 else []
theorem rdO_ok (s : List UInt8) : ChOk (rdO s) := by
  unfold rdO
  split
  · exact mb_ok (nrL_ok s).1 _
  · exact ChOk.nil
theorem nread_fn (s : List UInt8) (hs : s.length ≤ 100000) : Fn Tryz.prog 14 [.string (str s)] [] fun v H' => ∃ u, v = .tuple #[.agg #[u], iq (rdE s)] ∧ RowOk u (rdO s).length ∧ H' = rowE u 40 2 (icells (rdO s)) := by
  have hrw := nrows_fn s hs
  obtain ⟨l1, l2⟩ := nrL_ok s
  have l3 := nrT_len s
  refine Fn.enter (N := 22) Tryz.func14 rfl (by kernel_rfl) rfl (fun w0 => ?_)

  refine awp_seq_region (fun Z hZ => ?_)
  refine sx_alloc tyZ35 rfl (fun g1 => ?_)
  refine sx_assign rfl rfl ?_
  refine sx_nil (hZ _ _ ?_)
  refine awp_forget [(0, _), (2, _)] (Kn.cons rfl (Kn.cons rfl (Kn.nil))) ?_

  refine awp_seq_region (fun Z hZ => ?_)
  refine sx_move rfl rfl ?_
  refine sx_callO [] [_] hrw rfl (HLe.refl _) rfl ?_
  rintro v H' ⟨u, rfl, hu, rfl⟩
  rw [rowE_flt]
  obtain ⟨A1, c1, rfl, hA1, hle1⟩ := hu.ro
  refine sx_heap ([_] ++ roE A1 (ecells (nrL s))) ((HLe.swap _ _).trans (hle1 [] [_] 97 4 (ecells (nrL s)))) ?_
  refine sx_move rfl rfl ?_
  refine sx_extract rfl rfl rfl ?_
  refine sx_extract rfl rfl rfl ?_
  refine sx_extract rfl rfl rfl ?_
  refine sx_assign rfl rfl ?_
  refine sx_assign rfl rfl ?_
  refine sx_assign rfl rfl ?_
  refine sx_nil (hZ _ _ ?_)
  refine awp_forget [(2, _), (4, _), (5, _), (6, _)] (Kn.cons rfl (Kn.cons rfl (Kn.cons rfl (Kn.cons rfl (Kn.nil))))) ?_
  refine awp_seq ?_
  refine awp_seq_region (fun Z hZ => ?_)
  refine sx_move rfl rfl ?_
  refine sx_neq rfl rfl rfl ?_
  refine sx_nil (hZ _ _ ?_)
  refine awp_forget [(2, _), (4, _), (5, _), (6, _), (14, _)] (Kn.cons rfl (Kn.cons rfl (Kn.cons rfl (Kn.cons rfl (Kn.cons rfl (Kn.nil)))))) ?_
  refine awp_cond rfl (fun h => ?_) (fun h => ?_)
  · have h' : ¬ nrE s = 0 := by simpa using h
    rw [show rdE s = nrE s by unfold rdE; rw [if_neg h'], show rdO s = [] by unfold rdO; rw [if_neg h']]
    refine awp_seq_region (fun Z hZ => ?_)
    refine sx_build tyZ35 tyP35 rfl rfl (by first | (simp only [List.take_succ_cons, List.take_zero, List.drop_succ_cons, List.drop_zero, List.cons_append, List.nil_append, List.append_nil, List.length_cons, List.length_nil, Nat.reduceAdd, Nat.zero_add, Nat.add_zero, Value.cells, wrV, zrep_one, List.replicate_succ, List.replicate_zero, Nat.reduceMul, Nat.zero_mul]; first | done | rfl) | rfl) rfl ?_
    refine sx_move rfl rfl ?_
    first | refine sx_store 0 rfl rfl rfl tyS35 (by first | (simp only [Value.cells]; first | done | rfl) | rfl) rfl rfl (by first | (simp only [List.length_cons, List.length_nil, Nat.reduceAdd, Nat.zero_add, Nat.add_zero]; first | done | rfl) | rfl) (by first | (simp only [List.take_succ_cons, List.take_zero, List.drop_succ_cons, List.drop_zero, List.cons_append, List.nil_append, List.append_nil, List.length_cons, List.length_nil, Nat.reduceAdd, Nat.zero_add, Nat.add_zero, Value.cells, wrV]; first | done | rfl) | rfl) (by first | (simp only [List.set_cons_succ, List.set_cons_zero]; first | done | rfl) | rfl) ?_
    refine sx_assign rfl rfl ?_
    refine sx_nil (hZ _ _ ?_)
    refine awp_forget [(2, _), (3, _)] (Kn.cons rfl (Kn.cons rfl (Kn.nil))) ?_
    refine awp_ret ?_
    repeat (with_reducible refine nx_then_ret ?_)
    exact nx_ret2h [] rfl (ResOk.cell 0 rfl rfl tyA35 tyS35 rfl) rfl (HLe.sub (List.nil_sublist _)) ⟨_, rfl, RowOk.nil, rfl⟩
  have h' : nrE s = 0 := by simpa using h
  rw [show rdE s = ((mbQ (nrL s) (nrT s)).1 : Int) by unfold rdE; rw [if_pos h'], show rdO s = (mbQ (nrL s) (nrT s)).2 by unfold rdO; rw [if_pos h']]
  have hb := mback_fn A1 c1 (nrL s) (roE A1 (ecells (nrL s))) hA1.arg (fun _ => rfl) (Ro.roE _ _) l2 l1 (nrT s) (by omega)
  refine awp_skip ?_
  with_reducible refine nx_normal ?_
  refine awp_seq_region (fun Z hZ => ?_)
  refine sx_move rfl rfl ?_
  refine sx_move rfl rfl ?_
  refine sx_callVU (roE A1 (ecells (nrL s))) hb rfl (HLe.sub (.cons _ (List.Sublist.refl _))) (Ro.roE _ _) rfl ?_
  rintro v H' ⟨u, rfl, hu2, rfl⟩
  rw [rowE_flt]
  refine sx_heap ([_] ++ rowE u 40 2 (icells (mbQ (nrL s) (nrT s)).2)) ((HLe.swap _ _).trans (HLe.sub (List.Sublist.append_left (.cons_cons _ (List.nil_sublist _)) _))) ?_
  obtain ⟨A2, c2, rfl, _⟩ := hu2.form
  refine sx_extract rfl rfl rfl ?_
  refine sx_extract rfl rfl rfl ?_
  first | refine sx_store 0 rfl rfl rfl tyS35 (by first | (simp only [Value.cells]; first | done | rfl) | rfl) rfl rfl (by first | (simp only [List.length_cons, List.length_nil, Nat.reduceAdd, Nat.zero_add, Nat.add_zero]; first | done | rfl) | rfl) (by first | (simp only [List.take_succ_cons, List.take_zero, List.drop_succ_cons, List.drop_zero, List.cons_append, List.nil_append, List.append_nil, List.length_cons, List.length_nil, Nat.reduceAdd, Nat.zero_add, Nat.add_zero, Value.cells, wrV]; first | done | rfl) | rfl) (by first | (simp only [List.set_cons_succ, List.set_cons_zero]; first | done | rfl) | rfl) ?_
  refine sx_assign rfl rfl ?_
  refine sx_nil (hZ _ _ ?_)
  refine awp_forget [(2, _), (3, _)] (Kn.cons rfl (Kn.cons rfl (Kn.nil))) ?_
  refine awp_ret ?_
  exact nx_ret2h _ rfl (ResOk.cell 0 rfl rfl tyA35 tyS35 rfl) rfl (HLe.sub (List.sublist_append_right [_] _)) ⟨_, rfl, hu2, rfl⟩
theorem rnread_fn (s : List UInt8) (hs : s.length ≤ 100000) : Fn Tryz.prog 15 [.string (str s)] [] fun v H' => ∃ u, v = .tuple #[u, iq (rdE s)] ∧ RowOk u (rdO s).length ∧ H' = rowE u 71 2 (icells (rdO s)) := by
  have hrw := rnrows_fn s hs
  obtain ⟨l1, l2⟩ := nrL_ok s
  have l3 := nrT_len s
  refine Fn.enter (N := 21) Tryz.func15 rfl (by kernel_rfl) rfl (fun w0 => ?_)

  refine awp_seq_region (fun Z hZ => ?_)
  refine sx_assign rfl rfl ?_
  refine sx_assign rfl rfl ?_
  refine sx_nil (hZ _ _ ?_)
  refine awp_forget [(0, _)] (Kn.cons rfl (Kn.nil)) ?_
  refine awp_seq_region (fun Z hZ => ?_)
  refine sx_move rfl rfl ?_
  refine sx_callO [] [] hrw rfl (HLe.refl _) rfl ?_
  rintro v H' ⟨u, rfl, hu, rfl⟩
  rw [rowE_flt]
  obtain ⟨A1, c1, rfl, hA1, hle1⟩ := hu.ro
  refine sx_heap (roE A1 (ecells (nrL s)) ++ []) (hle1 [] [] 109 4 (ecells (nrL s))) ?_
  refine sx_move rfl rfl ?_
  refine sx_extract rfl rfl rfl ?_
  refine sx_extract rfl rfl rfl ?_
  refine sx_extract rfl rfl rfl ?_
  refine sx_assign rfl rfl ?_
  refine sx_assign rfl rfl ?_
  refine sx_assign rfl rfl ?_
  refine sx_nil (hZ _ _ ?_)
  refine awp_forget [(4, _), (5, _), (6, _)] (Kn.cons rfl (Kn.cons rfl (Kn.cons rfl (Kn.nil)))) ?_
  refine awp_seq ?_
  refine awp_seq_region (fun Z hZ => ?_)
  refine sx_move rfl rfl ?_
  refine sx_neq rfl rfl rfl ?_
  refine sx_nil (hZ _ _ ?_)
  refine awp_forget [(4, _), (5, _), (6, _), (14, _)] (Kn.cons rfl (Kn.cons rfl (Kn.cons rfl (Kn.cons rfl (Kn.nil))))) ?_
  refine awp_cond rfl (fun h => ?_) (fun h => ?_)
  · have h' : ¬ nrE s = 0 := by simpa using h
    rw [show rdE s = nrE s by unfold rdE; rw [if_neg h'], show rdO s = [] by unfold rdO; rw [if_neg h']]
    refine awp_seq_region (fun Z hZ => ?_)
    refine sx_move rfl rfl ?_
    refine sx_assign rfl rfl ?_
    refine sx_assign rfl rfl ?_
    refine sx_nil (hZ _ _ ?_)
    refine awp_forget [(2, _), (3, _)] (Kn.cons rfl (Kn.cons rfl (Kn.nil))) ?_
    refine awp_ret ?_
    repeat (with_reducible refine nx_then_ret ?_)
    exact nx_ret2h [] rfl rfl rfl (HLe.sub (List.nil_sublist _)) ⟨_, rfl, RowOk.nil, rfl⟩
  have h' : nrE s = 0 := by simpa using h
  rw [show rdE s = ((mbQ (nrL s) (nrT s)).1 : Int) by unfold rdE; rw [if_pos h'], show rdO s = (mbQ (nrL s) (nrT s)).2 by unfold rdO; rw [if_pos h']]
  have hb := rmback_fn A1 c1 (nrL s) (roE A1 (ecells (nrL s))) hA1.arg (fun _ => rfl) (Ro.roE _ _) l2 l1 (nrT s) (by omega)
  refine awp_skip ?_
  with_reducible refine nx_normal ?_
  refine awp_seq_region (fun Z hZ => ?_)
  refine sx_move rfl rfl ?_
  refine sx_move rfl rfl ?_
  refine sx_callVU (roE A1 (ecells (nrL s))) hb rfl (HLe.sub (List.sublist_append_left _ _)) (Ro.roE _ _) rfl ?_
  rintro v H' ⟨u, rfl, hu2, rfl⟩
  rw [rowE_flt]
  refine sx_extract rfl rfl rfl ?_
  refine sx_extract rfl rfl rfl ?_
  refine sx_assign rfl rfl ?_
  refine sx_assign rfl rfl ?_
  refine sx_nil (hZ _ _ ?_)
  refine awp_forget [(2, _), (3, _)] (Kn.cons rfl (Kn.cons rfl (Kn.nil))) ?_
  refine awp_ret ?_
  exact nx_ret2h _ rfl rfl rfl (HLe.sub (List.sublist_append_left _ _)) ⟨_, rfl, hu2, rfl⟩
end Go.Proofs.YtahmhcmfeloclaaGreat.V
