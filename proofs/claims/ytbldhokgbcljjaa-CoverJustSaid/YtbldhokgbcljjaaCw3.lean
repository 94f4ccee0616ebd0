/- The walks of cover's walk and Spans. No conditions. -/
import Derived.Test.YtbldhokgbcljjaaCw2
import Derived.Test.YtbldhokgbcljjaaKv3
import Derived.Test.YtbldhokgbcljjaaCu5
namespace Go.Proofs.Ytbldhokgbcljjaa
open Go.RowKit
set_option linter.unusedVariables false
set_option linter.unusedSimpArgs false
set_option maxRecDepth 100000
/-- A call of a function's value that takes a part of memory; the rest stays. -/
theorem sx_callFO {P : Program} {N : Frm} {w0 : World} {Wr : List Nat} {ops : Array Oper} {rest : List Oper} {fr : Fr} {H : Heap} {Z : Fr → Heap → Prop} {ty : Nat} {pos : String} {after : Array Edge}
    {f : FuncId} {caps : List Value} {x : Operand} {xs : List Operand} {vs : List Value} {ts : Array TypeId} {dst : Option Nat} {R : Value → Heap → Prop} (Hc K : Heap) (hc : Fn P f (vs ++ caps) Hc R) (hf : ev fr x = some (.func (.func f) #[] caps.toArray)) (hx : evs fr xs = some vs) (hH : HLe (Hc ++ K) H) (hN : dstB N dst = true)
    (h : ∀ v H', R v H' → sx P N w0 Wr ops rest (match dst with | some d => (d, v) :: fr | none => fr) (H'.filter Ent.wr ++ K) Z) :
    sx P N w0 Wr ops (⟨dst, .call { callee := .value x, args := xs.toArray, argTypes := ts }, ty, pos, after, none⟩ :: rest) fr H Z :=
  sx_callFW (R := fun v H2 => ∃ H', R v H' ∧ H2 = H'.filter Ent.wr ++ K) hc.1 hf hx hN (fun w hw => by
    have hw' := hH _ _ _ hw
    have hpre : Sat w (wrs Hc) Hc w := by
      have hsub := hw'.sub (List.sublist_append_left Hc K)
      exact ⟨Only.refl _ _, fun e he => ⟨(hsub.ents e he).1, fun h => .inl (mem_wrs.2 ⟨e, he, h, rfl⟩)⟩, hsub.sep⟩
    exact (hc.2 w hpre).mono fun e w' he => by
      obtain ⟨v, H', h1, h2, h3⟩ := he
      exact ⟨v, _, h1, ⟨H', h2, rfl⟩, hw'.callA (U := []) Ro.nil (by rw [List.append_nil]; exact h3)⟩) (fun v H2 hR => by obtain ⟨H', hR, rfl⟩ := hR; exact h v H' hR)
/-- What the closure of Spans has: its list, its bound. -/
abbrev HW (go gm : Nat) (u : Value) (L : List Sp) (most : Nat) : Heap := .own go 24 [u] :: .own gm 3 [iq (most : Nat)] :: rowE u 43 2 (scells L)
theorem hw_flt (go gm : Nat) (u : Value) (L : List Sp) (most : Nat) : (HW go gm u L most).filter Ent.wr = HW go gm u L most := (Wrs.cons rfl (Wrs.cons rfl (rowE_wrs _ _ _ _))).filter
theorem cput_fn (go gm : Nat) (u : Value) (L : List Sp) (s : Sp) (most : Nat) (hu : RowOk u L.length) (hL : L.length ≤ 1000000) (ho : SpsOk (s :: L)) :
    Fn Try.prog 83 ([s.val] ++ [ptr go 0, ptr gm 0]) (HW go gm u L most) fun v H' => ∃ u', v = .bool (decide ((joinQ L s).length ≤ most)) ∧ RowOk u' (joinQ L s).length ∧ H' = HW go gm u' (joinQ L s) most := by
  rw [show [s.val] ++ [ptr go 0, ptr gm 0] = [s.val, ptr go 0, ptr gm 0] from rfl]
  refine Fn.enter (N := 12) Try.func83 rfl (by kernel_rfl) rfl (fun w0 => ?_)

  refine awp_seq_region (fun Z hZ => ?_)
  refine sx_box rfl rfl rfl (fun g1 => ?_)
  refine sx_assign rfl rfl ?_
  refine sx_nil (hZ _ _ ?_)
  refine awp_forget [(1, _), (2, _), (3, _)] (Kn.cons rfl (Kn.cons rfl (Kn.cons rfl (Kn.nil)))) ?_

  refine awp_seq_region (fun Z hZ => ?_)
  refine sx_load 1 rfl rfl tyA24 tyS24 rfl rfl ?_
  refine sx_loadA 0 rfl rfl tyA43 tyS43 (by first | (simp only [List.length_cons, List.length_nil, Nat.reduceAdd, Nat.zero_add, Nat.add_zero]; first | done | rfl) | rfl) (by first | (simp only [List.take_succ_cons, List.take_zero, List.drop_succ_cons, List.drop_zero, List.cons_append, List.nil_append, List.append_nil, List.length_cons, List.length_nil, Nat.reduceAdd, Nat.zero_add, Nat.add_zero, Value.cells, wrV]; first | done | rfl) | rfl) rfl ?_
  refine sx_callO (rowE u 43 2 (scells L)) [.own g1 43 s.cells, .own go 24 [u], .own gm 3 [iq (most : Nat)]] (join_fn u L s hu hL ho) rfl (HLe.swap [_, _, _] _) rfl ?_
  rintro v' H' ⟨hv', rfl⟩
  rw [rowE_flt]
  obtain ⟨A, c, rfl, hA⟩ := hv'.form
  refine sx_heap (.own g1 43 s.cells :: .own go 24 [u] :: .own gm 3 [iq (most : Nat)] :: rowE (.slice A (joinQ L s).length c) 43 2 (scells (joinQ L s))) (HLe.swap _ [_, _, _]) ?_
  refine sx_store1 1 rfl rfl rfl tyS24 rfl (by first | (simp only [List.length_cons, List.length_nil, Nat.reduceAdd, Nat.zero_add, Nat.add_zero]; first | done | rfl) | rfl) (by first | (simp only [List.set_cons_succ, List.set_cons_zero, Nat.reduceAdd, Nat.add_zero, Nat.zero_add]; first | done | rfl) | rfl) (by first | (simp only [List.set_cons_succ, List.set_cons_zero]; first | done | rfl) | rfl) ?_
  refine sx_nil (hZ _ _ ?_)
  refine awp_forget [(1, _), (2, _)] (Kn.cons rfl (Kn.cons rfl (Kn.nil))) ?_
  refine awp_seq_region (fun Z hZ => ?_)
  refine sx_load 1 rfl rfl tyA24 tyS24 rfl rfl ?_
  refine sx_len Try.underlying24 rfl rfl ?_
  refine sx_load 2 rfl rfl tyA3 tyS3 rfl rfl ?_
  refine sx_leq rfl rfl rfl ?_
  refine sx_assign rfl rfl ?_
  refine sx_nil (hZ _ _ ?_)
  refine awp_forget [(4, _)] (Kn.cons rfl (Kn.nil)) ?_
  refine awp_ret ?_
  exact nx_ret1h _ rfl rfl (HLe.drop 1 rfl) ⟨_, congrArg Value.bool (by rw [Bool.eq_iff_iff]; simp), hv', rfl⟩
/-- What of a tile lies in the rectangle. -/
theorem sq_none {z n a b A B C D : Nat} (ha : a < 2 ^ z) (hb : b < 2 ^ z) (h : C < a * 2 ^ n ∨ (a + 1) * 2 ^ n - 1 < A ∨ D < b * 2 ^ n ∨ (b + 1) * 2 ^ n - 1 < B) :
    ∀ e, hp z a b * 4 ^ n ≤ e → e < hp z a b * 4 ^ n + 4 ^ n → ¬ RIn A B C D (pt (z + n) e).1 (pt (z + n) e).2 := fun e h1 h2 hr => by
  have hl := hp_lt z a b ha hb
  have hq : hp z a b * 4 ^ n + 4 ^ n ≤ 4 ^ (z + n) := by
    rw [Nat.pow_add, ← Nat.succ_mul]
    exact Nat.mul_le_mul_right _ hl
  obtain ⟨h3, h4⟩ := (sq_pt ha hb (by omega)).1 ⟨h1, h2⟩
  rw [sq_rng] at h3 h4
  obtain ⟨⟨r1, r2⟩, r3, r4⟩ := hr
  omega
theorem sq_all {z n a b A B C D : Nat} (ha : a < 2 ^ z) (hb : b < 2 ^ z) (h : A ≤ a * 2 ^ n ∧ (a + 1) * 2 ^ n - 1 ≤ C ∧ B ≤ b * 2 ^ n ∧ (b + 1) * 2 ^ n - 1 ≤ D) :
    ∀ e, hp z a b * 4 ^ n ≤ e → e < hp z a b * 4 ^ n + 4 ^ n → RIn A B C D (pt (z + n) e).1 (pt (z + n) e).2 := fun e h1 h2 => by
  have hl := hp_lt z a b ha hb
  have hq : hp z a b * 4 ^ n + 4 ^ n ≤ 4 ^ (z + n) := by
    rw [Nat.pow_add, ← Nat.succ_mul]
    exact Nat.mul_le_mul_right _ hl
  obtain ⟨h3, h4⟩ := (sq_pt ha hb (by omega)).1 ⟨h1, h2⟩
  rw [sq_rng] at h3 h4
  exact ⟨⟨by omega, by omega⟩, by omega, by omega⟩
def WalkR (go gm most Zm A B C D E : Nat) (v : Value) (H' : Heap) : Prop :=
  ∃ u' L' D' g, v = .bool g ∧ RowOk u' L'.length ∧ H' = HW go gm u' L' most ∧ DoneQ Zm (RIn A B C D) D' L' ∧ ((g = true ∧ L'.length ≤ most ∧ D' = E) ∨ (g = false ∧ most < L'.length ∧ D' ≤ 4 ^ Zm))
theorem walk_fn (go gm most Zm A B C D : Nat) (hZm : Zm ≤ 26) (hC : C < 2 ^ Zm) (hD : D < 2 ^ Zm) (hAC : A ≤ C) (hBD : B ≤ D) (hm : most ≤ 4096) : ∀ n z a b : Nat, z + n = Zm → a < 2 ^ z → b < 2 ^ z → ∀ (u : Value) (L : List Sp), RowOk u L.length → L.length ≤ most → DoneQ Zm (RIn A B C D) (hp z a b * 4 ^ n) L →
    Fn Try.prog 84 [tval (z : Nat) a b, (Rc.mk (Zm : Nat) A B C D).val, .func (.func 83) #[] #[ptr go 0, ptr gm 0]] (HW go gm u L most) (WalkR go gm most Zm A B C D (hp z a b * 4 ^ n + 4 ^ n)) := by
  intro n
  induction n using Nat.strongRecOn with
  | _ n ih =>
  intro z a b hzn ha hb u L hu hL hd
  subst hzn
  have hq := hp_lt z a b ha hb
  have h4n := pow4_pos n
  have hle : hp z a b * 4 ^ n + 4 ^ n ≤ 4 ^ (z + n) := by
    rw [Nat.pow_add, ← Nat.succ_mul]
    exact Nat.mul_le_mul_right _ hq
  have hbl : base4 (z + n) + 4 ^ (z + n) ≤ base4 27 := base4_mono (a := z + n + 1) (by omega)
  rw [base4_27] at hbl
  have hbelow := hd.below
  refine Fn.enter (N := 55) Try.func84 rfl (by kernel_rfl) rfl (fun w0 => ?_)

  refine awp_seq_region (fun Z hZ => ?_)
  refine sx_box rfl rfl rfl (fun g1 => ?_)
  refine sx_box rfl rfl rfl (fun g2 => ?_)
  refine sx_assign rfl rfl ?_
  refine sx_nil (hZ _ _ ?_)
  refine awp_forget [(2, _), (3, _), (4, _)] (Kn.cons rfl (Kn.cons rfl (Kn.cons rfl (Kn.nil)))) ?_

  refine awp_seq_region (fun Z hZ => ?_)
  refine sx_loadA 1 rfl rfl tyA52 tyS52 (by first | (simp only [List.length_cons, List.length_nil, Nat.reduceAdd, Nat.zero_add, Nat.add_zero]; first | done | rfl) | rfl) (by first | (simp only [List.take_succ_cons, List.take_zero, List.drop_succ_cons, List.drop_zero, List.cons_append, List.nil_append, List.append_nil, List.length_cons, List.length_nil, Nat.reduceAdd, Nat.zero_add, Nat.add_zero, Value.cells, wrV]; first | done | rfl) | rfl) rfl ?_
  refine sx_fieldAddr rfl tyF64_0 (by first | (simp only [Nat.reduceAdd, Nat.add_zero, Nat.zero_add]; first | done | rfl) | rfl) rfl ?_
  refine sx_load 0 rfl rfl tyA3 tyS3 rfl rfl ?_
  refine sx_callP (square_fn z n a b hZm ha hb) rfl rfl ?_
  refine sx_alloc tyZ64 rfl (fun g3 => ?_)
  refine sx_store 0 rfl rfl rfl tyS64 (by first | (simp only [Value.cells]; first | done | rfl) | rfl) rfl rfl (by first | (simp only [List.length_cons, List.length_nil, Nat.reduceAdd, Nat.zero_add, Nat.add_zero]; first | done | rfl) | rfl) (by first | (simp only [List.take_succ_cons, List.take_zero, List.drop_succ_cons, List.drop_zero, List.cons_append, List.nil_append, List.append_nil, List.length_cons, List.length_nil, Nat.reduceAdd, Nat.zero_add, Nat.add_zero, Value.cells, wrV]; first | done | rfl) | rfl) (by first | (simp only [List.set_cons_succ, List.set_cons_zero]; first | done | rfl) | rfl) ?_
  refine sx_nil (hZ _ _ ?_)
  refine awp_forget [(2, _), (3, _), (4, _), (7, _)] (Kn.cons rfl (Kn.cons rfl (Kn.cons rfl (Kn.cons rfl (Kn.nil))))) ?_

  refine awp_seq ?_
  refine awp_seq_region (fun Z hZ => ?_)
  refine sx_loadA 0 rfl rfl tyA64 tyS64 (by first | (simp only [List.length_cons, List.length_nil, Nat.reduceAdd, Nat.zero_add, Nat.add_zero]; first | done | rfl) | rfl) (by first | (simp only [List.take_succ_cons, List.take_zero, List.drop_succ_cons, List.drop_zero, List.cons_append, List.nil_append, List.append_nil, List.length_cons, List.length_nil, Nat.reduceAdd, Nat.zero_add, Nat.add_zero, Value.cells, wrV]; first | done | rfl) | rfl) rfl ?_
  refine sx_loadA 1 rfl rfl tyA64 tyS64 (by first | (simp only [List.length_cons, List.length_nil, Nat.reduceAdd, Nat.zero_add, Nat.add_zero]; first | done | rfl) | rfl) (by first | (simp only [List.take_succ_cons, List.take_zero, List.drop_succ_cons, List.drop_zero, List.cons_append, List.nil_append, List.append_nil, List.length_cons, List.length_nil, Nat.reduceAdd, Nat.zero_add, Nat.add_zero, Value.cells, wrV]; first | done | rfl) | rfl) rfl ?_
  refine sx_callP (apart_fn (sqR z n a b) ⟨(z + n : Nat), A, B, C, D⟩) rfl rfl ?_
  refine sx_nil (hZ _ _ ?_)
  refine awp_forget [(2, _), (3, _), (4, _), (7, _), (21, _)] (Kn.cons rfl (Kn.cons rfl (Kn.cons rfl (Kn.cons rfl (Kn.cons rfl (Kn.nil)))))) ?_
  refine awp_cond rfl (fun h1 => ?_) (fun h1 => ?_)
  · have h1' := of_decide_eq_true h1
    refine awp_seq_region (fun Z hZ => ?_)
    refine sx_assign rfl rfl ?_
    refine sx_nil (hZ _ _ ?_)
    refine awp_forget [(6, _)] (Kn.cons rfl (Kn.nil)) ?_
    refine awp_ret ?_
    repeat (with_reducible refine nx_then_ret ?_)
    exact nx_ret1h _ rfl rfl (HLe.drop 3 rfl) ⟨u, L, _, true, rfl, hu, rfl, hd.skip _ (sq_none ha hb (by simp only [sqR] at h1'; omega)), .inl ⟨rfl, hL, rfl⟩⟩
  have h1' := of_decide_eq_false h1
  refine awp_skip ?_
  with_reducible refine nx_normal ?_
  refine awp_seq ?_
  refine awp_seq_region (fun Z hZ => ?_)
  refine sx_loadA 0 rfl rfl tyA64 tyS64 (by first | (simp only [List.length_cons, List.length_nil, Nat.reduceAdd, Nat.zero_add, Nat.add_zero]; first | done | rfl) | rfl) (by first | (simp only [List.take_succ_cons, List.take_zero, List.drop_succ_cons, List.drop_zero, List.cons_append, List.nil_append, List.append_nil, List.length_cons, List.length_nil, Nat.reduceAdd, Nat.zero_add, Nat.add_zero, Value.cells, wrV]; first | done | rfl) | rfl) rfl ?_
  refine sx_loadA 1 rfl rfl tyA64 tyS64 (by first | (simp only [List.length_cons, List.length_nil, Nat.reduceAdd, Nat.zero_add, Nat.add_zero]; first | done | rfl) | rfl) (by first | (simp only [List.take_succ_cons, List.take_zero, List.drop_succ_cons, List.drop_zero, List.cons_append, List.nil_append, List.append_nil, List.length_cons, List.length_nil, Nat.reduceAdd, Nat.zero_add, Nat.add_zero, Value.cells, wrV]; first | done | rfl) | rfl) rfl ?_
  refine sx_callP (within_fn (sqR z n a b) ⟨(z + n : Nat), A, B, C, D⟩) rfl rfl ?_
  refine sx_nil (hZ _ _ ?_)
  refine awp_forget [(2, _), (3, _), (4, _), (24, _)] (Kn.cons rfl (Kn.cons rfl (Kn.cons rfl (Kn.cons rfl (Kn.nil))))) ?_
  refine awp_cond rfl (fun h2 => ?_) (fun h2 => ?_)
  · have h2' := of_decide_eq_true h2
    have hj := hd.join h4n (sq_all ha hb (by simp only [sqR] at h2'; omega))
    have hr := tRange_fn z n a b hZm ha hb
    obtain ⟨s, hs⟩ : ∃ s : Sp, (⟨base4 (z + n) + hp z a b * 4 ^ n, base4 (z + n) + hp z a b * 4 ^ n + 4 ^ n - 1⟩ : Sp) = s := ⟨_, rfl⟩
    rw [hs] at hj
    have hso : SpsOk (s :: L) := fun x hx => by
      rcases List.mem_cons.1 hx with rfl | hx
      · rw [← hs]
        exact ⟨by show base4 (z + n) + hp z a b * 4 ^ n < _; omega, by show base4 (z + n) + hp z a b * 4 ^ n + 4 ^ n - 1 < _; omega⟩
      · have h3 := hbelow x hx
        have h4 := hd.plain.ok x hx
        exact ⟨by omega, by omega⟩
    refine awp_seq_region (fun Z hZ => ?_)
    refine sx_loadA 2 rfl rfl tyA52 tyS52 (by first | (simp only [List.length_cons, List.length_nil, Nat.reduceAdd, Nat.zero_add, Nat.add_zero]; first | done | rfl) | rfl) (by first | (simp only [List.take_succ_cons, List.take_zero, List.drop_succ_cons, List.drop_zero, List.cons_append, List.nil_append, List.append_nil, List.length_cons, List.length_nil, Nat.reduceAdd, Nat.zero_add, Nat.add_zero, Value.cells, wrV]; first | done | rfl) | rfl) rfl ?_
    refine sx_fieldAddr rfl tyF64_0 (by first | (simp only [Nat.reduceAdd, Nat.add_zero, Nat.zero_add]; first | done | rfl) | rfl) rfl ?_
    refine sx_load 1 rfl rfl tyA3 tyS3 rfl rfl ?_
    refine sx_callP (hr) rfl rfl ?_
    refine sx_move rfl rfl ?_
    refine sx_extract rfl rfl rfl ?_
    refine sx_extract rfl rfl rfl ?_
    refine sx_extract rfl rfl rfl ?_
    refine sx_assign rfl rfl ?_
    refine sx_assign rfl rfl ?_
    refine sx_assign rfl rfl ?_
    refine sx_nil (hZ _ _ ?_)
    refine awp_forget [(2, _), (8, _), (9, _)] (Kn.cons rfl (Kn.cons rfl (Kn.cons rfl (Kn.nil)))) ?_
    refine awp_seq_region (fun Z hZ => ?_)
    refine sx_move rfl rfl ?_
    refine sx_move rfl rfl ?_
    refine sx_move rfl rfl ?_
    refine sx_build tyZ43 tyP43 rfl rfl (by first | (simp only [List.take_succ_cons, List.take_zero, List.drop_succ_cons, List.drop_zero, List.cons_append, List.nil_append, List.append_nil, List.length_cons, List.length_nil, Nat.reduceAdd, Nat.zero_add, Nat.add_zero, Value.cells, wrV, zrep_one, List.replicate_succ, List.replicate_zero, Nat.reduceMul, Nat.zero_mul]; first | done | rfl) | rfl) rfl ?_
    refine sx_callFO (vs := [s.val]) (HW go gm u L most) [] (cput_fn go gm u L s most hu (by omega) hso) rfl (by rw [← hs]; rfl) (by rw [List.append_nil]; exact HLe.drop 3 rfl) rfl ?_
    rintro v' H' ⟨u', rfl, hu', rfl⟩
    rw [hw_flt, List.append_nil]
    refine sx_assign rfl rfl ?_
    refine sx_nil (hZ _ _ ?_)
    refine awp_forget [(6, _)] (Kn.cons rfl (Kn.nil)) ?_
    refine awp_ret ?_
    repeat (with_reducible refine nx_then_ret ?_)
    refine nx_ret1h _ rfl rfl (HLe.refl _) ⟨u', joinQ L s, _, _, rfl, hu', rfl, hj, ?_⟩
    by_cases h : (joinQ L s).length ≤ most
    · exact .inl ⟨decide_eq_true h, h, rfl⟩
    · exact .inr ⟨decide_eq_false h, by omega, hle⟩
  have h2' := of_decide_eq_false h2
  refine awp_skip ?_
  with_reducible refine nx_normal ?_
  obtain ⟨m, rfl⟩ : ∃ m, n = m + 1 := by
    refine ⟨n - 1, ?_⟩
    rcases Nat.eq_zero_or_pos n with h | h
    · subst h
      simp only [sqR, Nat.pow_zero, Nat.mul_one] at h1' h2'
      omega
    · omega
  have hdn := tDown_fn z a b (by omega) ha hb
  obtain ⟨h, hh⟩ : ∃ h, hp z a b = h := ⟨_, rfl⟩
  rw [hh] at hq hle hd hdn ⊢
  refine awp_seq_region (fun Z hZ => ?_)
  refine sx_loadA 2 rfl rfl tyA52 tyS52 (by first | (simp only [List.length_cons, List.length_nil, Nat.reduceAdd, Nat.zero_add, Nat.add_zero]; first | done | rfl) | rfl) (by first | (simp only [List.take_succ_cons, List.take_zero, List.drop_succ_cons, List.drop_zero, List.cons_append, List.nil_append, List.append_nil, List.length_cons, List.length_nil, Nat.reduceAdd, Nat.zero_add, Nat.add_zero, Value.cells, wrV]; first | done | rfl) | rfl) rfl ?_
  refine sx_callU [] hdn rfl (List.nil_sublist _) Ro.nil rfl ?_
  rintro v2 H2 ⟨w2, rfl, hw2, rfl⟩
  rw [rowE_flt]
  refine sx_move rfl rfl ?_
  refine sx_extract rfl rfl rfl ?_
  refine sx_extract rfl rfl rfl ?_
  refine sx_assign rfl rfl ?_
  refine sx_assign rfl rfl ?_
  refine sx_nil (hZ _ _ ?_)
  refine awp_forget [(2, _), (4, _), (11, _)] (Kn.cons rfl (Kn.cons rfl (Kn.cons rfl (Kn.nil)))) ?_
  obtain ⟨gk, ck, rfl⟩ := hw2.some (by omega)
  obtain ⟨K, hK⟩ : ∃ K, ptsL (z + 1) (4 * h) 4 = K := ⟨_, rfl⟩
  have hKl : K.length = 4 := by rw [← hK]; exact ptsL_len _ _ _
  rw [hK]
  refine awp_heap (.ob gk (RowP 52 3 4 ck (tlc (z + 1) K)) :: .own g2 64 (Rc.mk (z + (m + 1) : Nat) A B C D).cells :: HW go gm u L most) (HLe.sub (List.Sublist.cons_cons _ (.cons _ (.cons_cons _ (.cons _ (List.Sublist.refl _)))))) ?_

  refine awp_seq ?_
  refine awp_seq_region (fun Z hZ => ?_)
  refine sx_move rfl rfl ?_
  refine sx_len Try.underlying55 rfl rfl ?_
  refine sx_move rfl rfl ?_
  refine sx_nil (hZ _ _ ?_)
  refine awp_forget [(2, _), (4, _), (43, _), (44, _), (45, _)] (Kn.cons rfl (Kn.cons rfl (Kn.cons rfl (Kn.cons rfl (Kn.cons rfl (Kn.nil)))))) ?_
  refine awp_block ?_
  refine awp_loop (ι := Nat × Value × List Sp) (fun i => [(2, .func (.func 83) #[] #[ptr go 0, ptr gm 0]), (4, ptr g2 0), (43, .slice (some ⟨gk, 0, none⟩) 4 ck), (44, iq (4 : Nat)), (45, iq (i.1 : Nat))]) (fun i => .ob gk (RowP 52 3 4 ck (tlc (z + 1) K)) :: .own g2 64 (Rc.mk (z + (m + 1) : Nat) A B C D).cells :: HW go gm i.2.1 i.2.2 most)
    (fun i => i.1 ≤ 4 ∧ RowOk i.2.1 i.2.2.length ∧ i.2.2.length ≤ most ∧ DoneQ (z + (m + 1)) (RIn A B C D) ((4 * h + i.1) * 4 ^ m) i.2.2) (fun i => 4 - i.1) (0, u, L) ⟨Nat.zero_le _, hu, hL, by rw [show (4 * h + 0) * 4 ^ m = h * 4 ^ (m + 1) by rw [Nat.pow_succ, Nat.add_zero, Nat.mul_comm 4 h, Nat.mul_assoc, Nat.mul_comm 4]]; exact hd⟩ (Kn.cons rfl (Kn.cons rfl (Kn.cons rfl (Kn.cons rfl (Kn.cons rfl Kn.nil))))) (HLe.refl _) ?_
  rintro ⟨i, u1, L1⟩ ⟨hi, hu1, hL1, hd1⟩
  replace hi : i ≤ 4 := hi
  replace hu1 : RowOk u1 L1.length := hu1
  replace hL1 : L1.length ≤ most := hL1
  replace hd1 : DoneQ (z + (m + 1)) (RIn A B C D) ((4 * h + i) * 4 ^ m) L1 := hd1
  refine awp_forget [(2, .func (.func 83) #[] #[ptr go 0, ptr gm 0]), (4, ptr g2 0), (43, .slice (some ⟨gk, 0, none⟩) 4 ck), (44, iq (4 : Nat)), (45, iq (i : Nat))] (Kn.cons rfl (Kn.cons rfl (Kn.cons rfl (Kn.cons rfl (Kn.cons rfl Kn.nil))))) ?_
  refine awp_heap (.ob gk (RowP 52 3 4 ck (tlc (z + 1) K)) :: .own g2 64 (Rc.mk (z + (m + 1) : Nat) A B C D).cells :: HW go gm u1 L1 most) (HLe.refl _) ?_
  refine awp_seq_region (fun Z hZ => ?_)
  refine sx_lss rfl rfl rfl ?_
  refine sx_nil (hZ _ _ ?_)
  refine awp_forget [(2, _), (4, _), (43, _), (44, _), (45, _), (46, _)] (Kn.cons rfl (Kn.cons rfl (Kn.cons rfl (Kn.cons rfl (Kn.cons rfl (Kn.cons rfl (Kn.nil))))))) ?_
  refine awp_seq (awp_cond rfl (fun h9 => ?_) (fun h9 => ?_))
  · have hlt : i < 4 := by simp at h9; omega
    obtain ⟨p, hpk⟩ : ∃ p, K[i]? = some p := ⟨_, List.getElem?_eq_getElem (by omega)⟩
    have hdl : 4 * h + i < 4 ^ (z + 1) := by rw [Nat.pow_succ]; omega
    have hpp : p = pt (z + 1) (4 * h + i) := by
      rw [← hK] at hpk
      unfold ptsL at hpk
      rw [List.getElem?_map, List.getElem?_range hlt] at hpk
      exact (Option.some.inj hpk).symm
    obtain ⟨hp1, hp2⟩ := pt_lt _ _ hdl
    have hpp2 := hp_pt _ _ hdl
    rw [← hpp] at hp1 hp2 hpp2
    have hw := ih m (Nat.lt_succ_self m) (z + 1) p.1 p.2 (by omega) hp1 hp2 u1 L1 hu1 hL1 (by rw [hpp2]; exact hd1)
    rw [hpp2] at hw
    refine awp_skip ?_
    with_reducible refine nx_normal ?_
    refine awp_seq (awp_block ?_)
    refine awp_seq_region (fun Z hZ => ?_)
    refine sx_indexAddr (0 + i * 3) Try.underlying55 tyS52 rfl rfl (by omega) (by simp) rfl ?_
    refine sx_loadRd (i * 3) rfl (by omega) (fun w hw1 => rd_row (i := 0) rfl hw1) (by omega) tyA52 tyS52 (tlc_all hpk) rfl ?_
    refine sx_alloc tyZ52 rfl (fun g4 => ?_)
    refine sx_store 0 rfl rfl rfl tyS52 (by first | (simp only [Value.cells]; first | done | rfl) | rfl) rfl rfl (by first | (simp only [List.length_cons, List.length_nil, Nat.reduceAdd, Nat.zero_add, Nat.add_zero]; first | done | rfl) | rfl) (by first | (simp only [List.take_succ_cons, List.take_zero, List.drop_succ_cons, List.drop_zero, List.cons_append, List.nil_append, List.append_nil, List.length_cons, List.length_nil, Nat.reduceAdd, Nat.zero_add, Nat.add_zero, Value.cells, wrV]; first | done | rfl) | rfl) (by first | (simp only [List.set_cons_succ, List.set_cons_zero]; first | done | rfl) | rfl) ?_
    refine sx_nil (hZ _ _ ?_)
    refine awp_forget [(2, _), (4, _), (14, _), (43, _), (44, _), (45, _)] (Kn.cons rfl (Kn.cons rfl (Kn.cons rfl (Kn.cons rfl (Kn.cons rfl (Kn.cons rfl (Kn.nil))))))) ?_

    refine awp_seq_region (fun Z hZ => ?_)
    refine sx_loadA 0 rfl rfl tyA52 tyS52 (by first | (simp only [List.length_cons, List.length_nil, Nat.reduceAdd, Nat.zero_add, Nat.add_zero]; first | done | rfl) | rfl) (by first | (simp only [List.take_succ_cons, List.take_zero, List.drop_succ_cons, List.drop_zero, List.cons_append, List.nil_append, List.append_nil, List.length_cons, List.length_nil, Nat.reduceAdd, Nat.zero_add, Nat.add_zero, Value.cells, wrV]; first | done | rfl) | rfl) rfl ?_
    refine sx_loadA 2 rfl rfl tyA64 tyS64 (by first | (simp only [List.length_cons, List.length_nil, Nat.reduceAdd, Nat.zero_add, Nat.add_zero]; first | done | rfl) | rfl) (by first | (simp only [List.take_succ_cons, List.take_zero, List.drop_succ_cons, List.drop_zero, List.cons_append, List.nil_append, List.append_nil, List.length_cons, List.length_nil, Nat.reduceAdd, Nat.zero_add, Nat.add_zero, Value.cells, wrV]; first | done | rfl) | rfl) rfl ?_
    refine sx_move rfl rfl ?_
    refine sx_callO (HW go gm u1 L1 most) [.own g4 52 (tcells (z + 1 : Nat) p.1 p.2), .ob gk (RowP 52 3 4 ck (tlc (z + 1) K)), .own g2 64 (Rc.mk (z + (m + 1) : Nat) A B C D).cells] (hw) rfl (HLe.swap [_, _, _] _) rfl ?_
    rintro v' H' ⟨u', L', D', g, rfl, hu', rfl, hd', hg⟩
    rw [hw_flt]
    refine sx_not rfl rfl ?_
    refine sx_nil (hZ _ _ ?_)
    refine awp_forget [(2, _), (4, _), (43, _), (44, _), (45, _), (53, _)] (Kn.cons rfl (Kn.cons rfl (Kn.cons rfl (Kn.cons rfl (Kn.cons rfl (Kn.cons rfl (Kn.nil))))))) ?_
    refine awp_cond rfl (fun h11 => ?_) (fun h11 => ?_)
    · obtain ⟨rfl, hg2, hg3⟩ : g = false ∧ most < L'.length ∧ D' ≤ 4 ^ (z + (m + 1)) := by
        rcases hg with ⟨rfl, _⟩ | hg
        · cases h11
        · exact hg
      refine awp_seq_region (fun Z hZ => ?_)
      refine sx_assign rfl rfl ?_
      refine sx_nil (hZ _ _ ?_)
      refine awp_forget [(6, _)] (Kn.cons rfl (Kn.nil)) ?_
      refine awp_ret ?_
      repeat (with_reducible (first | refine nx_then_ret ?_ | refine nx_block_ret ?_))
      exact nx_ret1h _ rfl rfl (HLe.sub (List.sublist_append_left _ _)) ⟨u', L', D', false, rfl, hu', rfl, hd', .inr ⟨rfl, hg2, hg3⟩⟩
    obtain ⟨rfl, hg2, hg3⟩ : g = true ∧ L'.length ≤ most ∧ D' = (4 * h + i) * 4 ^ m + 4 ^ m := by
      rcases hg with hg | ⟨rfl, _⟩
      · exact hg
      · cases h11
    refine awp_skip ?_
    repeat (with_reducible refine nx_block_normal ?_)
    with_reducible refine nx_normal ?_
    refine awp_region (fun Z hZ => ?_)
    refine sx_add rfl rfl ((i + 1 : Nat) : Int) (by rw [IntWalk.i64_in _ (by omega)]; omega) rfl ?_
    refine sx_move rfl rfl ?_
    refine sx_nil (hZ _ _ ?_)
    refine nx_forget [(2, _), (4, _), (43, _), (44, _), (45, _)] (Kn.cons rfl (Kn.cons rfl (Kn.cons rfl (Kn.cons rfl (Kn.cons rfl (Kn.nil)))))) ?_
    refine nx_round (i + 1, u', L') ⟨hlt, hu', hg2, ?_⟩ (show 4 - (i + 1) < 4 - i by omega) (Kn.cons rfl (Kn.cons rfl (Kn.cons rfl (Kn.cons rfl (Kn.cons rfl Kn.nil))))) ((HLe.drop 1 rfl).trans (HLe.swap (HW go gm u' L' most) [_, _, _]))
    show DoneQ (z + (m + 1)) (RIn A B C D) ((4 * h + (i + 1)) * 4 ^ m) L'
    rw [show (4 * h + (i + 1)) * 4 ^ m = (4 * h + i) * 4 ^ m + 4 ^ m by rw [← Nat.add_assoc, Nat.succ_mul], ← hg3]
    exact hd'
  · refine awp_exit ?_
    repeat (with_reducible refine nx_then_exit ?_)
    with_reducible refine nx_block_exit ?_
    with_reducible refine nx_normal ?_
    obtain rfl : i = 4 := by simp at h9; omega
    refine awp_seq_region (fun Z hZ => ?_)
    refine sx_assign rfl rfl ?_
    refine sx_nil (hZ _ _ ?_)
    refine awp_forget [(6, _)] (Kn.cons rfl (Kn.nil)) ?_
    refine awp_ret ?_
    refine nx_ret1h _ rfl rfl (HLe.drop 2 rfl) ⟨u1, L1, _, true, rfl, hu1, rfl, hd1, .inl ⟨rfl, hL1, ?_⟩⟩
    rw [Nat.pow_succ, Nat.mul_comm (4 ^ m), ← Nat.mul_assoc, Nat.mul_comm h, Nat.add_mul]
theorem cspans_arg (r : Rc) (most : Int) (hm : most < 1 ∨ 4096 < most) : Fn Try.prog 48 [r.val, iq most] [] fun v _ => v = .tuple #[.slice none 0 0, iq (2 : Int)] := by
  refine Fn.enter (N := 27) Try.func48 rfl (by kernel_rfl) rfl (fun w0 => ?_)

  refine awp_seq_region (fun Z hZ => ?_)
  refine sx_box rfl rfl rfl (fun g1 => ?_)
  refine sx_box rfl rfl rfl (fun g2 => ?_)
  refine sx_assign rfl rfl ?_
  refine sx_assign rfl rfl ?_
  refine sx_nil (hZ _ _ ?_)
  refine awp_forget [(2, _), (3, _)] (Kn.cons rfl (Kn.cons rfl (Kn.nil))) ?_

  refine awp_seq ?_
  refine awp_seq_meet [(14, .bool true)] [] (fun Z hZ => ?_) ?_
  · refine sx_load 0 rfl rfl tyA3 tyS3 rfl rfl ?_
    refine sx_lss rfl rfl rfl ?_
    refine sx_move rfl rfl ?_
    refine sx_split 11 rfl (fun hb2 => ?_) (fun hb2 => ?_)
    · refine sx_off rfl rfl rfl rfl rfl ?_
      refine sx_off rfl rfl rfl rfl rfl ?_
      refine sx_pick rfl rfl rfl ?_
      refine sx_nil (hZ _ _ ?_ ?_)
      · exact Kn.cons (congrArg some (congrArg Value.bool (by first | rfl | (exfalso; simp at *; omega) | (simp at *; done) | (simp at *; omega)))) Kn.nil
      · exact HLe.sub (List.nil_sublist _)
    · refine sx_on rfl rfl rfl ?_
      refine sx_load 0 rfl rfl tyA3 tyS3 rfl rfl ?_
      refine sx_on rfl rfl rfl ?_
      refine sx_gtr rfl rfl rfl ?_
      refine sx_pick rfl rfl rfl ?_
      refine sx_nil (hZ _ _ ?_ ?_)
      · exact Kn.cons (congrArg some (congrArg Value.bool (by first | rfl | (exfalso; simp at *; omega) | (simp at *; done) | (simp at *; omega)))) Kn.nil
      · exact HLe.sub (List.nil_sublist _)
  refine awp_cond rfl (fun h => ?_) (fun h => ?_)
  · refine awp_seq_region (fun Z hZ => ?_)
    refine sx_assign rfl rfl ?_
    refine sx_assign rfl rfl ?_
    refine sx_nil (hZ _ _ ?_)
    refine awp_forget [(4, _), (5, _)] (Kn.cons rfl (Kn.cons rfl (Kn.nil))) ?_
    refine awp_ret ?_
    repeat (with_reducible refine nx_then_ret ?_)
    exact nx_ret2 rfl rfl rfl rfl
  cases h
theorem cspans_chk (r : Rc) (most : Int) (h1 : 1 ≤ most) (h2 : most ≤ 4096) (hc : chkE r ≠ 0) : Fn Try.prog 48 [r.val, iq most] [] fun v _ => v = .tuple #[.slice none 0 0, iq (chkE r)] := by
  have hck := cCheck_fn r
  obtain ⟨e, he⟩ : ∃ e, chkE r = e := ⟨_, rfl⟩
  rw [he] at hck hc ⊢
  refine Fn.enter (N := 27) Try.func48 rfl (by kernel_rfl) rfl (fun w0 => ?_)

  refine awp_seq_region (fun Z hZ => ?_)
  refine sx_box rfl rfl rfl (fun g1 => ?_)
  refine sx_box rfl rfl rfl (fun g2 => ?_)
  refine sx_assign rfl rfl ?_
  refine sx_assign rfl rfl ?_
  refine sx_nil (hZ _ _ ?_)
  refine awp_forget [(2, _), (3, _)] (Kn.cons rfl (Kn.cons rfl (Kn.nil))) ?_

  refine awp_seq ?_
  refine awp_seq_meet [(2, ptr g1 0), (3, ptr g2 0), (14, .bool false)] [.own g1 64 r.cells] (fun Z hZ => ?_) ?_
  · refine sx_load 0 rfl rfl tyA3 tyS3 rfl rfl ?_
    refine sx_lss rfl rfl rfl ?_
    refine sx_move rfl rfl ?_
    refine sx_split 11 rfl (fun hb2 => ?_) (fun hb2 => ?_)
    · refine sx_off rfl rfl rfl rfl rfl ?_
      refine sx_off rfl rfl rfl rfl rfl ?_
      refine sx_pick rfl rfl rfl ?_
      refine sx_nil (hZ _ _ ?_ ?_)
      · exact Kn.cons rfl (Kn.cons rfl (Kn.cons (congrArg some (congrArg Value.bool (by first | rfl | (exfalso; simp at *; omega) | (simp at *; done) | (simp at *; omega)))) Kn.nil))
      · exact HLe.drop 1 rfl
    · refine sx_on rfl rfl rfl ?_
      refine sx_load 0 rfl rfl tyA3 tyS3 rfl rfl ?_
      refine sx_on rfl rfl rfl ?_
      refine sx_gtr rfl rfl rfl ?_
      refine sx_pick rfl rfl rfl ?_
      refine sx_nil (hZ _ _ ?_ ?_)
      · exact Kn.cons rfl (Kn.cons rfl (Kn.cons (congrArg some (congrArg Value.bool (by first | rfl | (exfalso; simp at *; omega) | (simp at *; done) | (simp at *; omega)))) Kn.nil))
      · exact HLe.drop 1 rfl
  refine awp_cond rfl (fun h => ?_) (fun h => ?_)
  · cases h
  refine awp_skip ?_
  with_reducible refine nx_normal ?_

  refine awp_seq ?_
  refine awp_seq_region (fun Z hZ => ?_)
  first | refine sx_loadA 0 rfl rfl tyA64 tyS64 (by first | (simp only [List.length_cons, List.length_nil, Nat.reduceAdd, Nat.zero_add, Nat.add_zero]; first | done | rfl) | rfl) (by first | (simp only [List.take_succ_cons, List.take_zero, List.drop_succ_cons, List.drop_zero, List.cons_append, List.nil_append, List.append_nil, List.length_cons, List.length_nil, Nat.reduceAdd, Nat.zero_add, Nat.add_zero, Value.cells, wrV]; first | done | rfl) | rfl) rfl ?_
  refine sx_callP (hck) rfl rfl ?_
  refine sx_assign rfl rfl ?_
  refine sx_nil (hZ _ _ ?_)
  refine awp_forget [(2, _), (3, _), (6, _)] (Kn.cons rfl (Kn.cons rfl (Kn.cons rfl (Kn.nil)))) ?_
  refine awp_seq_region (fun Z hZ => ?_)
  refine sx_move rfl rfl ?_
  refine sx_neq rfl rfl rfl ?_
  refine sx_nil (hZ _ _ ?_)
  refine awp_forget [(2, _), (3, _), (6, _), (18, _)] (Kn.cons rfl (Kn.cons rfl (Kn.cons rfl (Kn.cons rfl (Kn.nil))))) ?_
  refine awp_cond rfl (fun h4 => ?_) (fun h4 => ?_)
  · refine awp_seq_region (fun Z hZ => ?_)
    refine sx_move rfl rfl ?_
    refine sx_assign rfl rfl ?_
    refine sx_assign rfl rfl ?_
    refine sx_nil (hZ _ _ ?_)
    refine awp_forget [(4, _), (5, _)] (Kn.cons rfl (Kn.cons rfl (Kn.nil))) ?_
    refine awp_ret ?_
    repeat (with_reducible refine nx_then_ret ?_)
    exact nx_ret2 rfl rfl rfl rfl
  exact absurd (by simpa using h4) hc
theorem cspans_fn {r : Rc} {Zm A B C D : Nat} (hr : r.Ok Zm A B C D) (most : Nat) (h1 : 1 ≤ most) (h2 : most ≤ 4096) (L : List Sp) (hL : DoneQ Zm (RIn A B C D) (4 ^ Zm) L) :
    Fn Try.prog 48 [r.val, iq (most : Nat)] [] fun v H' => (L.length ≤ most ∧ ∃ u, v = .tuple #[u, iq (0 : Int)] ∧ RowOk u L.length ∧ H' = rowE u 43 2 (scells L)) ∨ (most < L.length ∧ v = .tuple #[.slice none 0 0, iq (21 : Int)] ∧ H' = []) := by
  have hck := cCheck_fn r
  rw [hr.chk] at hck
  obtain ⟨rfl, hZm, hx, hy, hxl, hyl⟩ := hr
  have e00 : hp 0 0 0 * 4 ^ Zm = 0 := by rw [show hp 0 0 0 = 0 from rfl, Nat.zero_mul]
  have hwk := fun go gm => walk_fn go gm most Zm A B C D hZm hxl hyl hx hy h2 Zm 0 0 0 (Nat.zero_add Zm) (by decide) (by decide) (.slice none 0 0) [] RowOk.nil (Nat.zero_le _) (by rw [e00]; exact DoneQ.nil)
  simp only [e00, Nat.zero_add] at hwk
  refine Fn.enter (N := 27) Try.func48 rfl (by kernel_rfl) rfl (fun w0 => ?_)

  refine awp_seq_region (fun Z hZ => ?_)
  refine sx_box rfl rfl rfl (fun g1 => ?_)
  refine sx_box rfl rfl rfl (fun g2 => ?_)
  refine sx_assign rfl rfl ?_
  refine sx_assign rfl rfl ?_
  refine sx_nil (hZ _ _ ?_)
  refine awp_forget [(2, _), (3, _)] (Kn.cons rfl (Kn.cons rfl (Kn.nil))) ?_

  refine awp_seq ?_
  refine awp_seq_meet [(2, ptr g1 0), (3, ptr g2 0), (14, .bool false)] [.own g2 3 [iq (most : Nat)], .own g1 64 (Rc.mk (Zm : Nat) A B C D).cells] (fun Z hZ => ?_) ?_
  · refine sx_load 0 rfl rfl tyA3 tyS3 rfl rfl ?_
    refine sx_lss rfl rfl rfl ?_
    refine sx_move rfl rfl ?_
    refine sx_split 11 rfl (fun hb2 => ?_) (fun hb2 => ?_)
    · refine sx_off rfl rfl rfl rfl rfl ?_
      refine sx_off rfl rfl rfl rfl rfl ?_
      refine sx_pick rfl rfl rfl ?_
      refine sx_nil (hZ _ _ ?_ ?_)
      · exact Kn.cons rfl (Kn.cons rfl (Kn.cons (congrArg some (congrArg Value.bool (by first | rfl | (exfalso; simp at *; omega) | (simp at *; done) | (simp at *; omega)))) Kn.nil))
      · exact HLe.refl _
    · refine sx_on rfl rfl rfl ?_
      refine sx_load 0 rfl rfl tyA3 tyS3 rfl rfl ?_
      refine sx_on rfl rfl rfl ?_
      refine sx_gtr rfl rfl rfl ?_
      refine sx_pick rfl rfl rfl ?_
      refine sx_nil (hZ _ _ ?_ ?_)
      · exact Kn.cons rfl (Kn.cons rfl (Kn.cons (congrArg some (congrArg Value.bool (by first | rfl | (exfalso; simp at *; omega) | (simp at *; done) | (simp at *; omega)))) Kn.nil))
      · exact HLe.refl _
  refine awp_cond rfl (fun h => ?_) (fun h => ?_)
  · cases h
  refine awp_skip ?_
  with_reducible refine nx_normal ?_
  refine awp_seq ?_
  refine awp_seq_region (fun Z hZ => ?_)
  refine sx_loadA 1 rfl rfl tyA64 tyS64 (by first | (simp only [List.length_cons, List.length_nil, Nat.reduceAdd, Nat.zero_add, Nat.add_zero]; first | done | rfl) | rfl) (by first | (simp only [List.take_succ_cons, List.take_zero, List.drop_succ_cons, List.drop_zero, List.cons_append, List.nil_append, List.append_nil, List.length_cons, List.length_nil, Nat.reduceAdd, Nat.zero_add, Nat.add_zero, Value.cells, wrV]; first | done | rfl) | rfl) rfl ?_
  refine sx_callP (hck) rfl rfl ?_
  refine sx_assign rfl rfl ?_
  refine sx_nil (hZ _ _ ?_)
  refine awp_forget [(2, _), (3, _), (6, _)] (Kn.cons rfl (Kn.cons rfl (Kn.cons rfl (Kn.nil)))) ?_
  refine awp_seq_region (fun Z hZ => ?_)
  refine sx_move rfl rfl ?_
  refine sx_neq rfl rfl rfl ?_
  refine sx_nil (hZ _ _ ?_)
  refine awp_forget [(2, _), (3, _), (6, _), (18, _)] (Kn.cons rfl (Kn.cons rfl (Kn.cons rfl (Kn.cons rfl (Kn.nil))))) ?_
  refine awp_cond rfl (fun h4 => ?_) (fun h4 => ?_)
  · cases h4
  refine awp_skip ?_
  with_reducible refine nx_normal ?_
  refine awp_seq_region (fun Z hZ => ?_)
  refine sx_alloc tyZ24 rfl (fun g3 => ?_)
  refine sx_nil (hZ _ _ ?_)
  refine awp_forget [(2, _), (3, _), (7, _)] (Kn.cons rfl (Kn.cons rfl (Kn.cons rfl (Kn.nil)))) ?_

  refine awp_seq_region (fun Z hZ => ?_)
  refine sx_makeFunc rfl rfl ?_
  refine sx_assign rfl rfl ?_
  refine sx_nil (hZ _ _ ?_)
  refine awp_forget [(2, _), (7, _), (8, _)] (Kn.cons rfl (Kn.cons rfl (Kn.cons rfl (Kn.nil)))) ?_
  refine awp_seq ?_
  refine awp_seq_region (fun Z hZ => ?_)
  refine sx_build tyZ52 tyP52 rfl rfl (by first | (simp only [List.take_succ_cons, List.take_zero, List.drop_succ_cons, List.drop_zero, List.cons_append, List.nil_append, List.append_nil, List.length_cons, List.length_nil, Nat.reduceAdd, Nat.zero_add, Nat.add_zero, Value.cells, wrV, zrep_one, List.replicate_succ, List.replicate_zero, Nat.reduceMul, Nat.zero_mul]; first | done | rfl) | rfl) rfl ?_
  refine sx_loadA 2 rfl rfl tyA64 tyS64 (by first | (simp only [List.length_cons, List.length_nil, Nat.reduceAdd, Nat.zero_add, Nat.add_zero]; first | done | rfl) | rfl) (by first | (simp only [List.take_succ_cons, List.take_zero, List.drop_succ_cons, List.drop_zero, List.cons_append, List.nil_append, List.append_nil, List.length_cons, List.length_nil, Nat.reduceAdd, Nat.zero_add, Nat.add_zero, Value.cells, wrV]; first | done | rfl) | rfl) rfl ?_
  refine sx_move rfl rfl ?_
  refine sx_callO (HW g3 g2 (.slice none 0 0) [] most) [.own g1 64 (Rc.mk (Zm : Nat) A B C D).cells] (hwk g3 g2) rfl (HLe.refl _) rfl ?_
  rintro v' H' ⟨u', L', D', g, rfl, hu', rfl, hd', hg⟩
  rw [hw_flt]
  refine sx_not rfl rfl ?_
  refine sx_nil (hZ _ _ ?_)
  refine awp_forget [(7, _), (25, _)] (Kn.cons rfl (Kn.cons rfl (Kn.nil))) ?_
  refine awp_cond rfl (fun h8 => ?_) (fun h8 => ?_)
  · obtain ⟨rfl, hg2, hg3⟩ : g = false ∧ most < L'.length ∧ D' ≤ 4 ^ Zm := by
      rcases hg with ⟨rfl, _⟩ | hg
      · cases h8
      · exact hg
    have := hd'.mono hL hg3
    refine awp_seq_region (fun Z hZ => ?_)
    refine sx_assign rfl rfl ?_
    refine sx_assign rfl rfl ?_
    refine sx_nil (hZ _ _ ?_)
    refine awp_forget [(4, _), (5, _)] (Kn.cons rfl (Kn.cons rfl (Kn.nil))) ?_
    refine awp_ret ?_
    repeat (with_reducible refine nx_then_ret ?_)
    exact nx_ret2h [] rfl rfl rfl (HLe.sub (List.nil_sublist _)) (.inr ⟨by omega, rfl, rfl⟩)
  obtain ⟨rfl, hg2, hg3⟩ : g = true ∧ L'.length ≤ most ∧ D' = 4 ^ Zm := by
    rcases hg with hg | ⟨rfl, _⟩
    · exact hg
    · cases h8
  rw [hg3] at hd'
  obtain rfl := hd'.uniq hL
  refine awp_skip ?_
  with_reducible refine nx_normal ?_

  refine awp_seq_region (fun Z hZ => ?_)
  refine sx_load 0 rfl rfl tyA24 tyS24 rfl rfl ?_
  refine sx_assign rfl rfl ?_
  refine sx_assign rfl rfl ?_
  refine sx_nil (hZ _ _ ?_)
  refine awp_forget [(4, _), (5, _)] (Kn.cons rfl (Kn.cons rfl (Kn.nil))) ?_
  refine awp_ret ?_
  exact nx_ret2h _ rfl rfl rfl ((HLe.drop 2 rfl).trans (HLe.sub (List.sublist_append_left _ _))) (.inl ⟨hg2, u', rfl, hu', rfl⟩)
end Go.Proofs.Ytbldhokgbcljjaa
