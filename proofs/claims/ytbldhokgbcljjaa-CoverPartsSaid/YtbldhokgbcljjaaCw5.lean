/- What cover's Spans and the document's tell of any rectangle; the small example of the laws of cover. No conditions. -/
import Derived.Test.YtbldhokgbcljjaaCw4
import Derived.Test.YtbldhokgbcljjaaMw1
import Derived.Test.YtbldhokgbcljjaaKv7
namespace Go.Proofs.Ytbldhokgbcljjaa
open Go.RowKit
set_option linter.unusedVariables false
set_option linter.unusedSimpArgs false
set_option maxRecDepth 100000
theorem Fn.monoH {P : Program} {f : FuncId} {vs : List Value} {H : Heap} {R R' : Value → Heap → Prop} (h : Fn P f vs H R) (hr : ∀ v H', R v H' → ∃ H2, H2.Sublist H' ∧ R' v H2) : Fn P f vs H R' :=
  ⟨h.1, fun w hw => (h.2 w hw).mono fun e w' he => by
    obtain ⟨v, H', h1, h2, h3⟩ := he
    obtain ⟨H2, hs, h4⟩ := hr v H' h2
    exact ⟨v, H2, h1, h4, h3.sub hs⟩⟩
/-- A list and an error, as a call hands them back. -/
def TellsL (f : FuncId) (t : TypeId) (vs : List Value) (L : List Sp) (e : Int) : Prop := Fn Try.prog f vs [] fun v H' => ∃ u, v = .tuple #[u, iq e] ∧ RowOk u L.length ∧ H' = rowE u t 2 (scells L)
theorem tellsL_nil {f : FuncId} {t : TypeId} {vs : List Value} {e : Int} (h : Fn Try.prog f vs [] fun v _ => v = .tuple #[.slice none 0 0, iq e]) : TellsL f t vs [] e :=
  Fn.monoH h fun v H' hv => ⟨[], List.nil_sublist _, _, hv, RowOk.nil, rfl⟩
theorem spans_both (r : Rc) (most : Int) : ∃ L e, SpR r most L e ∧ TellsL 48 43 [r.val, iq most] L e ∧ (sizeQ r ≤ 300 → TellsL 55 75 [r.val, iq most] L e) := by
  by_cases hm : most < 1 ∨ 4096 < most
  · exact ⟨[], 2, .inl ⟨by decide, rfl, .inl ⟨hm, rfl⟩⟩, tellsL_nil (cspans_arg r most hm), fun _ => tellsL_nil (rspans_arg r most hm)⟩
  have h1 : 1 ≤ most := by omega
  have h2 : most ≤ 4096 := by omega
  by_cases hc : chkE r = 0
  · obtain ⟨Z, a, b, c, d, hr⟩ := chk_ok hc
    obtain ⟨L, hL⟩ := done_ex Z (RIn a b c d) (4 ^ Z)
    obtain ⟨m, rfl⟩ : ∃ m : Nat, most = m := ⟨most.toNat, by omega⟩
    by_cases hl : L.length ≤ m
    · refine ⟨L, 0, .inr ⟨rfl, Z, a, b, c, d, hr, h1, h2, hL, by omega⟩, ?_, fun hs => ?_⟩
      · exact Fn.monoH (cspans_fn hr m (by omega) (by omega) L hL) fun v H' hv => by
          rcases hv with ⟨_, hv⟩ | ⟨h3, _⟩
          · exact ⟨H', List.Sublist.refl _, hv⟩
          · omega
      · rw [hr.size] at hs
        exact Fn.monoH (rspans_fn hr m (by omega) (by omega) hs L hL) fun v H' hv => by
          rcases hv with ⟨_, hv⟩ | ⟨h3, _⟩
          · exact ⟨H', List.Sublist.refl _, hv⟩
          · omega
    · refine ⟨[], 21, .inl ⟨by decide, rfl, .inr (.inr ⟨h1, h2, rfl, Z, a, b, c, d, L, hr, hL, by omega⟩)⟩, ?_, fun hs => ?_⟩
      · exact tellsL_nil (Fn.monoH (cspans_fn hr m (by omega) (by omega) L hL) fun v H' hv => by
          rcases hv with ⟨h3, _⟩ | ⟨_, hv, _⟩
          · omega
          · exact ⟨H', List.Sublist.refl _, hv⟩)
      · rw [hr.size] at hs
        exact tellsL_nil (Fn.monoH (rspans_fn hr m (by omega) (by omega) hs L hL) fun v H' hv => by
          rcases hv with ⟨h3, _⟩ | ⟨_, hv, _⟩
          · omega
          · exact ⟨H', List.Sublist.refl _, hv⟩)
  · exact ⟨[], chkE r, .inl ⟨hc, rfl, .inr (.inl ⟨h1, h2, hc, rfl⟩)⟩, tellsL_nil (cspans_chk r most h1 h2 hc), fun _ => tellsL_nil (rspans_chk r most h1 h2 hc)⟩
theorem SpR.len {r : Rc} {most : Int} {L : List Sp} {e : Int} (h : SpR r most L e) : L.length ≤ 4096 := by
  rcases h with ⟨_, rfl, _⟩ | ⟨_, Z, a, b, c, d, _, _, h1, _, h2⟩
  · exact Nat.zero_le _
  · omega
theorem done_sps {Z : Nat} {P : Nat → Nat → Prop} {L : List Sp} (hZ : Z ≤ 26) (h : DoneQ Z P (4 ^ Z) L) : SpsOk L := fun s hs => by
  have h1 := h.below s hs
  have h2 := h.plain.ok s hs
  have h3 : base4 Z + 4 ^ Z ≤ base4 27 := base4_mono (a := Z + 1) (by omega)
  rw [base4_27] at h3
  exact ⟨by omega, by omega⟩
theorem SpR.sps {r : Rc} {most : Int} {L : List Sp} {e : Int} (h : SpR r most L e) : SpsOk L := by
  rcases h with ⟨_, rfl, _⟩ | ⟨_, Z, a, b, c, d, hr, _, h1, h2, _⟩
  · exact fun s hs => by cases hs
  · exact done_sps hr.zo h2
section
variable {N : Frm} {w0 : World} {Wr : List Nat} {ops : Array Oper} {rest : List Oper} {fr : Fr} {H : Heap} {Z : Fr → Heap → Prop} {d ty : Nat} {pos : String} {after : Array Edge} {xs : List Operand} {ts : Array TypeId}
/-- A call that hands back a list and an error. -/
theorem sx_callIT {f : FuncId} {t : TypeId} {vs : List Value} {L : List Sp} {e : Int} (hc : TellsL f t vs L e) (hx : evs fr xs = some vs) (hN : Nat.ble (d + 1) N.n = true)
    (h : ∀ A c, SlIn A L.length c → sx Try.prog N w0 Wr ops rest ((d, .tuple #[.slice A L.length c, iq e]) :: fr) (H ++ roE A (scells L)) Z) : sx Try.prog N w0 Wr ops ((⟨some d, .call { callee := .value (.func f), args := xs.toArray, argTypes := ts }, ty, pos, after, none⟩ : Oper) :: rest) fr H Z :=
  sx_callVU [] hc hx (HLe.sub (List.nil_sublist _)) Ro.nil hN (by
    rintro v H' ⟨u, rfl, hu, rfl⟩
    rw [rowE_flt]
    exact sx_toRoE (fun u => (d, .tuple #[u, iq e]) :: fr) hu h)
end
theorem same05_fn (A : Option Addr) (c : Nat) (L : List Sp) (hA : SlIn A L.length c) (hL : L.length ≤ 100000) (B : Option Addr) (d : Nat) (M : List Sp) (hB : SlIn B M.length d) (hM : M.length ≤ 100000) :
    Fn Try.prog 40 [.slice A L.length c, .slice B M.length d] (roE A (scells L) ++ roE B (scells M)) fun v _ => v = .bool (sameS L M) :=
  rssame_fn A c L _ hA.arg (fun _ => rfl) (by show _ ≤ 9223372036854775807; omega) B d M _ hB.arg (fun _ => rfl) (by show _ ≤ 9223372036854775807; omega)
def cwA : List Sp := [⟨5, 6⟩, ⟨9, 8⟩]
def cwB : List Sp := [⟨1, 4⟩, ⟨8, 8⟩]
def cwU : List Sp := [⟨1, 6⟩, ⟨8, 8⟩]
def cwL : List Sp := [⟨5, 6⟩, ⟨19, 20⟩]
theorem cw_un : unQ cwA cwB = cwU := by kernel_rfl
theorem cw_sps {L : List Sp} (h : L.all (fun s => decide (s.a < 18446744073709551616 ∧ s.b < 18446744073709551616)) = true) : SpsOk L := fun s hs => by simpa using List.all_eq_true.1 h s hs
theorem cw_ok : (Rc.mk 2 0 0 3 0).Ok 2 0 0 3 0 := ⟨rfl, by decide, by decide, by decide, by decide, by decide⟩
theorem cw_done : DoneQ 2 (RIn 0 0 3 0) (4 ^ 2) cwL := by
  refine ⟨⟨by simp [cwL], fun s hs => by simp only [cwL, List.mem_cons, List.not_mem_nil, or_false] at hs; rcases hs with rfl | rfl <;> decide⟩, fun k => ?_⟩
  have e : base4 2 = 5 := rfl
  rw [e]
  have key : ∀ j : Fin 16, ((5 ≤ j.1 + 5 ∧ j.1 + 5 ≤ 6) ∨ (19 ≤ j.1 + 5 ∧ j.1 + 5 ≤ 20)) ↔ RIn 0 0 3 0 (pt 2 j.1).1 (pt 2 j.1).2 := by decide
  have hin : inS cwL k ↔ (5 ≤ k ∧ k ≤ 6) ∨ (19 ≤ k ∧ k ≤ 20) := by
    unfold cwL
    rw [inS_cons, inS_one]
  rw [hin]
  constructor
  · intro h
    have hk := key ⟨k - 5, by omega⟩
    rw [show k - 5 + 5 = k by omega] at hk
    exact ⟨by omega, by omega, hk.1 h⟩
  · rintro ⟨h1, h2, h3⟩
    have hk := key ⟨k - 5, by omega⟩
    rw [show k - 5 + 5 = k by omega] at hk
    exact hk.2 h3
theorem cwk1 : TellsL 48 43 [(Rc.mk 2 0 0 3 0).val, iq 9] cwL 0 := Fn.monoH (cspans_fn cw_ok 9 (by decide) (by decide) cwL cw_done) fun v H' hv => by
  rcases hv with ⟨_, hv⟩ | ⟨h3, _⟩
  · exact ⟨H', List.Sublist.refl _, hv⟩
  · exact absurd h3 (by decide)
theorem cwk2 : TellsL 48 43 [(Rc.mk 2 0 0 3 0).val, iq 1] [] 21 := tellsL_nil (Fn.monoH (cspans_fn cw_ok 1 (by decide) (by decide) cwL cw_done) fun v H' hv => by
  rcases hv with ⟨h3, _⟩ | ⟨_, hv, _⟩
  · exact absurd h3 (by decide)
  · exact ⟨H', List.Sublist.refl _, hv⟩)
theorem cwk3 : TellsL 48 43 [(Rc.mk 1 0 0 2 0).val, iq 1] [] 8 := tellsL_nil (cspans_chk (Rc.mk 1 0 0 2 0) 1 (by decide) (by decide) (by decide))
theorem c05wake_fn : Fn Try.prog 39 [] [] fun v _ => v = .bool true := by
  refine Fn.enter (N := 106) Try.func39 rfl (by kernel_rfl) rfl (fun w0 => ?_)

  refine awp_seq_region (fun Z hZ => ?_)
  refine sx_assign rfl rfl ?_
  refine sx_nil (hZ _ _ ?_)
  refine awp_forget [] (Kn.nil) ?_
  refine awp_seq_region (fun Z hZ => ?_)
  refine sx_build tyZ64 tyP64 rfl rfl (by first | (simp only [List.take_succ_cons, List.take_zero, List.drop_succ_cons, List.drop_zero, List.cons_append, List.nil_append, List.append_nil, List.length_cons, List.length_nil, Nat.reduceAdd, Nat.zero_add, Nat.add_zero, Value.cells, wrV, zrep_one, List.replicate_succ, List.replicate_zero, Nat.reduceMul, Nat.zero_mul]; first | done | rfl) | rfl) rfl ?_
  refine sx_callIT (cwk1) rfl rfl (fun A1 c1 hA1 => ?_)
  refine sx_move rfl rfl ?_
  refine sx_extract rfl rfl rfl ?_
  refine sx_extract rfl rfl rfl ?_
  refine sx_assign rfl rfl ?_
  refine sx_assign rfl rfl ?_
  refine sx_nil (hZ _ _ ?_)
  refine awp_forget [(1, _), (2, _)] (Kn.cons rfl (Kn.cons rfl (Kn.nil))) ?_
  obtain ⟨gl, ol, rfl⟩ := slIn_pos2 hA1 (by decide)
  refine awp_heap [.ro gl ol (scells cwL)] (HLe.refl _) ?_

  refine awp_seq_region (fun Z hZ => ?_)
  refine sx_build tyZ64 tyP64 rfl rfl (by first | (simp only [List.take_succ_cons, List.take_zero, List.drop_succ_cons, List.drop_zero, List.cons_append, List.nil_append, List.append_nil, List.length_cons, List.length_nil, Nat.reduceAdd, Nat.zero_add, Nat.add_zero, Value.cells, wrV, zrep_one, List.replicate_succ, List.replicate_zero, Nat.reduceMul, Nat.zero_mul]; first | done | rfl) | rfl) rfl ?_
  refine sx_callIT (cwk2) rfl rfl (fun A2 c2 hA2 => ?_)
  refine sx_move rfl rfl ?_
  refine sx_extract rfl rfl rfl ?_
  refine sx_extract rfl rfl rfl ?_
  refine sx_assign rfl rfl ?_
  refine sx_assign rfl rfl ?_
  refine sx_nil (hZ _ _ ?_)
  refine awp_forget [(1, _), (2, _), (4, _)] (Kn.cons rfl (Kn.cons rfl (Kn.cons rfl (Kn.nil)))) ?_
  refine awp_seq_region (fun Z hZ => ?_)
  refine sx_build tyZ64 tyP64 rfl rfl (by first | (simp only [List.take_succ_cons, List.take_zero, List.drop_succ_cons, List.drop_zero, List.cons_append, List.nil_append, List.append_nil, List.length_cons, List.length_nil, Nat.reduceAdd, Nat.zero_add, Nat.add_zero, Value.cells, wrV, zrep_one, List.replicate_succ, List.replicate_zero, Nat.reduceMul, Nat.zero_mul]; first | done | rfl) | rfl) rfl ?_
  refine sx_callIT (cwk3) rfl rfl (fun A3 c3 hA3 => ?_)
  refine sx_move rfl rfl ?_
  refine sx_extract rfl rfl rfl ?_
  refine sx_extract rfl rfl rfl ?_
  refine sx_assign rfl rfl ?_
  refine sx_assign rfl rfl ?_
  refine sx_nil (hZ _ _ ?_)
  refine awp_forget [(1, _), (2, _), (4, _), (6, _)] (Kn.cons rfl (Kn.cons rfl (Kn.cons rfl (Kn.cons rfl (Kn.nil))))) ?_
  refine awp_heap [.ro gl ol (scells cwL)] (HLe.sub ((List.sublist_append_left _ _).trans (List.sublist_append_left _ _))) ?_
  refine awp_seq_region (fun Z hZ => ?_)
  refine sx_build tyZ43 tyP43 rfl rfl (by first | (simp only [List.take_succ_cons, List.take_zero, List.drop_succ_cons, List.drop_zero, List.cons_append, List.nil_append, List.append_nil, List.length_cons, List.length_nil, Nat.reduceAdd, Nat.zero_add, Nat.add_zero, Value.cells, wrV, zrep_one, List.replicate_succ, List.replicate_zero, Nat.reduceMul, Nat.zero_mul]; first | done | rfl) | rfl) rfl ?_
  refine sx_build tyZ43 tyP43 rfl rfl (by first | (simp only [List.take_succ_cons, List.take_zero, List.drop_succ_cons, List.drop_zero, List.cons_append, List.nil_append, List.append_nil, List.length_cons, List.length_nil, Nat.reduceAdd, Nat.zero_add, Nat.add_zero, Value.cells, wrV, zrep_one, List.replicate_succ, List.replicate_zero, Nat.reduceMul, Nat.zero_mul]; first | done | rfl) | rfl) rfl ?_
  refine sx_buildSlice Try.underlying24 tyS43 tyZ43 rfl rfl rfl rfl (by first | (simp only [List.take_succ_cons, List.take_zero, List.drop_succ_cons, List.drop_zero, List.cons_append, List.nil_append, List.append_nil, List.length_cons, List.length_nil, Nat.reduceAdd, Nat.zero_add, Nat.add_zero, Value.cells, wrV, zrep_one, List.replicate_succ, List.replicate_zero, Nat.reduceMul, Nat.zero_mul]; first | done | rfl) | rfl) rfl (fun g1 => ?_)
  refine sx_build tyZ43 tyP43 rfl rfl (by first | (simp only [List.take_succ_cons, List.take_zero, List.drop_succ_cons, List.drop_zero, List.cons_append, List.nil_append, List.append_nil, List.length_cons, List.length_nil, Nat.reduceAdd, Nat.zero_add, Nat.add_zero, Value.cells, wrV, zrep_one, List.replicate_succ, List.replicate_zero, Nat.reduceMul, Nat.zero_mul]; first | done | rfl) | rfl) rfl ?_
  refine sx_build tyZ43 tyP43 rfl rfl (by first | (simp only [List.take_succ_cons, List.take_zero, List.drop_succ_cons, List.drop_zero, List.cons_append, List.nil_append, List.append_nil, List.length_cons, List.length_nil, Nat.reduceAdd, Nat.zero_add, Nat.add_zero, Value.cells, wrV, zrep_one, List.replicate_succ, List.replicate_zero, Nat.reduceMul, Nat.zero_mul]; first | done | rfl) | rfl) rfl ?_
  refine sx_buildSlice Try.underlying24 tyS43 tyZ43 rfl rfl rfl rfl (by first | (simp only [List.take_succ_cons, List.take_zero, List.drop_succ_cons, List.drop_zero, List.cons_append, List.nil_append, List.append_nil, List.length_cons, List.length_nil, Nat.reduceAdd, Nat.zero_add, Nat.add_zero, Value.cells, wrV, zrep_one, List.replicate_succ, List.replicate_zero, Nat.reduceMul, Nat.zero_mul]; first | done | rfl) | rfl) rfl (fun g2 => ?_)
  refine sx_heap [.ro g1 0 (scells cwA), .ro g2 0 (scells cwB), .ro gl ol (scells cwL)] ((HLe.permS (List.Perm.swap _ _ _)).trans ((HLe.toRo (cs := scells cwA) [.ro g2 0 (scells cwB)] _).trans (HLe.toRo (cs := scells cwB) [] _))) ?_
  refine sx_callIE [.ro g1 0 (scells cwA), .ro g2 0 (scells cwB)] (union_fn (some ⟨g1, 0, none⟩) (some ⟨g2, 0, none⟩) 2 2 cwA cwB (slIn_some (by decide)) (slIn_some (by decide)) (by decide) (by decide) (cw_sps (by decide)) (cw_sps (by decide))) rfl (HLe.pick [0, 1] (by simp) rfl) ((Ro.roE (some ⟨g1, 0, none⟩) (scells cwA)).append (Ro.roE (some ⟨g2, 0, none⟩) (scells cwB))) rfl (fun A5 c5 hA5 => ?_)
  rw [cw_un] at hA5 ⊢
  obtain ⟨gu, ou, rfl⟩ := slIn_pos2 hA5 (by decide)
  refine sx_assign rfl rfl ?_
  refine sx_nil (hZ _ _ ?_)
  refine awp_forget [(1, _), (2, _), (4, _), (6, _), (7, _)] (Kn.cons rfl (Kn.cons rfl (Kn.cons rfl (Kn.cons rfl (Kn.cons rfl (Kn.nil)))))) ?_
  refine awp_heap [.ro gl ol (scells cwL), .ro gu ou (scells cwU)] (HLe.drop 2 rfl) ?_

  refine awp_seq_meet [(0, .bool true)] [] (fun Z hZ => ?_) ?_
  · refine sx_move rfl rfl ?_
    first | refine sx_eql rfl rfl rfl ?_ | refine sx_seql rfl rfl rfl ?_
    refine sx_move rfl rfl ?_
    refine sx_force 32 rfl true (by first | rfl | (simp; done)) ?_
    refine sx_on rfl rfl rfl ?_
    refine sx_move rfl rfl ?_
    refine sx_on rfl rfl rfl ?_
    first | refine sx_len Try.underlying24 rfl rfl ?_ | refine sx_lenS Try.underlying24 rfl rfl ?_
    refine sx_on rfl rfl rfl ?_
    first | refine sx_eql rfl rfl rfl ?_ | refine sx_seql rfl rfl rfl ?_
    refine sx_pick rfl rfl rfl ?_
    refine sx_move rfl rfl ?_
    refine sx_force 37 rfl true (by first | rfl | (simp; done)) ?_
    refine sx_on rfl rfl rfl ?_
    refine sx_move rfl rfl ?_
    refine sx_on rfl rfl rfl ?_
    refine sx_indexAddr (ol + 0) Try.underlying24 tyS43 rfl rfl (by decide) (by simp) rfl ?_
    refine sx_on rfl rfl rfl ?_
    refine sx_loadRo 0 rfl rfl 0 rfl tyA43 tyS43 rfl rfl ?_
    refine sx_on rfl rfl rfl ?_
    refine sx_build tyZ43 tyP43 rfl rfl (by first | (simp only [List.take_succ_cons, List.take_zero, List.drop_succ_cons, List.drop_zero, List.cons_append, List.nil_append, List.append_nil, List.length_cons, List.length_nil, Nat.reduceAdd, Nat.zero_add, Nat.add_zero, Value.cells, wrV, zrep_one, List.replicate_succ, List.replicate_zero, Nat.reduceMul, Nat.zero_mul]; first | done | rfl) | rfl) rfl ?_
    refine sx_on rfl rfl rfl ?_
    refine sx_aeql (sp_eqC ⟨5, 6⟩ ⟨5, 6⟩) guard_spC rfl rfl rfl ?_
    refine sx_pick rfl rfl rfl ?_
    refine sx_move rfl rfl ?_
    refine sx_force 44 rfl true (by first | rfl | (simp; done)) ?_
    refine sx_on rfl rfl rfl ?_
    refine sx_move rfl rfl ?_
    refine sx_on rfl rfl rfl ?_
    refine sx_indexAddr (ol + 2) Try.underlying24 tyS43 rfl rfl (by decide) (by simp) rfl ?_
    refine sx_on rfl rfl rfl ?_
    refine sx_loadRo 0 rfl rfl 2 rfl tyA43 tyS43 rfl rfl ?_
    refine sx_on rfl rfl rfl ?_
    refine sx_build tyZ43 tyP43 rfl rfl (by first | (simp only [List.take_succ_cons, List.take_zero, List.drop_succ_cons, List.drop_zero, List.cons_append, List.nil_append, List.append_nil, List.length_cons, List.length_nil, Nat.reduceAdd, Nat.zero_add, Nat.add_zero, Value.cells, wrV, zrep_one, List.replicate_succ, List.replicate_zero, Nat.reduceMul, Nat.zero_mul]; first | done | rfl) | rfl) rfl ?_
    refine sx_on rfl rfl rfl ?_
    refine sx_aeql (sp_eqC ⟨19, 20⟩ ⟨19, 20⟩) guard_spC rfl rfl rfl ?_
    refine sx_pick rfl rfl rfl ?_
    refine sx_move rfl rfl ?_
    refine sx_force 51 rfl true (by first | rfl | (simp; done)) ?_
    refine sx_on rfl rfl rfl ?_
    refine sx_move rfl rfl ?_
    refine sx_on rfl rfl rfl ?_
    first | refine sx_eql rfl rfl rfl ?_ | refine sx_seql rfl rfl rfl ?_
    refine sx_pick rfl rfl rfl ?_
    refine sx_move rfl rfl ?_
    refine sx_force 55 rfl true (by first | rfl | (simp; done)) ?_
    refine sx_on rfl rfl rfl ?_
    refine sx_move rfl rfl ?_
    refine sx_on rfl rfl rfl ?_
    first | refine sx_eql rfl rfl rfl ?_ | refine sx_seql rfl rfl rfl ?_
    refine sx_pick rfl rfl rfl ?_
    refine sx_move rfl rfl ?_
    refine sx_force 59 rfl true (by first | rfl | (simp; done)) ?_
    refine sx_on rfl rfl rfl ?_
    refine sx_move rfl rfl ?_
    refine sx_on rfl rfl rfl ?_
    first | refine sx_len Try.underlying24 rfl rfl ?_ | refine sx_lenS Try.underlying24 rfl rfl ?_
    refine sx_on rfl rfl rfl ?_
    first | refine sx_eql rfl rfl rfl ?_ | refine sx_seql rfl rfl rfl ?_
    refine sx_pick rfl rfl rfl ?_
    refine sx_move rfl rfl ?_
    refine sx_force 64 rfl true (by first | rfl | (simp; done)) ?_
    refine sx_on rfl rfl rfl ?_
    refine sx_move rfl rfl ?_
    refine sx_on rfl rfl rfl ?_
    refine sx_indexAddr (ou + 0) Try.underlying24 tyS43 rfl rfl (by decide) (by simp) rfl ?_
    refine sx_on rfl rfl rfl ?_
    refine sx_loadRo 1 rfl rfl 0 rfl tyA43 tyS43 rfl rfl ?_
    refine sx_on rfl rfl rfl ?_
    refine sx_build tyZ43 tyP43 rfl rfl (by first | (simp only [List.take_succ_cons, List.take_zero, List.drop_succ_cons, List.drop_zero, List.cons_append, List.nil_append, List.append_nil, List.length_cons, List.length_nil, Nat.reduceAdd, Nat.zero_add, Nat.add_zero, Value.cells, wrV, zrep_one, List.replicate_succ, List.replicate_zero, Nat.reduceMul, Nat.zero_mul]; first | done | rfl) | rfl) rfl ?_
    refine sx_on rfl rfl rfl ?_
    refine sx_aeql (sp_eqC ⟨1, 6⟩ ⟨1, 6⟩) guard_spC rfl rfl rfl ?_
    refine sx_pick rfl rfl rfl ?_
    refine sx_move rfl rfl ?_
    refine sx_force 71 rfl true (by first | rfl | (simp; done)) ?_
    refine sx_on rfl rfl rfl ?_
    refine sx_move rfl rfl ?_
    refine sx_on rfl rfl rfl ?_
    refine sx_indexAddr (ou + 2) Try.underlying24 tyS43 rfl rfl (by decide) (by simp) rfl ?_
    refine sx_on rfl rfl rfl ?_
    refine sx_fieldAddr rfl tyF43_1 (by first | (simp only [Nat.reduceAdd, Nat.add_zero, Nat.zero_add]; first | done | rfl) | rfl) rfl ?_
    refine sx_on rfl rfl rfl ?_
    refine sx_loadRo 1 rfl rfl 3 rfl tyA36 tyS36 rfl rfl ?_
    refine sx_on rfl rfl rfl ?_
    first | refine sx_eql rfl rfl rfl ?_ | refine sx_seql rfl rfl rfl ?_
    refine sx_pick rfl rfl rfl ?_
    refine sx_move rfl rfl ?_
    refine sx_force 78 rfl true (by first | rfl | (simp; done)) ?_
    refine sx_on rfl rfl rfl ?_
    refine sx_move rfl rfl ?_
    refine sx_on rfl rfl rfl ?_
    refine sx_callV [.ro gu ou (scells cwU)] (sin_fn (some ⟨gu, ou, none⟩) c5 cwU [.ro gu ou (scells cwU)] (fun _ => ⟨_, _, rfl⟩) (fun _ => rfl) (Ro.roE (some ⟨gu, ou, none⟩) (scells cwU)) (by decide) 8) rfl (HLe.pick [1] (by simp) rfl) (Ro.roE (some ⟨gu, ou, none⟩) (scells cwU)) rfl ?_
    rw [show decide (inS cwU 8) = true from by decide]
    refine sx_pick rfl rfl rfl ?_
    refine sx_move rfl rfl ?_
    refine sx_force 82 rfl true (by first | rfl | (simp; done)) ?_
    refine sx_on rfl rfl rfl ?_
    refine sx_move rfl rfl ?_
    refine sx_on rfl rfl rfl ?_
    refine sx_callV [.ro gu ou (scells cwU)] (sin_fn (some ⟨gu, ou, none⟩) c5 cwU [.ro gu ou (scells cwU)] (fun _ => ⟨_, _, rfl⟩) (fun _ => rfl) (Ro.roE (some ⟨gu, ou, none⟩) (scells cwU)) (by decide) 7) rfl (HLe.pick [1] (by simp) rfl) (Ro.roE (some ⟨gu, ou, none⟩) (scells cwU)) rfl ?_
    rw [show decide (inS cwU 7) = false from by decide]
    refine sx_on rfl rfl rfl ?_
    refine sx_not rfl rfl ?_
    refine sx_pick rfl rfl rfl ?_
    refine sx_move rfl rfl ?_
    refine sx_force 87 rfl true (by first | rfl | (simp; done)) ?_
    refine sx_on rfl rfl rfl ?_
    refine sx_move rfl rfl ?_
    refine sx_on rfl rfl rfl ?_
    refine sx_callV [.ro gu ou (scells cwU)] (stotal_fn (some ⟨gu, ou, none⟩) c5 cwU [.ro gu ou (scells cwU)] (fun _ => ⟨_, _, rfl⟩) (fun _ => rfl) (Ro.roE (some ⟨gu, ou, none⟩) (scells cwU)) (by decide) (cw_sps (by decide))) rfl (HLe.pick [1] (by simp) rfl) (Ro.roE (some ⟨gu, ou, none⟩) (scells cwU)) rfl ?_
    rw [show totM cwU = 7 from rfl]
    refine sx_on rfl rfl rfl ?_
    first | refine sx_eql rfl rfl rfl ?_ | refine sx_seql rfl rfl rfl ?_
    refine sx_pick rfl rfl rfl ?_
    refine sx_move rfl rfl ?_
    refine sx_force 92 rfl true (by first | rfl | (simp; done)) ?_
    refine sx_on rfl rfl rfl ?_
    refine sx_build tyZ64 tyP64 rfl rfl (by first | (simp only [List.take_succ_cons, List.take_zero, List.drop_succ_cons, List.drop_zero, List.cons_append, List.nil_append, List.append_nil, List.length_cons, List.length_nil, Nat.reduceAdd, Nat.zero_add, Nat.add_zero, Value.cells, wrV, zrep_one, List.replicate_succ, List.replicate_zero, Nat.reduceMul, Nat.zero_mul]; first | done | rfl) | rfl) rfl ?_
    refine sx_on rfl rfl rfl ?_
    refine sx_callP (cSize_fn (Rc.mk 2 0 0 3 0)) rfl rfl ?_
    refine sx_on rfl rfl rfl ?_
    first | refine sx_eql rfl rfl rfl ?_ | refine sx_seql rfl rfl rfl ?_
    refine sx_pick rfl rfl rfl ?_
    refine sx_move rfl rfl ?_
    refine sx_force 97 rfl true (by first | rfl | (simp; done)) ?_
    refine sx_on rfl rfl rfl ?_
    refine sx_build tyZ64 tyP64 rfl rfl (by first | (simp only [List.take_succ_cons, List.take_zero, List.drop_succ_cons, List.drop_zero, List.cons_append, List.nil_append, List.append_nil, List.length_cons, List.length_nil, Nat.reduceAdd, Nat.zero_add, Nat.add_zero, Value.cells, wrV, zrep_one, List.replicate_succ, List.replicate_zero, Nat.reduceMul, Nat.zero_mul]; first | done | rfl) | rfl) rfl ?_
    refine sx_on rfl rfl rfl ?_
    refine sx_callP (cCheck_fn (Rc.mk 27 0 0 0 0)) rfl rfl ?_
    refine sx_on rfl rfl rfl ?_
    first | refine sx_eql rfl rfl rfl ?_ | refine sx_seql rfl rfl rfl ?_
    refine sx_pick rfl rfl rfl ?_
    refine sx_move rfl rfl ?_
    refine sx_pick rfl rfl rfl ?_
    refine sx_move rfl rfl ?_
    refine sx_pick rfl rfl rfl ?_
    refine sx_assign rfl rfl ?_
    refine sx_nil (hZ _ _ ?_ ?_)
    · exact Kn.cons rfl Kn.nil
    · exact HLe.sub (List.nil_sublist _)
  refine awp_ret ?_
  repeat (with_reducible (first | refine nx_then_ret ?_ | refine nx_block_ret ?_ | refine nx_scope_ret ?_))
  exact nx_ret1 rfl rfl rfl
end Go.Proofs.Ytbldhokgbcljjaa
