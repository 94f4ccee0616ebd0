/- LeavesJoins. No conditions. -/
import Derived.Test.YtodclhiggafkbaaLf10
namespace Go.Proofs.Ytodclhiggafkbaa
open Go.RowKit
set_option linter.unusedVariables false
set_option linter.unusedSimpArgs false
set_option maxRecDepth 100000
theorem rowC_len {L : List En} (h : rowC L = 0) : L.length ≤ 4096 := by
  unfold rowC at h
  split at h
  · cases h
  · omega
theorem joinG_ok (t : List UInt8) : ∀ (r out : List En), EnsOk out → EnsOk r → (joinG t out r).1.length ≤ 4096 ∧ EnsOk (joinG t out r).1
  | [], out, hO, _ => by
    rw [joinG]
    split
    · exact ⟨Nat.zero_le _, fun e h => by cases h⟩
    · rename_i h
      exact ⟨rowC_len (by simpa using h), hO⟩
  | x :: r, out, hO, hr => by
    have hr' : EnsOk r := fun e h => hr e (List.mem_cons_of_mem _ h)
    rw [joinG]
    split
    · split
      · exact ⟨Nat.zero_le _, fun e h => by cases h⟩
      · exact joinG_ok t r _ (fun e h => (List.mem_append.1 h).elim (hO e) ((pieceQ_ok x t).2 e)) hr'
    · exact joinG_ok t r _ (fun e h => (List.mem_append.1 h).elim (hO e) (fun h => by rw [List.mem_singleton.1 h]; exact hr x List.mem_cons_self)) hr'
theorem joinQ_ok {L : List En} (hE : EnsOk L) (t : List UInt8) : (joinQ L t).1.length ≤ 4096 ∧ EnsOk (joinQ L t).1 := by
  unfold joinQ
  split
  · exact ⟨Nat.zero_le _, fun e h => by cases h⟩
  · exact joinG_ok t L [] (fun e h => by cases h) hE
theorem joins_fn (A : Option Addr) (c : Nat) (L : List En) (T : Heap) (hA : ArgOk A L.length) (hT : 0 < L.length → T = roE A (ecells L)) (hro : Ro T) (hL : L.length ≤ maxLen) (hE : EnsOk L) (t : List UInt8) :
    Fn Try.prog 4 [.slice A L.length c, .string (str t)] T fun v _ => v = .bool true := by
  have hL' : L.length ≤ 9223372036854775807 := hL
  refine Fn.enter (N := 43) Try.func4 rfl (by kernel_rfl) rfl (fun w0 => ?_)

  refine awp_seq_region (fun Z hZ => ?_)
  refine sx_assign rfl rfl ?_
  refine sx_nil (hZ _ _ ?_)
  refine awp_forget [(0, _), (1, _)] (Kn.cons rfl (Kn.cons rfl (Kn.nil))) ?_
  refine awp_seq ?_
  refine awp_seq_meet [(0, .slice A L.length c), (1, .string (str t)), (16, .bool (decide (100 < L.length ∨ 1500 < t.length)))] T (fun Z hZ => ?_) ?_
  · refine sx_move rfl rfl ?_
    first | refine sx_len Try.underlying22 rfl rfl ?_ | refine sx_lenS Try.underlying22 rfl rfl ?_
    first | refine sx_gtr rfl rfl rfl ?_ | refine sx_sgtr rfl rfl rfl ?_
    refine sx_move rfl rfl ?_
    refine sx_split 12 rfl (fun hb3 => ?_) (fun hb3 => ?_)
    · refine sx_off rfl rfl rfl rfl rfl ?_
      refine sx_off rfl rfl rfl rfl rfl ?_
      refine sx_off rfl rfl rfl rfl rfl ?_
      refine sx_pick rfl rfl rfl ?_
      refine sx_nil (hZ _ _ ?_ ?_)
      · exact Kn.cons rfl (Kn.cons rfl (Kn.cons (congrArg some (congrArg Value.bool (by first | (simp at *; done) | (simp at *; omega) | (simp at *; rw [Bool.eq_iff_iff]; simp; omega)))) Kn.nil))
      · exact HLe.refl _
    · refine sx_on rfl rfl rfl ?_
      refine sx_move rfl rfl ?_
      refine sx_on rfl rfl rfl ?_
      first | refine sx_len Try.underlying9 rfl rfl ?_ | refine sx_lenS Try.underlying9 rfl rfl ?_
      refine sx_on rfl rfl rfl ?_
      first | refine sx_gtr rfl rfl rfl ?_ | refine sx_sgtr rfl rfl rfl ?_
      refine sx_pick rfl rfl rfl ?_
      refine sx_nil (hZ _ _ ?_ ?_)
      · exact Kn.cons rfl (Kn.cons rfl (Kn.cons (congrArg some (congrArg Value.bool (by first | (simp at *; done) | (simp at *; omega) | (simp at *; rw [Bool.eq_iff_iff]; simp; omega)))) Kn.nil))
      · exact HLe.refl _
  first | refine awp_cond rfl (fun h => ?_) (fun h => ?_) | refine awp_seq (awp_cond rfl (fun h => ?_) (fun h => ?_))
  · refine awp_seq_region (fun Z hZ => ?_)
    refine sx_callP lawake_fn rfl rfl ?_
    refine sx_assign rfl rfl ?_
    refine sx_nil (hZ _ _ ?_)
    refine awp_forget [(4, _)] (Kn.cons rfl (Kn.nil)) ?_
    refine awp_ret ?_
    repeat (with_reducible (first | refine nx_then_ret ?_ | refine nx_block_ret ?_ | refine nx_scope_ret ?_))
    exact nx_ret1 rfl rfl rfl
  have h3 : ¬ (100 < L.length ∨ 1500 < t.length) := by simpa using h
  refine awp_skip ?_
  repeat (with_reducible (first | refine nx_block_normal ?_ | refine nx_scope_normal ?_))
  with_reducible first | refine nx_normal ?_ | refine nx_normalM ?_
  have hJ := fun A1 c1 hA1 => join_fn A1 c1 L (roE A1 (ecells L)) hA1 (fun _ => rfl) (Ro.roE _ _) hL hE t (by omega)
  have hR := rjoin_fn A c L T hA hT hro hL hE t (by omega)
  obtain ⟨q1, q2⟩ := joinQ_ok hE t
  obtain ⟨M, hM⟩ : ∃ M, (joinQ L t).1 = M := ⟨_, rfl⟩
  obtain ⟨e, he⟩ : ∃ e, (joinQ L t).2 = e := ⟨_, rfl⟩
  rw [hM, he] at hJ hR
  rw [hM] at q1 q2
  have hm : M.length ≤ maxLen := by show _ ≤ 9223372036854775807; omega
  refine awp_seq_region (fun Z hZ => ?_)
  refine sx_move rfl rfl ?_
  refine sx_callRT T (eown_fn A c L T hA hT hro (by omega)) rfl (List.Sublist.refl _) hro rfl (fun v hv => ?_)
  obtain ⟨A1, c1, rfl, hA1, hle⟩ := hv.ro
  refine sx_heap (roE A1 (ecells L) ++ T) (hle [] T _ _ _) ?_
  refine sx_move rfl rfl ?_
  refine sx_callU (roE A1 (ecells L)) (hJ A1 c1 hA1.arg) rfl (List.sublist_append_left _ _) (Ro.roE _ _) rfl ?_
  rintro v H' ⟨u, rfl, hu, rfl⟩
  rw [rowE_flt]
  obtain ⟨A2, c2, rfl, hA2, hle2⟩ := hu.ro
  refine sx_heap (roE A2 (ecells M) ++ (roE A1 (ecells L) ++ T)) (hle2 [] _ _ _ _) ?_
  refine sx_move rfl rfl ?_
  refine sx_extract rfl rfl rfl ?_
  refine sx_extract rfl rfl rfl ?_
  refine sx_assign rfl rfl ?_
  refine sx_assign rfl rfl ?_
  refine sx_nil (hZ _ _ ?_)
  refine awp_forget [(0, _), (1, _), (5, _), (6, _)] (Kn.cons rfl (Kn.cons rfl (Kn.cons rfl (Kn.cons rfl (Kn.nil))))) ?_
  refine awp_heap (roE A2 (ecells M) ++ T) (HLe.mid _ _ _) ?_
  refine awp_seq_region (fun Z hZ => ?_)
  refine sx_move rfl rfl ?_
  refine sx_move rfl rfl ?_
  refine sx_callU T hR rfl (List.sublist_append_right _ _) hro rfl ?_
  rintro v H' ⟨u, rfl, hu, rfl⟩
  rw [rowE_flt]
  obtain ⟨A3, c3, rfl, hA3, hle3⟩ := hu.ro
  refine sx_heap (roE A3 (ecells M) ++ (roE A2 (ecells M) ++ T)) (hle3 [] _ _ _ _) ?_
  refine sx_move rfl rfl ?_
  refine sx_extract rfl rfl rfl ?_
  refine sx_extract rfl rfl rfl ?_
  refine sx_assign rfl rfl ?_
  refine sx_assign rfl rfl ?_
  refine sx_nil (hZ _ _ ?_)
  refine awp_forget [(5, _), (6, _), (7, _), (8, _)] (Kn.cons rfl (Kn.cons rfl (Kn.cons rfl (Kn.cons rfl (Kn.nil))))) ?_
  refine awp_heap (roE A3 (ecells M) ++ roE A2 (ecells M)) (HLe.sub (List.Sublist.append_left (List.sublist_append_left _ _) _)) ?_
  refine awp_seq_meet [(4, .bool true)] [] (fun Z hZ => ?_) ?_
  · refine sx_move rfl rfl ?_
    refine sx_callRT (roE A2 (ecells M)) (eback_fn A2 c2 M _ hA2.arg (fun _ => rfl) (Ro.roE _ _) (by omega)) rfl (List.sublist_append_right _ _) (Ro.roE _ _) rfl (fun v hv => ?_)
    obtain ⟨A4, c4, rfl, hA4, hle4⟩ := hv.ro
    refine sx_heap (roE A4 (ecells M) ++ (roE A3 (ecells M) ++ roE A2 (ecells M))) (hle4 [] _ _ _ _) ?_
    refine sx_move rfl rfl ?_
    refine sx_callPT (roE A4 (ecells M) ++ roE A3 (ecells M)) (rsame_fn A4 c4 M _ hA4.arg (fun _ => rfl) hm A3 c3 M _ hA3.arg (fun _ => rfl) hm) rfl (List.Sublist.append_left (List.sublist_append_left _ _) _) ((Ro.roE _ _).append (Ro.roE _ _)) rfl ?_
    rw [show sameL M M = true from sameL_iff.2 rfl]
    refine sx_move rfl rfl ?_
    refine sx_force 35 rfl true (by first | rfl | (simp; done)) ?_
    refine sx_on rfl rfl rfl ?_
    refine sx_move rfl rfl ?_
    refine sx_on rfl rfl rfl ?_
    refine sx_move rfl rfl ?_
    refine sx_on rfl rfl rfl ?_
    first | refine sx_eql rfl rfl rfl ?_ | refine sx_seql rfl rfl rfl ?_
    refine sx_pick rfl rfl rfl ?_
    refine sx_move rfl rfl ?_
    refine sx_force 40 rfl true (by first | rfl | (simp; done)) ?_
    refine sx_on rfl rfl rfl ?_
    refine sx_callP lawake_fn rfl rfl ?_
    refine sx_pick rfl rfl rfl ?_
    refine sx_assign rfl rfl ?_
    refine sx_nil (hZ _ _ ?_ ?_)
    · exact Kn.cons rfl Kn.nil
    · exact HLe.pick [] (by simp) rfl
  refine awp_ret ?_
  repeat (with_reducible (first | refine nx_then_ret ?_ | refine nx_block_ret ?_ | refine nx_scope_ret ?_))
  exact nx_ret1 rfl rfl rfl
theorem LeavesJoins_read {H : Type} {enc : TypeId × Value → H} (w : World) {base : Nat} {v0 v1 : Value} {d0 d1 : DataW H} {p0 p1 : List MemPlace}
    (k0 : Value.okWide Try.prog w .any base 22 v0) (h0 : DataW.Trod enc Try.prog w 0 (fun _ => true) true 22 v0 d0 p0)
    (k1 : Value.okWide Try.prog w .any base 9 v1) (h1 : DataW.Trod enc Try.prog w 0 (fun _ => true) true 9 v1 d1 p1) :
    Calls Try.prog 4 #[v0, v1] w fun e w' => e = .returned (.bool true) ∧ Bel w w' := by
  obtain ⟨A, c, L, T, rfl, hA, hL, hE, hT, hro, hS⟩ := open_ens k0 h0
  obtain ⟨s, rfl⟩ := open_text k1 h1
  exact tail_bel hro hS (joins_fn A c L T hA hT hro hL hE s)
namespace leavesJoins
open Go.ChangeShapes Go.WideShapes Go.ChangeAt Go.RowKit
theorem own : ownKnob Try.prog.godebug = none := by kernel_rfl
theorem laidOut : laidOutB Try.prog = true := by kernel_rfl
set_option maxRecDepth 100000 in
theorem lifted (os : Os) (started : os.Started) (H : Type) (enc : TypeId × Value → H) :
    ReturnsInHanded {} Try.checked os 4 .any (Rows.leavesJoinsSpec.pre6 enc Try.prog Try.f4 Rows.leavesJoinsRow.domain false) (Rows.leavesJoinsSpec.post enc Try.prog Try.f4 false true false false) := by
  refine returnsInHanded_of_change (C := Try.checked) own started (by kernel_rfl) Try.func4
    (ChangeSpec.witness6 (enc := enc) (C := Try.checked) false ⟨#[], #[.slice none 0 0, .string ⟨#[]⟩], []⟩ 8 (by kernel_rfl) (by kernel_rfl) (by kernel_rfl) (by kernel_rfl)) ?_
  intro W base args ds gs before hval0 hW hcnd _
  have hval : ∀ (j : Nat) t v, Try.f4.params[j]? = some t → args[j]? = some v → Value.okWide Try.prog W .any base t v := hval0
  have hW' := hW
  obtain ⟨p, q, hA0, hV, rfl, hfz, hnd⟩ := hW
  have hA : DataW.TrodAll enc Try.prog W 0 (fun _ => true) true Try.f4.params.toList args.toList ds p := hA0
  rw [Try.params4] at hA hval
  obtain ⟨v0, vs0, d0, ds0, p0, q0, hargs, rfl, rfl, h0, r0⟩ := trodAll_cons hA
  obtain ⟨v1, vs1, d1, ds1, p1, q1, rfl, rfl, rfl, h1, r1⟩ := trodAll_cons r0
  obtain ⟨rfl, rfl, rfl⟩ := trodAll_nil r1
  obtain rfl : args = #[v0, v1] := by cases args; simp_all
  obtain ⟨rfl, rfl⟩ := trodVars_none hV
  have lt0 : ∀ x ∈ p0, x.block < W.heap.size := by obtain ⟨m, hm⟩ := h0; exact DataW.trod_lt m _ _ _ hm
  have lt1 : ∀ x ∈ p1, x.block < W.heap.size := by obtain ⟨m, hm⟩ := h1; exact DataW.trod_lt m _ _ _ hm
  refine (LeavesJoins_read W (hval 0 22 v0 rfl rfl) h0 (hval 1 9 v1 rfl rfl) h1).mono fun e W' ⟨he, bel0⟩ => ?_
  have bel : Below W.heap.size W W' := bel0
  subst he
  exact ⟨_, rfl, _, _, _, [], _, [], hW', trodAll_mk1 (shut_bool Try.underlying4 _), (trodAll_cons_mk (Below.trod laidOut (by kernel_rfl) (of_decide_eq_true (by kernel_rfl)) h0 bel lt0) (trodAll_cons_mk (Below.trod laidOut (by kernel_rfl) (of_decide_eq_true (by kernel_rfl)) h1 bel lt1) trodAll_mk0)), rfl, bel.frame _, fun h => by cases h⟩
theorem over : Rows.leavesJoinsRow.holds Try.pinned (OpenSpec.ofChange Rows.leavesJoinsSpec) :=
  OpenClaim.holds_of_wide 4 Try.f4 rfl rfl rfl rfl rfl rfl rfl ⟨rfl, rfl, rfl, rfl, rfl⟩ rfl rfl rfl rfl rfl (by kernel_rfl) Try.func4 (by kernel_rfl)
    (of_decide_eq_true (by kernel_rfl)) (by unfold Func.isWrapper; first | (rw [if_pos (by decide +kernel)]; kernel_rfl) | (rw [if_neg (by decide +kernel)]; exact ⟨rfl, rfl⟩))
    (fun os started H enc _ => lifted os started H enc)
theorem proved : Rows.LeavesJoinsSaid := over
#print axioms proved
end leavesJoins
end Go.Proofs.Ytodclhiggafkbaa
