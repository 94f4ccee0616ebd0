/- The law LittleTakes: what any scan takes off, as a number or as bytes, what is left, and how it ends, is what the document says. No conditions. -/
import Derived.Test.YtnnmbmgfjbiejaaLittle9
import Derived.Test.YtnnmbmgfjbiejaaOpen
namespace Go.Proofs.Ytnnmbmgfjbiejaa
open Go.RowKit
set_option linter.unusedVariables false
set_option linter.unusedSimpArgs false
set_option maxHeartbeats 4000000 in
theorem LittleTakes_walk (s : ByteArray) (p e n : Int) (w : World) (hs : s.size ≤ maxLen) :
    Calls Try.prog 4 #[scanV s p e, .int .i64 n] w fun x w' => x = .returned (.bool true) ∧ Bel w w' := by
  have hs' := hs
  unfold maxLen at hs'
  by_cases h3 : 300 < s.size
  · go_enter Try.func4, Try.ntmps4
    go_wp2_with (go_at_call 8; refine (awake_any _).mono ?_; rintro e w1 ⟨rfl, hb1⟩)
    go_ret
    exact ⟨rfl, (by repeat (first | exact Bel.refl _ | exact Bel.drew (Bel.refl _) | refine Bel.drew ?_ | refine Bel.drewN ?_ _ | refine Bel.alloc ?_ _ | refine Bel.set ?_ (by simp; try omega) _ | refine Bel.trans ?_ (by assumption)))⟩
  · go_enter Try.func4, Try.ntmps4
    go_wp2_with fail
    refine (own_any s p e _).mono ?_
    rintro x wa ⟨rfl, hba⟩
    obtain ⟨hbac, hbaf, hbaz⟩ := Bel.took hba; have hbaz0 : w.heap.size < wa.heap.size := (by (try simp at hbaz); omega); clear hbaz
    go_wp2_with fail
    refine (num_any s p e n _ hs).mono ?_
    rintro x wb ⟨rfl, hbb⟩
    obtain ⟨hbbc, hbbf, hbbz⟩ := Bel.took hbb; have hbbz0 : w.heap.size < wb.heap.size := (by (try simp at hbbz); omega); clear hbbz
    go_wp2_with fail
    refine (rnum_any s p e n _ hs).mono ?_
    rintro x wc ⟨rfl, hbc⟩
    obtain ⟨hbcc, hbcf, hbcz⟩ := Bel.took hbc; have hbcz0 : w.heap.size < wc.heap.size := (by (try simp at hbcz); omega); have hbcz1 : wb.heap.size < wc.heap.size := (by (try simp at hbcz); omega); clear hbcz
    go_wp2_with fail
    refine (own_any s p e _).mono ?_
    rintro x wd ⟨rfl, hbd⟩
    obtain ⟨hbdc, hbdf, hbdz⟩ := Bel.took hbd; have hbdz0 : w.heap.size < wd.heap.size := (by (try simp at hbdz); omega); have hbdz1 : wb.heap.size < wd.heap.size := (by (try simp at hbdz); omega); have hbdz2 : wc.heap.size < wd.heap.size := (by (try simp at hbdz); omega); clear hbdz
    go_wp2_with fail
    refine (bytes_any s p e n _ hs).mono ?_
    rintro x we ⟨rfl, hbe⟩
    obtain ⟨hbec, hbef, hbez⟩ := Bel.took hbe; have hbez0 : w.heap.size < we.heap.size := (by (try simp at hbez); omega); have hbez1 : wb.heap.size < we.heap.size := (by (try simp at hbez); omega); have hbez2 : wc.heap.size < we.heap.size := (by (try simp at hbez); omega); clear hbez
    go_wp2_with fail
    refine (rbytes_any s p e n _ hs).mono ?_
    rintro x wf ⟨rfl, hbf⟩
    obtain ⟨hbfc, hbff, hbfz⟩ := Bel.took hbf; have hbfz0 : w.heap.size < wf.heap.size := (by (try simp at hbfz); omega); have hbfz1 : wb.heap.size < wf.heap.size := (by (try simp at hbfz); omega); have hbfz2 : wc.heap.size < wf.heap.size := (by (try simp at hbfz); omega); have hbfz3 : we.heap.size < wf.heap.size := (by (try simp at hbfz); omega); clear hbfz
    go_wp2_with fail
    generalize hWF : wf.alloc _ = WF
    have c_w_0 : WF.cell? ⟨w.heap.size, 0, none⟩ = some (.string s) := by rw [← hWF]; simp [go_sem, hbac, hbaz0, hbbc, hbbz0, hbcc, hbcz0, hbcz1, hbdc, hbdz0, hbdz1, hbdz2, hbec, hbez0, hbez1, hbez2, hbfc, hbfz0, hbfz1, hbfz2, hbfz3]
    have c_w_1 : WF.cell? ⟨w.heap.size, 1, none⟩ = some (.int .i64 p) := by rw [← hWF]; simp [go_sem, hbac, hbaz0, hbbc, hbbz0, hbcc, hbcz0, hbcz1, hbdc, hbdz0, hbdz1, hbdz2, hbec, hbez0, hbez1, hbez2, hbfc, hbfz0, hbfz1, hbfz2, hbfz3]
    have c_w_2 : WF.cell? ⟨w.heap.size, 2, none⟩ = some (.int .i64 e) := by rw [← hWF]; simp [go_sem, hbac, hbaz0, hbbc, hbbz0, hbcc, hbcz0, hbcz1, hbdc, hbdz0, hbdz1, hbdz2, hbec, hbez0, hbez1, hbez2, hbfc, hbfz0, hbfz1, hbfz2, hbfz3]
    have z_w : w.heap.size < WF.heap.size := by rw [← hWF]; simp; try omega
    have c_wb_0 : WF.cell? ⟨wb.heap.size, 0, none⟩ = some (.string s) := by rw [← hWF]; simp [go_sem, hbac, hbaz0, hbbc, hbbz0, hbcc, hbcz0, hbcz1, hbdc, hbdz0, hbdz1, hbdz2, hbec, hbez0, hbez1, hbez2, hbfc, hbfz0, hbfz1, hbfz2, hbfz3]
    have c_wb_1 : WF.cell? ⟨wb.heap.size, 1, none⟩ = some (.int .i64 (takeP s p e n (fitsB n))) := by rw [← hWF]; simp [go_sem, hbac, hbaz0, hbbc, hbbz0, hbcc, hbcz0, hbcz1, hbdc, hbdz0, hbdz1, hbdz2, hbec, hbez0, hbez1, hbez2, hbfc, hbfz0, hbfz1, hbfz2, hbfz3]
    have c_wb_2 : WF.cell? ⟨wb.heap.size, 2, none⟩ = some (.int .i64 (takeE s p e n (fitsB n))) := by rw [← hWF]; simp [go_sem, hbac, hbaz0, hbbc, hbbz0, hbcc, hbcz0, hbcz1, hbdc, hbdz0, hbdz1, hbdz2, hbec, hbez0, hbez1, hbez2, hbfc, hbfz0, hbfz1, hbfz2, hbfz3]
    have z_wb : wb.heap.size < WF.heap.size := by rw [← hWF]; simp; try omega
    have c_wc_0 : WF.cell? ⟨wc.heap.size, 0, none⟩ = some (.string s) := by rw [← hWF]; simp [go_sem, hbac, hbaz0, hbbc, hbbz0, hbcc, hbcz0, hbcz1, hbdc, hbdz0, hbdz1, hbdz2, hbec, hbez0, hbez1, hbez2, hbfc, hbfz0, hbfz1, hbfz2, hbfz3]
    have c_wc_1 : WF.cell? ⟨wc.heap.size, 1, none⟩ = some (.int .i64 (takeP s p e n (fitsB n))) := by rw [← hWF]; simp [go_sem, hbac, hbaz0, hbbc, hbbz0, hbcc, hbcz0, hbcz1, hbdc, hbdz0, hbdz1, hbdz2, hbec, hbez0, hbez1, hbez2, hbfc, hbfz0, hbfz1, hbfz2, hbfz3]
    have c_wc_2 : WF.cell? ⟨wc.heap.size, 2, none⟩ = some (.int .i64 (takeE s p e n (fitsB n))) := by rw [← hWF]; simp [go_sem, hbac, hbaz0, hbbc, hbbz0, hbcc, hbcz0, hbcz1, hbdc, hbdz0, hbdz1, hbdz2, hbec, hbez0, hbez1, hbez2, hbfc, hbfz0, hbfz1, hbfz2, hbfz3]
    have z_wc : wc.heap.size < WF.heap.size := by rw [← hWF]; simp; try omega
    have c_we_0 : WF.cell? ⟨we.heap.size, 0, none⟩ = some (.string s) := by rw [← hWF]; simp [go_sem, hbac, hbaz0, hbbc, hbbz0, hbcc, hbcz0, hbcz1, hbdc, hbdz0, hbdz1, hbdz2, hbec, hbez0, hbez1, hbez2, hbfc, hbfz0, hbfz1, hbfz2, hbfz3]
    have c_we_1 : WF.cell? ⟨we.heap.size, 1, none⟩ = some (.int .i64 (takeP s p e n (decide (0 ≤ n)))) := by rw [← hWF]; simp [go_sem, hbac, hbaz0, hbbc, hbbz0, hbcc, hbcz0, hbcz1, hbdc, hbdz0, hbdz1, hbdz2, hbec, hbez0, hbez1, hbez2, hbfc, hbfz0, hbfz1, hbfz2, hbfz3]
    have c_we_2 : WF.cell? ⟨we.heap.size, 2, none⟩ = some (.int .i64 (takeE s p e n (decide (0 ≤ n)))) := by rw [← hWF]; simp [go_sem, hbac, hbaz0, hbbc, hbbz0, hbcc, hbcz0, hbcz1, hbdc, hbdz0, hbdz1, hbdz2, hbec, hbez0, hbez1, hbez2, hbfc, hbfz0, hbfz1, hbfz2, hbfz3]
    have z_we : we.heap.size < WF.heap.size := by rw [← hWF]; simp; try omega
    have c_wf_0 : WF.cell? ⟨wf.heap.size, 0, none⟩ = some (.string s) := by rw [← hWF]; simp [go_sem, hbac, hbaz0, hbbc, hbbz0, hbcc, hbcz0, hbcz1, hbdc, hbdz0, hbdz1, hbdz2, hbec, hbez0, hbez1, hbez2, hbfc, hbfz0, hbfz1, hbfz2, hbfz3]
    have c_wf_1 : WF.cell? ⟨wf.heap.size, 1, none⟩ = some (.int .i64 (takeP s p e n (decide (0 ≤ n)))) := by rw [← hWF]; simp [go_sem, hbac, hbaz0, hbbc, hbbz0, hbcc, hbcz0, hbcz1, hbdc, hbdz0, hbdz1, hbdz2, hbec, hbez0, hbez1, hbez2, hbfc, hbfz0, hbfz1, hbfz2, hbfz3]
    have c_wf_2 : WF.cell? ⟨wf.heap.size, 2, none⟩ = some (.int .i64 (takeE s p e n (decide (0 ≤ n)))) := by rw [← hWF]; simp [go_sem, hbac, hbaz0, hbbc, hbbz0, hbcc, hbcz0, hbcz1, hbdc, hbdz0, hbdz1, hbdz2, hbec, hbez0, hbez1, hbez2, hbfc, hbfz0, hbfz1, hbfz2, hbfz3]
    have z_wf : wf.heap.size < WF.heap.size := by rw [← hWF]; simp; try omega
    have hwWF : Bel w WF := by rw [← hWF]; exact (by repeat (first | exact Bel.refl _ | exact Bel.drew (Bel.refl _) | refine Bel.drew ?_ | refine Bel.drewN ?_ _ | refine Bel.alloc ?_ _ | refine Bel.set ?_ (by simp; try omega) _ | refine Bel.trans ?_ (by assumption)))
    have hK : ∀ W b o, Bel WF W → b < WF.heap.size → W.cell? ⟨b, o, none⟩ = WF.cell? ⟨b, o, none⟩ := fun W b o h hb => (Bel.took h).1 b o hb
    clear hWF hbac hbaf hbbc hbbf hbcc hbcf hbdc hbdf hbec hbef hbfc hbff hba hbb hbc hbd hbe hbf
    go_region_held3 (fun W => Bel WF W) (first | assumption | exact Bel.refl _ | exact (Bel.refl _).drew | (refine Bel.trans ?_ (by assumption); assumption))
      (first
        | (go_at_call 16; refine (back_any s _ _ _).mono ?_; rintro x w7 ⟨rfl, hb7⟩)
        | (go_at_call 11; refine (own_any s p e _).mono ?_; rintro x w7 ⟨rfl, hb7⟩)
        | (go_at_call 17; refine (rest_any s p e _ hs).mono ?_; rintro x w7 ⟨rfl, hb7⟩)
        | (go_at_call 18; refine (rrest_any s p e _ hs).mono ?_; rintro x w7 ⟨rfl, hb7⟩)
        | (go_at_call 19; refine (end_any s p e _).mono ?_; rintro x w7 ⟨rfl, hb7⟩)
        | (go_at_call 20; refine (rend_any s p e _).mono ?_; rintro x w7 ⟨rfl, hb7⟩)
        | (go_at_call 8; refine (awake_any _).mono ?_; rintro x w7 ⟨rfl, hb7⟩))
    go_wp2_with fail
    go_ret
    exact ⟨rfl, hwWF.trans (by assumption)⟩
theorem LittleTakes_read {H : Type} {enc : TypeId × Value → H} (w : World) {base : Nat} {v0 v1 : Value} {d0 d1 : DataW H} {p0 p1 : List MemPlace}
    (k0 : Value.okWide Try.prog w .any base 28 v0) (h0 : DataW.Trod enc Try.prog w 0 (fun _ => true) true 28 v0 d0 p0)
    (k1 : Value.okWide Try.prog w .any base 3 v1) (h1 : DataW.Trod enc Try.prog w 0 (fun _ => true) true 3 v1 d1 p1) :
    Calls Try.prog 4 #[v0, v1] w fun e w' => e = .returned (.bool true) ∧ Bel w w' := by
  obtain ⟨c0, c1, c2, y0, y1, y2, m, rfl, _, _, t0, t1, t2⟩ := Joins.open_agg3 Try.underlying28 (by kernel_rfl) (by kernel_rfl) k0 h0
  obtain ⟨s, e0, _, hs⟩ := DataW.trod_string Try.underlying9 t0
  obtain ⟨p, e1, _, hp⟩ := DataW.trod_int Try.underlying3 t1
  obtain ⟨e, e2, _, he⟩ := DataW.trod_int Try.underlying3 t2
  simp only [List.cons.injEq, and_true] at e0 e1 e2
  subst e0; subst e1; subst e2
  obtain ⟨n, rfl, _, _, hn⟩ := ChangeShapes.open_int Try.underlying3 k1 h1
  exact LittleTakes_walk s p e n w hs
namespace littleTakes
open Go.ChangeShapes Go.WideShapes Go.ChangeAt Go.RowKit
theorem own : ownKnob Try.prog.godebug = none := by kernel_rfl
theorem laidOut : laidOutB Try.prog = true := by kernel_rfl
set_option maxRecDepth 100000 in
theorem lifted (os : Os) (started : os.Started) (H : Type) (enc : TypeId × Value → H) :
    ReturnsInHanded {} Try.checked os 4 .any (Rows.littleTakesSpec.pre6 enc Try.prog Try.f4 Rows.littleTakesRow.domain false) (Rows.littleTakesSpec.post enc Try.prog Try.f4 false true false false) := by
  refine returnsInHanded_of_change (C := Try.checked) own started (by kernel_rfl) Try.func4
    (ChangeSpec.witness6 (enc := enc) (C := Try.checked) false ⟨#[], #[.agg #[.string ⟨#[]⟩, .int .i64 0, .int .i64 0], .int .i64 0], []⟩ 8 (by kernel_rfl) (by kernel_rfl) (by kernel_rfl) (by kernel_rfl)) ?_
  intro W base args ds gs before hval0 hW hcnd _
  have hval : ∀ (j : Nat) t v, Try.f4.params[j]? = some t → args[j]? = some v → Value.okWide Try.prog W .any base t v := hval0
  have hW' := hW
  obtain ⟨p, q, hA0, hV, rfl, hfz, hnd⟩ := hW
  have hA : DataW.TrodAll enc Try.prog W 0 (fun _ => true) true Try.f4.params.toList args.toList ds p := hA0
  rw [Try.params4] at hA hval
  obtain ⟨v0, vs0, d0, ds0, p0, q0, hargs, rfl, rfl, h0, r0⟩ := trodAll_cons hA
  obtain ⟨v1, vs1, d1, ds1, p1, q1, rfl, rfl, rfl, h1, r1⟩ := trodAll_cons r0
  obtain ⟨rfl, rfl, rfl⟩ := trodAll_nil r1
  obtain rfl : args = #[v0, v1] := by cases args; simp_all
  obtain ⟨rfl, rfl⟩ := trodVars_none hV
  have lt0 : ∀ x ∈ p0, x.block < W.heap.size := by obtain ⟨m, hm⟩ := h0; exact DataW.trod_lt m _ _ _ hm
  have lt1 : ∀ x ∈ p1, x.block < W.heap.size := by obtain ⟨m, hm⟩ := h1; exact DataW.trod_lt m _ _ _ hm
  refine (LittleTakes_read W (hval 0 28 v0 rfl rfl) h0 (hval 1 3 v1 rfl rfl) h1).mono fun e W' ⟨he, bel0⟩ => ?_
  have bel : Below W.heap.size W W' := bel0
  subst he
  exact ⟨_, rfl, _, _, _, [], _, [], hW', trodAll_mk1 (shut_bool Try.underlying4 _), (trodAll_cons_mk (Below.trod laidOut (by kernel_rfl) (of_decide_eq_true (by kernel_rfl)) h0 bel lt0) (trodAll_cons_mk (Below.trod laidOut (by kernel_rfl) (of_decide_eq_true (by kernel_rfl)) h1 bel lt1) trodAll_mk0)), rfl, bel.frame _, fun h => by cases h⟩
theorem over : Rows.littleTakesRow.holds Try.pinned (OpenSpec.ofChange Rows.littleTakesSpec) :=
  OpenClaim.holds_of_wide 4 Try.f4 rfl rfl rfl rfl rfl rfl rfl ⟨rfl, rfl, rfl, rfl, rfl⟩ rfl rfl rfl rfl rfl (by kernel_rfl) Try.func4 (by kernel_rfl)
    (of_decide_eq_true (by kernel_rfl)) (by unfold Func.isWrapper; first | (rw [if_pos (by decide +kernel)]; kernel_rfl) | (rw [if_neg (by decide +kernel)]; exact ⟨rfl, rfl⟩))
    (fun os started H enc _ => lifted os started H enc)
theorem proved : Rows.LittleTakesSaid := over
#print axioms proved
end littleTakes
end Go.Proofs.Ytnnmbmgfjbiejaa
