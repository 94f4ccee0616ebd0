/- The law LittlePuts: any number in any number of bytes, behind any bytes, is laid as the document says; these stay. No conditions. -/
import Derived.Test.YtnnmbmgfjbiejaaLittle9
import Derived.Test.YtnnmbmgfjbiejaaOpen
import Derived.Deep.DeepCutAuto
namespace Go.Proofs.Ytnnmbmgfjbiejaa
open Go.RowKit
set_option linter.unusedVariables false
set_option linter.unusedSimpArgs false
set_option maxHeartbeats 1000000 in
theorem LittlePuts_walk (A : Option Addr) (c : Nat) (l : List UInt8) (m : Int) (x : Nat) (w : World) (hr : Rd w 1 A l.length (bv l)) (hc : A = none → c = 0) (hl : l.length ≤ maxLen) (hm : -9223372036854775808 ≤ m ∧ m < 9223372036854775808) (hx : x < 18446744073709551616) :
    Calls Try.prog 3 #[.slice A l.length c, .int .i64 m, .int .u64 x] w fun e w' => e = .returned (.bool true) ∧ Bel w w' := by
  unfold maxLen at hl
  by_cases h3 : 300 < l.length
  · go_enter Try.func3, Try.ntmps3
    go_wp2_with (go_at_call 8; refine (awake_any _).mono ?_; rintro e w1 ⟨rfl, hb1⟩)
    go_ret
    exact ⟨rfl, (by repeat (first | exact Bel.refl _ | exact Bel.drew (Bel.refl _) | refine Bel.drew ?_ | refine Bel.drewN ?_ _ | refine Bel.alloc ?_ _ | refine Bel.set ?_ (by simp; try omega) _ | refine Bel.trans ?_ (by assumption)))⟩
  · have hown : (w.alloc (.cells #[] 5)).ownsRow w.heap.size 5 1 (.slice (some ⟨w.heap.size, 0, none⟩) 0 0) 0 [] := World.ownsRow_lit w #[] 0 (Nat.le_refl _) (by unfold maxLen; omega) rfl
    go_enter Try.func3, Try.ntmps3
    go_wp2_with (first | (at_builtin; refine wpList_app w elemU8 rfl _ _ rfl ((Bel.refl w).alloc _) (Nat.le_refl _) (by simp) rfl hown rfl (hr.alloc _) (bv_one l) (by unfold maxLen; omega) (by omega) ?_; intro v1 w1 hown1 hb1 _ _; simp only [Nat.zero_add, List.nil_append] at hown1))
    obtain ⟨A1, c1, rfl, hA1⟩ := own_form hown1
    go_wp2_with (go_at_call 9; refine (put_any A1 c1 l m x _ (Rd.of_own hown1) (fun h => (hA1 h).2) (by omega) (by omega)).mono ?_; rintro e w2 ⟨A2, c2, rfl, hown2, hA2, hb2⟩)
    simp only [Int.toNat_natCast] at hown2 hA2
    have hcv2 : ∀ W, Bel w2 W → (convert 22 9 (.slice A2 (putL l m x).length c2)).run Try.prog W = .ok (.string (str (putL l m x))) W := fun W hW => run_str ((Rd.of_own hown2).bel hW) _ _ _ Try.underlying22 Try.underlying5 Try.underlying9
    have hr2 : Rd w2 1 A l.length (bv l) := hr.bel (hb1.trans hb2)
    go_cut [9] (fun s9 wx => s9 = .bool true ∧ Bel w2 wx)
    case first =>
      go_region_with (first | (go_at_call 10; refine (rput_any A c l m x _ (hr2.bel (by repeat (first | exact Bel.refl _ | exact Bel.drew (Bel.refl _) | refine Bel.drew ?_ | refine Bel.drewN ?_ _ | refine Bel.alloc ?_ _ | refine Bel.set ?_ (by simp; try omega) _ | refine Bel.trans ?_ (by assumption)))) (by omega) hm hx).mono ?_; rintro e w3 ⟨A3, c3, rfl, hown3, hA3, hb3⟩; have hcv3 : ∀ W, Bel w3 W → (convert 22 9 (.slice A3 (putL l m x).length c3)).run Try.prog W = .ok (.string (str (putL l m x))) W := (fun W hW => run_str ((Rd.of_own hown3).bel hW) _ _ _ Try.underlying22 Try.underlying5 Try.underlying9); have hb23 : Bel w2 w3 := (Bel.drew (Bel.refl _)).trans hb3))
      all_goals (go_wp2_with fail; go_meet; exact ⟨by simp, (by repeat (first | exact Bel.refl _ | exact Bel.drew (Bel.refl _) | refine Bel.drew ?_ | refine Bel.drewN ?_ _ | refine Bel.alloc ?_ _ | refine Bel.set ?_ (by simp; try omega) _ | refine Bel.trans ?_ (by assumption)))⟩)
    case rest =>
      obtain ⟨rfl, hbx⟩ := hcut
      have hown4 := own_bel hown2 hbx
      have hB1 := hb2.trans hbx
      have hLb : (putL l m x).length ≤ l.length + 8 := by
        unfold putL
        split <;> simp [leB_length]
        omega
      clear hcv2 hr2 hbx hown2
      generalize hL : putL l m x = L at *
      clear hL
      go_wp2
      go_loopw [10] (fun i wr => ∃ (k : Nat) (zs : List UInt8), k ≤ L.length ∧ zs.length = L.length ∧ i = .int .i64 k ∧ wr.ownsRow w1.heap.size 5 1 (.slice A2 L.length c2) L.length (bv zs) ∧ Bel w1 wr) (fun i _ => L.length - (intOf i).toNat)
      case atStart => exact ⟨0, L, Nat.zero_le _, rfl, rfl, hown4, hB1⟩
      case round =>
        obtain ⟨k, zs, hk, hz, rfl, hown, hbw⟩ := hrel
        by_cases hlt : k < L.length
        · obtain ⟨g, cap, hv, _, hgl⟩ := hown.form (by omega)
          injection hv with hA _ hcap
          subst hA
          subst hcap
          have hck := (hown.cellAt k (by omega)).trans (bv_at zs k (by omega))
          have hfk := hown.frozenAt k
          go_wp2
          go_roundw
          case rel =>
            refine ⟨k + 1, zs.set k (UInt8.ofNat ((zs[k].toNat + 1) % 256)), by omega, by simpa using hz, by go_num, ?_, hbw.set (by assumption) _⟩
            have h1 := (hown.stored k (.int .u8 (((zs[k].toNat : Int) + 1) % 256))).1
            have e : bv (zs.set k (UInt8.ofNat ((zs[k].toNat + 1) % 256))) = (bv zs).set k (.int .u8 (((zs[k].toNat : Int) + 1) % 256)) := by
              simp [bv, List.map_set]
            rw [e]
            exact h1
          case measure => simp [intOf]; omega
        · have hke : k = L.length := by omega
          subst hke
          have hbw0 : Bel w wr := hb1.trans hbw
          have hcvA : ∀ W, Bel w W → (convert 22 9 (.slice A l.length c)).run Try.prog W = .ok (.string (str l)) W := fun W hW => run_str (hr.bel hW) _ _ _ Try.underlying22 Try.underlying5 Try.underlying9
          have hcv1 : ∀ W, Bel w1 W → (convert 22 9 (.slice A1 l.length c1)).run Try.prog W = .ok (.string (str l)) W := fun W hW => run_str ((Rd.of_own hown1).bel hW) _ _ _ Try.underlying22 Try.underlying5 Try.underlying9
          go_wp2_with (go_at_call 8; refine (awake_any _).mono ?_; rintro e w5 ⟨rfl, hb5⟩)
          go_ret
          exact ⟨rfl, (by repeat (first | exact Bel.refl _ | exact Bel.drew (Bel.refl _) | refine Bel.drew ?_ | refine Bel.drewN ?_ _ | refine Bel.alloc ?_ _ | refine Bel.set ?_ (by simp; try omega) _ | refine Bel.trans ?_ (by assumption)))⟩
theorem LittlePuts_read {H : Type} {enc : TypeId × Value → H} (w : World) {base : Nat} {v0 v1 v2 : Value} {d0 d1 d2 : DataW H} {p0 p1 p2 : List MemPlace}
    (k0 : Value.okWide Try.prog w .any base 22 v0) (h0 : DataW.Trod enc Try.prog w 0 (fun _ => true) true 22 v0 d0 p0)
    (k1 : Value.okWide Try.prog w .any base 3 v1) (h1 : DataW.Trod enc Try.prog w 0 (fun _ => true) true 3 v1 d1 p1)
    (k2 : Value.okWide Try.prog w .any base 23 v2) (h2 : DataW.Trod enc Try.prog w 0 (fun _ => true) true 23 v2 d2 p2) :
    Calls Try.prog 3 #[v0, v1, v2] w fun e w' => e = .returned (.bool true) ∧ Bel w w' := by
  obtain ⟨A, c, l, rfl, hr, hc, hl⟩ := open_bytes Try.underlying22 Try.underlying5 (by kernel_rfl) k0 h0
  obtain ⟨m, rfl, _, _, hm⟩ := ChangeShapes.open_int Try.underlying3 k1 h1
  obtain ⟨x, rfl, _, _, hx⟩ := ChangeShapes.open_int Try.underlying23 k2 h2
  obtain ⟨y, rfl⟩ : ∃ y : Nat, x = y := ⟨x.toNat, by have := wf_u64 hx; omega⟩
  exact LittlePuts_walk A c l m y w hr hc hl (wf_i64 hm) (by have := wf_u64 hx; omega)
namespace littlePuts
open Go.ChangeShapes Go.WideShapes Go.ChangeAt Go.RowKit
theorem own : ownKnob Try.prog.godebug = none := by kernel_rfl
theorem laidOut : laidOutB Try.prog = true := by kernel_rfl
set_option maxRecDepth 100000 in
theorem lifted (os : Os) (started : os.Started) (H : Type) (enc : TypeId × Value → H) :
    ReturnsInHanded {} Try.checked os 3 .any (Rows.littlePutsSpec.pre6 enc Try.prog Try.f3 Rows.littlePutsRow.domain false) (Rows.littlePutsSpec.post enc Try.prog Try.f3 false true false false) := by
  refine returnsInHanded_of_change (C := Try.checked) own started (by kernel_rfl) Try.func3
    (ChangeSpec.witness6 (enc := enc) (C := Try.checked) false ⟨#[], #[.slice none 0 0, .int .i64 0, .int .u64 0], []⟩ 8 (by kernel_rfl) (by kernel_rfl) (by kernel_rfl) (by kernel_rfl)) ?_
  intro W base args ds gs before hval0 hW hcnd _
  have hval : ∀ (j : Nat) t v, Try.f3.params[j]? = some t → args[j]? = some v → Value.okWide Try.prog W .any base t v := hval0
  have hW' := hW
  obtain ⟨p, q, hA0, hV, rfl, hfz, hnd⟩ := hW
  have hA : DataW.TrodAll enc Try.prog W 0 (fun _ => true) true Try.f3.params.toList args.toList ds p := hA0
  rw [Try.params3] at hA hval
  obtain ⟨v0, vs0, d0, ds0, p0, q0, hargs, rfl, rfl, h0, r0⟩ := trodAll_cons hA
  obtain ⟨v1, vs1, d1, ds1, p1, q1, rfl, rfl, rfl, h1, r1⟩ := trodAll_cons r0
  obtain ⟨v2, vs2, d2, ds2, p2, q2, rfl, rfl, rfl, h2, r2⟩ := trodAll_cons r1
  obtain ⟨rfl, rfl, rfl⟩ := trodAll_nil r2
  obtain rfl : args = #[v0, v1, v2] := by cases args; simp_all
  obtain ⟨rfl, rfl⟩ := trodVars_none hV
  have lt0 : ∀ x ∈ p0, x.block < W.heap.size := by obtain ⟨m, hm⟩ := h0; exact DataW.trod_lt m _ _ _ hm
  have lt1 : ∀ x ∈ p1, x.block < W.heap.size := by obtain ⟨m, hm⟩ := h1; exact DataW.trod_lt m _ _ _ hm
  have lt2 : ∀ x ∈ p2, x.block < W.heap.size := by obtain ⟨m, hm⟩ := h2; exact DataW.trod_lt m _ _ _ hm
  refine (LittlePuts_read W (hval 0 22 v0 rfl rfl) h0 (hval 1 3 v1 rfl rfl) h1 (hval 2 23 v2 rfl rfl) h2).mono fun e W' ⟨he, bel0⟩ => ?_
  have bel : Below W.heap.size W W' := bel0
  subst he
  exact ⟨_, rfl, _, _, _, [], _, [], hW', trodAll_mk1 (shut_bool Try.underlying4 _), (trodAll_cons_mk (Below.trod laidOut (by kernel_rfl) (of_decide_eq_true (by kernel_rfl)) h0 bel lt0) (trodAll_cons_mk (Below.trod laidOut (by kernel_rfl) (of_decide_eq_true (by kernel_rfl)) h1 bel lt1) (trodAll_cons_mk (Below.trod laidOut (by kernel_rfl) (of_decide_eq_true (by kernel_rfl)) h2 bel lt2) trodAll_mk0))), rfl, bel.frame _, fun h => by cases h⟩
theorem over : Rows.littlePutsRow.holds Try.pinned (OpenSpec.ofChange Rows.littlePutsSpec) :=
  OpenClaim.holds_of_wide 3 Try.f3 rfl rfl rfl rfl rfl rfl rfl ⟨rfl, rfl, rfl, rfl, rfl⟩ rfl rfl rfl rfl rfl (by kernel_rfl) Try.func3 (by kernel_rfl)
    (of_decide_eq_true (by kernel_rfl)) (by unfold Func.isWrapper; first | (rw [if_pos (by decide +kernel)]; kernel_rfl) | (rw [if_neg (by decide +kernel)]; exact ⟨rfl, rfl⟩))
    (fun os started H enc _ => lifted os started H enc)
theorem proved : Rows.LittlePutsSaid := over
#print axioms proved
end littlePuts
end Go.Proofs.Ytnnmbmgfjbiejaa
