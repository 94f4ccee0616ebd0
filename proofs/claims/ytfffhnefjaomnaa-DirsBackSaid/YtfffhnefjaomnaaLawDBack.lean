/- DirsBack. No conditions. -/
import Derived.Test.YtfffhnefjaomnaaGdr3
namespace Go.Proofs.Ytfffhnefjaomnaa
open Go.RowKit
set_option linter.unusedVariables false
set_option linter.unusedSimpArgs false
set_option maxRecDepth 100000
theorem back_fn (A : Option Addr) (c : Nat) (L : List En) (T : Heap) (hA : ArgOk A L.length) (hT : 0 < L.length → T = roE A (ecells L)) (hro : Ro T) (hL : L.length ≤ maxLen) (hE : EnsOk L) (s : List UInt8) :
    Fn Try.prog 5 [.slice A L.length c, .string (str s)] T fun v _ => v = .bool true := by
  have hL' : L.length ≤ 9223372036854775807 := hL
  refine Fn.enter (N := 124) Try.func5 rfl (by kernel_rfl) rfl (fun w0 => ?_)

  refine awp_seq_region (fun Z hZ => ?_)
  refine sx_assign rfl rfl ?_
  refine sx_nil (hZ _ _ ?_)
  refine awp_forget [(0, _), (1, _)] (Kn.cons rfl (Kn.cons rfl (Kn.nil))) ?_
  refine awp_seq ?_
  refine awp_seq_meet [(0, .slice A L.length c), (1, .string (str s)), (26, .bool (decide (300 < L.length ∨ 1500 < s.length)))] T (fun Z hZ => ?_) ?_
  · refine sx_move rfl rfl ?_
    first | refine sx_len Try.underlying22 rfl rfl ?_ | refine sx_lenS Try.underlying22 rfl rfl ?_
    first | refine sx_gtr rfl rfl rfl ?_ | refine sx_sgtr rfl rfl rfl ?_
    refine sx_move rfl rfl ?_
    refine sx_split 22 rfl (fun hb3 => ?_) (fun hb3 => ?_)
    · refine sx_off rfl rfl rfl rfl rfl ?_
      refine sx_off rfl rfl rfl rfl rfl ?_
      refine sx_off rfl rfl rfl rfl rfl ?_
      refine sx_pick rfl rfl rfl ?_
      refine sx_nil (hZ _ _ ?_ ?_)
      · exact Kn.cons rfl (Kn.cons rfl (Kn.cons (congrArg some (congrArg Value.bool (by first | (simp at *; done) | (simp at *; omega) | (simp at *; rw [Bool.eq_iff_iff]; simp; omega)))) Kn.nil))
      · exact HLe.refl _
    · refine sx_on rfl rfl rfl ?_
      refine sx_move rfl rfl ?_
      refine sx_on rfl rfl rfl ?_
      first | refine sx_len Try.underlying9 rfl rfl ?_ | refine sx_lenS Try.underlying9 rfl rfl ?_
      refine sx_on rfl rfl rfl ?_
      first | refine sx_gtr rfl rfl rfl ?_ | refine sx_sgtr rfl rfl rfl ?_
      refine sx_pick rfl rfl rfl ?_
      refine sx_nil (hZ _ _ ?_ ?_)
      · exact Kn.cons rfl (Kn.cons rfl (Kn.cons (congrArg some (congrArg Value.bool (by first | (simp at *; done) | (simp at *; omega) | (simp at *; rw [Bool.eq_iff_iff]; simp; omega)))) Kn.nil))
      · exact HLe.refl _
  first | refine awp_cond rfl (fun h => ?_) (fun h => ?_) | refine awp_seq (awp_cond rfl (fun h => ?_) (fun h => ?_))
  · refine awp_seq_region (fun Z hZ => ?_)
    refine sx_callP awake_fn rfl rfl ?_
    refine sx_assign rfl rfl ?_
    refine sx_nil (hZ _ _ ?_)
    refine awp_forget [(4, _)] (Kn.cons rfl (Kn.nil)) ?_
    refine awp_ret ?_
    repeat (with_reducible (first | refine nx_then_ret ?_ | refine nx_block_ret ?_ | refine nx_scope_ret ?_))
    exact nx_ret1 rfl rfl rfl
  have h3 : ¬ (300 < L.length ∨ 1500 < s.length) := by simpa using h
  refine awp_skip ?_
  repeat (with_reducible (first | refine nx_block_normal ?_ | refine nx_scope_normal ?_))
  with_reducible first | refine nx_normal ?_ | refine nx_normalM ?_
  refine awp_seq_region (fun Z hZ => ?_)
  refine sx_move rfl rfl ?_
  refine sx_callRT T (eown_fn A c L T hA hT hro (by omega)) rfl (List.Sublist.refl _) hro rfl (fun v hv => ?_)
  obtain ⟨A1, c1, rfl, hA1, hle⟩ := hv.ro
  refine sx_heap (roE A1 (ecells L) ++ T) (hle [] T _ _ _) ?_
  refine sx_assign rfl rfl ?_
  refine sx_nil (hZ _ _ ?_)
  refine awp_forget [(1, _), (5, _)] (Kn.cons rfl (Kn.cons rfl (Kn.nil))) ?_
  refine awp_heap (roE A1 (ecells L)) (HLe.sub (List.sublist_append_left _ _)) ?_
  obtain ⟨S, hS⟩ : ∃ S, (encQ L).1 = S := ⟨_, rfl⟩
  obtain ⟨e, he⟩ : ∃ e, (encQ L).2 = e := ⟨_, rfl⟩
  have henc := dencode_fn A1 c1 L _ hA1.arg (fun _ => rfl) (Ro.roE _ _) (by omega) hE
  rw [hS, he] at henc
  have hmax : L.length ≤ maxLen := hL
  have h300 := sumB_300 hE (by omega)
  refine awp_seq_region (fun Z hZ => ?_)
  refine sx_move rfl rfl ?_
  refine sx_callPT (roE A1 (ecells L)) henc rfl (List.Sublist.refl _) (Ro.roE _ _) rfl ?_
  refine sx_move rfl rfl ?_
  refine sx_extract rfl rfl rfl ?_
  refine sx_extract rfl rfl rfl ?_
  refine sx_assign rfl rfl ?_
  refine sx_assign rfl rfl ?_
  refine sx_nil (hZ _ _ ?_)
  refine awp_forget [(1, _), (5, _), (6, _), (7, _)] (Kn.cons rfl (Kn.cons rfl (Kn.cons rfl (Kn.cons rfl (Kn.nil))))) ?_
  refine awp_cut (ι := Unit) (fun _ => [(1, .string (str s))]) (fun _ => []) (fun _ => True) ?_ ?_
  · refine awp_seq_region (fun Z hZ => ?_)
    refine sx_move rfl rfl ?_
    first | refine sx_eql rfl rfl rfl ?_ | refine sx_seql rfl rfl rfl ?_
    refine sx_nil (hZ _ _ ?_)
    refine awp_forget [(1, _), (5, _), (6, _), (36, _)] (Kn.cons rfl (Kn.cons rfl (Kn.cons rfl (Kn.cons rfl (Kn.nil))))) ?_
    first | refine awp_cond rfl (fun h4 => ?_) (fun h4 => ?_) | refine awp_seq (awp_cond rfl (fun h4 => ?_) (fun h4 => ?_))
    · have he0 : e = 0 := by simp at h4; omega
      subst he0
      obtain ⟨hr, hs, hq⟩ := encQ_ok he
      have hSe : S = allB (numsQ L) := by rw [← hS, hq]
      have hSl : S.length = sumB (numsQ L) := by rw [hSe]; rfl
      have hd0 := decQ_enc hE hr [] (by simpa using hs)
      have hd1 := decQ_enc hE hr [0] (by show _ + 1 ≤ _; omega)
      rw [List.append_nil, if_neg (by decide), ← hSe, ← hSl] at hd0
      rw [if_pos (by decide), ← hSe, ← hSl] at hd1
      have hD0 := ddecode_fn S (by omega)
      have hD1 := ddecode_fn (S ++ [0]) (by simp; omega)
      rw [hd0] at hD0
      rw [hd1] at hD1
      have hsz : sizeQ L = S.length := by unfold sizeQ; rw [if_pos hr, hSl]
      have hSz := dsize_fn A1 c1 L _ hA1.arg (fun _ => rfl) (Ro.roE _ _) (by omega) hE
      rw [hsz] at hSz
      refine awp_seq_region (fun Z hZ => ?_)
      refine sx_move rfl rfl ?_
      refine sx_callO [] (roE A1 (ecells L)) hD0 rfl (HLe.refl _) rfl ?_
      rintro v H' ⟨u, rfl, hu, rfl⟩
      rw [rowE_flt]
      obtain ⟨A2, c2, rfl, hA2, hle2⟩ := hu.ro
      refine sx_heap (roE A1 (ecells L) ++ roE A2 (ecells L)) ((HLe.swap _ _).trans (hle2 [] _ _ _ _)) ?_
      refine sx_move rfl rfl ?_
      refine sx_extract rfl rfl rfl ?_
      refine sx_extract rfl rfl rfl ?_
      refine sx_extract rfl rfl rfl ?_
      refine sx_assign rfl rfl ?_
      refine sx_assign rfl rfl ?_
      refine sx_assign rfl rfl ?_
      refine sx_nil (hZ _ _ ?_)
      refine awp_forget [(1, _), (5, _), (6, _), (8, _), (9, _), (10, _)] (Kn.cons rfl (Kn.cons rfl (Kn.cons rfl (Kn.cons rfl (Kn.cons rfl (Kn.cons rfl (Kn.nil))))))) ?_
      refine awp_seq ?_
      refine awp_seq_meet [(1, .string (str s)), (6, .string (str S)), (63, .bool false)] (roE A1 (ecells L) ++ roE A2 (ecells L)) (fun Z hZ => ?_) ?_
      · refine sx_move rfl rfl ?_
        first | refine sx_neq rfl rfl rfl ?_ | refine sx_sneq rfl rfl rfl ?_
        refine sx_move rfl rfl ?_
        refine sx_force 45 rfl false (by first | rfl | (simp; done)) ?_
        refine sx_on rfl rfl rfl ?_
        refine sx_move rfl rfl ?_
        refine sx_on rfl rfl rfl ?_
        refine sx_move rfl rfl ?_
        refine sx_on rfl rfl rfl ?_
        first | refine sx_len Try.underlying9 rfl rfl ?_ | refine sx_lenS Try.underlying9 rfl rfl ?_
        refine sx_on rfl rfl rfl ?_
        first | refine sx_neq rfl rfl rfl ?_ | refine sx_sneq rfl rfl rfl ?_
        refine sx_pick rfl rfl rfl ?_
        refine sx_move rfl rfl ?_
        refine sx_force 51 rfl false (by first | rfl | (simp; done)) ?_
        refine sx_on rfl rfl rfl ?_
        refine sx_move rfl rfl ?_
        refine sx_on rfl rfl rfl ?_
        refine sx_move rfl rfl ?_
        refine sx_on rfl rfl rfl ?_
        refine sx_callPT (roE A1 (ecells L) ++ roE A2 (ecells L)) (esame_fn A1 c1 L _ hA1.arg (fun _ => rfl) (Ro.roE _ _) hmax A2 c2 L _ hA2.arg (fun _ => rfl) (Ro.roE _ _) hmax) rfl (List.Sublist.refl _) ((Ro.roE _ _).append (Ro.roE _ _)) rfl ?_
        rw [show sameL L L = true from sameL_iff.2 rfl]
        refine sx_on rfl rfl rfl ?_
        refine sx_not rfl rfl ?_
        refine sx_pick rfl rfl rfl ?_
        refine sx_move rfl rfl ?_
        refine sx_force 57 rfl false (by first | rfl | (simp; done)) ?_
        refine sx_on rfl rfl rfl ?_
        refine sx_move rfl rfl ?_
        refine sx_on rfl rfl rfl ?_
        refine sx_callPT (roE A1 (ecells L)) hSz rfl (List.sublist_append_left _ _) (Ro.roE _ _) rfl ?_
        refine sx_on rfl rfl rfl ?_
        refine sx_move rfl rfl ?_
        refine sx_on rfl rfl rfl ?_
        first | refine sx_len Try.underlying9 rfl rfl ?_ | refine sx_lenS Try.underlying9 rfl rfl ?_
        refine sx_on rfl rfl rfl ?_
        first | refine sx_neq rfl rfl rfl ?_ | refine sx_sneq rfl rfl rfl ?_
        refine sx_pick rfl rfl rfl ?_
        refine sx_nil (hZ _ _ ?_ ?_)
        · exact Kn.cons rfl (Kn.cons rfl (Kn.cons (congrArg some (congrArg Value.bool (by simp))) Kn.nil))
        · exact HLe.refl _
      first | refine awp_cond rfl (fun h5 => ?_) (fun h5 => ?_) | refine awp_seq (awp_cond rfl (fun h5 => ?_) (fun h5 => ?_))
      · cases h5
      refine awp_skip ?_
      repeat (with_reducible (first | refine nx_block_normal ?_ | refine nx_scope_normal ?_))
      with_reducible first | refine nx_normal ?_ | refine nx_normalM ?_
      refine awp_seq_region (fun Z hZ => ?_)
      refine sx_move rfl rfl ?_
      refine sx_cat (m := [0]) rfl rfl (by simp; omega) rfl ?_
      refine sx_callO [] (roE A1 (ecells L) ++ roE A2 (ecells L)) hD1 rfl (HLe.refl _) rfl ?_
      rintro v H' ⟨u, rfl, hu, rfl⟩
      refine sx_heap [] (HLe.sub (List.nil_sublist _)) ?_
      obtain ⟨A3, c3, rfl, hA3⟩ := hu.form
      refine sx_move rfl rfl ?_
      refine sx_extract rfl rfl rfl ?_
      refine sx_extract rfl rfl rfl ?_
      refine sx_extract rfl rfl rfl ?_
      refine sx_assign rfl rfl ?_
      refine sx_assign rfl rfl ?_
      refine sx_assign rfl rfl ?_
      refine sx_nil (hZ _ _ ?_)
      refine awp_forget [(1, _), (6, _), (12, _), (13, _)] (Kn.cons rfl (Kn.cons rfl (Kn.cons rfl (Kn.cons rfl (Kn.nil))))) ?_
      refine awp_seq_meet [(1, .string (str s)), (78, .bool false)] [] (fun Z hZ => ?_) ?_
      · refine sx_move rfl rfl ?_
        first | refine sx_neq rfl rfl rfl ?_ | refine sx_sneq rfl rfl rfl ?_
        refine sx_move rfl rfl ?_
        refine sx_force 73 rfl false (by first | rfl | (simp; done)) ?_
        refine sx_on rfl rfl rfl ?_
        refine sx_move rfl rfl ?_
        refine sx_on rfl rfl rfl ?_
        refine sx_move rfl rfl ?_
        refine sx_on rfl rfl rfl ?_
        first | refine sx_len Try.underlying9 rfl rfl ?_ | refine sx_lenS Try.underlying9 rfl rfl ?_
        refine sx_on rfl rfl rfl ?_
        first | refine sx_neq rfl rfl rfl ?_ | refine sx_sneq rfl rfl rfl ?_
        refine sx_pick rfl rfl rfl ?_
        refine sx_nil (hZ _ _ ?_ ?_)
        · exact Kn.cons rfl (Kn.cons (congrArg some (congrArg Value.bool (by simp))) Kn.nil)
        · exact HLe.refl _
      first | refine awp_cond rfl (fun h6 => ?_) (fun h6 => ?_) | refine awp_seq (awp_cond rfl (fun h6 => ?_) (fun h6 => ?_))
      · cases h6
      refine awp_skip ?_
      exact nx_cut () trivial (Kn.cons rfl Kn.nil) (HLe.refl _)
    · refine awp_skip ?_
      exact nx_cut () trivial (Kn.cons rfl Kn.nil) (HLe.sub (List.nil_sublist _))
  rintro ⟨⟩ -
  obtain ⟨d1, d2, d3, d4⟩ := decQ_ok s
  have hD := ddecode_fn s (by omega)
  have hen := fun q => enc_decQ (s := s) (L := (decQ s).1) (q := q)
  obtain ⟨M, hM⟩ : ∃ M, (decQ s).1 = M := ⟨_, rfl⟩
  obtain ⟨p, hp⟩ : ∃ p, (decQ s).2.1 = p := ⟨_, rfl⟩
  obtain ⟨f, hf⟩ : ∃ f, (decQ s).2.2 = f := ⟨_, rfl⟩
  have hall : decQ s = (M, p, f) := by rw [← hM, ← hp, ← hf]
  rw [hall] at hD d1 d2 d3 d4
  simp only at hD d1 d2 d3 d4
  rw [hM, hall] at hen
  refine awp_seq_region (fun Z hZ => ?_)
  refine sx_move rfl rfl ?_
  refine sx_callO [] [] hD rfl (HLe.refl _) rfl ?_
  rintro v H' ⟨u, rfl, hu, rfl⟩
  rw [rowE_flt]
  obtain ⟨A3, c3, rfl, hA3, hle3⟩ := hu.ro
  refine sx_heap (roE A3 (ecells M) ++ []) (hle3 [] [] _ _ _) ?_
  refine sx_move rfl rfl ?_
  refine sx_extract rfl rfl rfl ?_
  refine sx_extract rfl rfl rfl ?_
  refine sx_extract rfl rfl rfl ?_
  refine sx_assign rfl rfl ?_
  refine sx_assign rfl rfl ?_
  refine sx_assign rfl rfl ?_
  refine sx_nil (hZ _ _ ?_)
  refine awp_forget [(1, _), (14, _), (15, _), (16, _)] (Kn.cons rfl (Kn.cons rfl (Kn.cons rfl (Kn.cons rfl (Kn.nil))))) ?_
  rw [List.append_nil]
  refine awp_seq ?_
  refine awp_seq_region (fun Z hZ => ?_)
  refine sx_move rfl rfl ?_
  first | refine sx_neq rfl rfl rfl ?_ | refine sx_sneq rfl rfl rfl ?_
  refine sx_nil (hZ _ _ ?_)
  refine awp_forget [(1, _), (14, _), (15, _), (86, _)] (Kn.cons rfl (Kn.cons rfl (Kn.cons rfl (Kn.cons rfl (Kn.nil))))) ?_
  first | refine awp_cond rfl (fun h7 => ?_) (fun h7 => ?_) | refine awp_seq (awp_cond rfl (fun h7 => ?_) (fun h7 => ?_))
  · have hf0 : f ≠ 0 := by simp at h7; omega
    have hM0 := d4 hf0
    subst hM0
    refine awp_seq_meet [(4, .bool true)] [] (fun Z hZ => ?_) ?_
    · refine sx_move rfl rfl ?_
      first | refine sx_len Try.underlying27 rfl rfl ?_ | refine sx_lenS Try.underlying27 rfl rfl ?_
      first | refine sx_eql rfl rfl rfl ?_ | refine sx_seql rfl rfl rfl ?_
      refine sx_move rfl rfl ?_
      refine sx_force 90 rfl true (by first | rfl | (simp; done) | (simp; omega)) ?_
      refine sx_on rfl rfl rfl ?_
      refine sx_move rfl rfl ?_
      refine sx_on rfl rfl rfl ?_
      first | refine sx_geq rfl rfl rfl ?_ | refine sx_sgeq rfl rfl rfl ?_
      refine sx_pick rfl rfl rfl ?_
      refine sx_move rfl rfl ?_
      refine sx_force 94 rfl true (by first | rfl | (simp; done) | (simp; omega)) ?_
      refine sx_on rfl rfl rfl ?_
      refine sx_move rfl rfl ?_
      refine sx_on rfl rfl rfl ?_
      refine sx_move rfl rfl ?_
      refine sx_on rfl rfl rfl ?_
      first | refine sx_len Try.underlying9 rfl rfl ?_ | refine sx_lenS Try.underlying9 rfl rfl ?_
      refine sx_on rfl rfl rfl ?_
      first | refine sx_leq rfl rfl rfl ?_ | refine sx_sleq rfl rfl rfl ?_
      refine sx_pick rfl rfl rfl ?_
      refine sx_move rfl rfl ?_
      refine sx_force 100 rfl true (by first | rfl | (simp; done) | (simp; omega)) ?_
      refine sx_on rfl rfl rfl ?_
      refine sx_callP awake_fn rfl rfl ?_
      refine sx_pick rfl rfl rfl ?_
      refine sx_assign rfl rfl ?_
      refine sx_nil (hZ _ _ ?_ ?_)
      · exact Kn.cons rfl Kn.nil
      · exact HLe.sub (List.nil_sublist _)
    refine awp_ret ?_
    repeat (with_reducible (first | refine nx_then_ret ?_ | refine nx_block_ret ?_ | refine nx_scope_ret ?_))
    exact nx_ret1 rfl rfl rfl
  have hf0 : f = 0 := by simp at h7; omega
  subst hf0
  obtain ⟨_, hes, hps, _⟩ := hen p rfl
  subst hps
  have hE2 := dencode_fn A3 c3 M _ hA3.arg (fun _ => rfl) (Ro.roE _ _) (by omega) d2
  rw [hes] at hE2
  refine awp_skip ?_
  repeat (with_reducible (first | refine nx_block_normal ?_ | refine nx_scope_normal ?_))
  with_reducible first | refine nx_normal ?_ | refine nx_normalM ?_
  refine awp_seq_region (fun Z hZ => ?_)
  refine sx_move rfl rfl ?_
  refine sx_callPT (roE A3 (ecells M)) hE2 rfl (List.Sublist.refl _) (Ro.roE _ _) rfl ?_
  refine sx_move rfl rfl ?_
  refine sx_extract rfl rfl rfl ?_
  refine sx_extract rfl rfl rfl ?_
  refine sx_assign rfl rfl ?_
  refine sx_assign rfl rfl ?_
  refine sx_nil (hZ _ _ ?_)
  refine awp_forget [(1, _), (15, _), (17, _), (18, _)] (Kn.cons rfl (Kn.cons rfl (Kn.cons rfl (Kn.cons rfl (Kn.nil))))) ?_
  refine awp_seq_meet [(4, .bool true)] [] (fun Z hZ => ?_) ?_
  · refine sx_move rfl rfl ?_
    first | refine sx_eql rfl rfl rfl ?_ | refine sx_seql rfl rfl rfl ?_
    refine sx_move rfl rfl ?_
    refine sx_force 110 rfl true (by first | rfl | (simp; done)) ?_
    refine sx_on rfl rfl rfl ?_
    refine sx_move rfl rfl ?_
    refine sx_on rfl rfl rfl ?_
    refine sx_move rfl rfl ?_
    refine sx_on rfl rfl rfl ?_
    first | refine sx_eql rfl rfl rfl ?_ | refine sx_seql rfl rfl rfl ?_
    refine sx_pick rfl rfl rfl ?_
    refine sx_move rfl rfl ?_
    refine sx_force 115 rfl true (by first | rfl | (simp; done)) ?_
    refine sx_on rfl rfl rfl ?_
    refine sx_move rfl rfl ?_
    refine sx_on rfl rfl rfl ?_
    refine sx_move rfl rfl ?_
    refine sx_on rfl rfl rfl ?_
    first | refine sx_len Try.underlying9 rfl rfl ?_ | refine sx_lenS Try.underlying9 rfl rfl ?_
    refine sx_on rfl rfl rfl ?_
    first | refine sx_eql rfl rfl rfl ?_ | refine sx_seql rfl rfl rfl ?_
    refine sx_pick rfl rfl rfl ?_
    refine sx_move rfl rfl ?_
    refine sx_force 121 rfl true (by first | rfl | (simp; done)) ?_
    refine sx_on rfl rfl rfl ?_
    refine sx_callP awake_fn rfl rfl ?_
    refine sx_pick rfl rfl rfl ?_
    refine sx_assign rfl rfl ?_
    refine sx_nil (hZ _ _ ?_ ?_)
    · exact Kn.cons rfl Kn.nil
    · exact HLe.sub (List.nil_sublist _)
  refine awp_ret ?_
  repeat (with_reducible (first | refine nx_then_ret ?_ | refine nx_block_ret ?_ | refine nx_scope_ret ?_))
  exact nx_ret1 rfl rfl rfl
theorem DirsBack_read {H : Type} {enc : TypeId × Value → H} (w : World) {base : Nat} {v0 v1 : Value} {d0 d1 : DataW H} {p0 p1 : List MemPlace}
    (k0 : Value.okWide Try.prog w .any base 22 v0) (h0 : DataW.Trod enc Try.prog w 0 (fun _ => true) true 22 v0 d0 p0)
    (k1 : Value.okWide Try.prog w .any base 9 v1) (h1 : DataW.Trod enc Try.prog w 0 (fun _ => true) true 9 v1 d1 p1) :
    Calls Try.prog 5 #[v0, v1] w fun e w' => e = .returned (.bool true) ∧ Bel w w' := by
  obtain ⟨A, c, L, T, rfl, hA, hL, hE, hT, hro, hS⟩ := open_ens k0 h0
  obtain ⟨s, rfl⟩ := open_text k1 h1
  exact tail_bel hro hS (back_fn A c L T hA hT hro hL hE s)
namespace dirsBack
open Go.ChangeShapes Go.WideShapes Go.ChangeAt Go.RowKit
theorem own : ownKnob Try.prog.godebug = none := by kernel_rfl
theorem laidOut : laidOutB Try.prog = true := by kernel_rfl
set_option maxRecDepth 100000 in
theorem lifted (os : Os) (started : os.Started) (H : Type) (enc : TypeId × Value → H) :
    ReturnsInHanded {} Try.checked os 5 .any (Rows.dirsBackSpec.pre6 enc Try.prog Try.f5 Rows.dirsBackRow.domain false) (Rows.dirsBackSpec.post enc Try.prog Try.f5 false true false false) := by
  refine returnsInHanded_of_change (C := Try.checked) own started (by kernel_rfl) Try.func5
    (ChangeSpec.witness6 (enc := enc) (C := Try.checked) false ⟨#[], #[.slice none 0 0, .string ⟨#[]⟩], []⟩ 8 (by kernel_rfl) (by kernel_rfl) (by kernel_rfl) (by kernel_rfl)) ?_
  intro W base args ds gs before hval0 hW hcnd _
  have hval : ∀ (j : Nat) t v, Try.f5.params[j]? = some t → args[j]? = some v → Value.okWide Try.prog W .any base t v := hval0
  have hW' := hW
  obtain ⟨p, q, hA0, hV, rfl, hfz, hnd⟩ := hW
  have hA : DataW.TrodAll enc Try.prog W 0 (fun _ => true) true Try.f5.params.toList args.toList ds p := hA0
  rw [Try.params5] at hA hval
  obtain ⟨v0, vs0, d0, ds0, p0, q0, hargs, rfl, rfl, h0, r0⟩ := trodAll_cons hA
  obtain ⟨v1, vs1, d1, ds1, p1, q1, rfl, rfl, rfl, h1, r1⟩ := trodAll_cons r0
  obtain ⟨rfl, rfl, rfl⟩ := trodAll_nil r1
  obtain rfl : args = #[v0, v1] := by cases args; simp_all
  obtain ⟨rfl, rfl⟩ := trodVars_none hV
  have lt0 : ∀ x ∈ p0, x.block < W.heap.size := by obtain ⟨m, hm⟩ := h0; exact DataW.trod_lt m _ _ _ hm
  have lt1 : ∀ x ∈ p1, x.block < W.heap.size := by obtain ⟨m, hm⟩ := h1; exact DataW.trod_lt m _ _ _ hm
  refine (DirsBack_read W (hval 0 22 v0 rfl rfl) h0 (hval 1 9 v1 rfl rfl) h1).mono fun e W' ⟨he, bel0⟩ => ?_
  have bel : Below W.heap.size W W' := bel0
  subst he
  exact ⟨_, rfl, _, _, _, [], _, [], hW', trodAll_mk1 (shut_bool Try.underlying4 _), (trodAll_cons_mk (Below.trod laidOut (by kernel_rfl) (of_decide_eq_true (by kernel_rfl)) h0 bel lt0) (trodAll_cons_mk (Below.trod laidOut (by kernel_rfl) (of_decide_eq_true (by kernel_rfl)) h1 bel lt1) trodAll_mk0)), rfl, bel.frame _, fun h => by cases h⟩
theorem over : Rows.dirsBackRow.holds Try.pinned (OpenSpec.ofChange Rows.dirsBackSpec) :=
  OpenClaim.holds_of_wide 5 Try.f5 rfl rfl rfl rfl rfl rfl rfl ⟨rfl, rfl, rfl, rfl, rfl⟩ rfl rfl rfl rfl rfl (by kernel_rfl) Try.func5 (by kernel_rfl)
    (of_decide_eq_true (by kernel_rfl)) (by unfold Func.isWrapper; first | (rw [if_pos (by decide +kernel)]; kernel_rfl) | (rw [if_neg (by decide +kernel)]; exact ⟨rfl, rfl⟩))
    (fun os started H enc _ => lifted os started H enc)
theorem proved : Rows.DirsBackSaid := over
#print axioms proved
end dirsBack
end Go.Proofs.Ytfffhnefjaomnaa
