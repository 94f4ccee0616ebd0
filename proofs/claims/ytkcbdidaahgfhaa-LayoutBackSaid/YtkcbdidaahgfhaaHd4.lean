/- The walk of the bytes of a header, in the reference. Conditions: the fields fit their kinds. -/
import Derived.Test.YtkcbdidaahgfhaaHd3
namespace Go.Proofs.Ytkcbdidaahgfhaa
open Go.RowKit
set_option linter.unusedVariables false
set_option linter.unusedSimpArgs false
/-- The fields fit their kinds. -/
structure Hdr.Ok (h : Hdr) : Prop where
  r0 : h.r0 < 18446744073709551616
  r1 : h.r1 < 18446744073709551616
  m0 : h.m0 < 18446744073709551616
  m1 : h.m1 < 18446744073709551616
  l0 : h.l0 < 18446744073709551616
  l1 : h.l1 < 18446744073709551616
  d0 : h.d0 < 18446744073709551616
  d1 : h.d1 < 18446744073709551616
  ad : h.ad < 18446744073709551616
  en : h.en < 18446744073709551616
  co : h.co < 18446744073709551616
  ic : h.ic < 256
  oc : h.oc < 256
  ki : h.ki < 256
/-- What a header that may be has. -/
theorem check_ok {h : Hdr} (hc : checkV h = 0) : secsV h = true ∧ (h.ic ≤ 4 ∧ h.oc ≤ 4 ∧ h.ki ≤ 5) ∧ ((0 ≤ h.z0 ∧ h.z0 ≤ 26) ∧ (0 ≤ h.z1 ∧ h.z1 ≤ 26) ∧ (0 ≤ h.zo ∧ h.zo ≤ 26) ∧ h.z0 ≤ h.z1) ∧
    ((-1800000000 ≤ h.lo0 ∧ h.lo0 ≤ 1800000000) ∧ (-1800000000 ≤ h.lo1 ∧ h.lo1 ≤ 1800000000) ∧ (-1800000000 ≤ h.lon ∧ h.lon ≤ 1800000000) ∧ h.lo0 ≤ h.lo1) ∧
    ((-900000000 ≤ h.la0 ∧ h.la0 ≤ 900000000) ∧ (-900000000 ≤ h.la1 ∧ h.la1 ≤ 900000000) ∧ (-900000000 ≤ h.lat ∧ h.lat ≤ 900000000) ∧ h.la0 ≤ h.la1) := by
  unfold checkV at hc
  by_cases h1 : secsV h = false
  · simp [h1] at hc
  by_cases h2 : kindV h = true
  · simp [h1, h2] at hc
  by_cases h3 : pairV 0 26 h.z0 h.z1 h.zo = true
  · simp [h1, h2, h3] at hc
  by_cases h4 : pairV (-1800000000) 1800000000 h.lo0 h.lo1 h.lon = true
  · simp [h1, h2, h3, h4] at hc
  by_cases h5 : pairV (-900000000) 900000000 h.la0 h.la1 h.lat = true
  · simp [h1, h2, h3, h4, h5] at hc
  simp [kindV] at h2
  simp [pairV, wi] at h3 h4 h5
  refine ⟨by simpa using h1, by omega, by omega, by omega, by omega⟩
def secB (f l : Nat) : List UInt8 := leB 8 f ++ leB 8 l
def clN (h : Hdr) : Nat := if h.cl = true then 1 else 0
def enc1 (h : Hdr) : List UInt8 := [80, 77, 84, 105, 108, 101, 115, 3] ++ secB h.r0 h.r1 ++ secB h.m0 h.m1 ++ secB h.l0 h.l1 ++ secB h.d0 h.d1
def enc2 (h : Hdr) : List UInt8 := enc1 h ++ leB 8 h.ad ++ leB 8 h.en ++ leB 8 h.co ++ leB 1 (clN h)
def enc3 (h : Hdr) : List UInt8 := enc2 h ++ leB 1 h.ic ++ leB 1 h.oc ++ leB 1 h.ki ++ leB 1 h.z0.toNat ++ leB 1 h.z1.toNat
def enc4 (h : Hdr) : List UInt8 := enc3 h ++ sgB h.lo0 ++ sgB h.la0 ++ sgB h.lo1 ++ sgB h.la1
def enc5 (h : Hdr) : List UInt8 := enc4 h ++ leB 1 h.zo.toNat ++ sgB h.lon ++ sgB h.lat
theorem secB_length (f l : Nat) : (secB f l).length = 16 := by simp [secB, leB_length]
theorem sgB_length (v : Int) : (sgB v).length = 4 := by simp [sgB, leB_length]
theorem enc1_length (h : Hdr) : (enc1 h).length = 72 := by simp [enc1, secB_length]
theorem enc2_length (h : Hdr) : (enc2 h).length = 97 := by simp [enc2, enc1_length, leB_length]
theorem enc3_length (h : Hdr) : (enc3 h).length = 102 := by simp [enc3, enc2_length, leB_length]
theorem enc4_length (h : Hdr) : (enc4 h).length = 118 := by simp [enc4, enc3_length, sgB_length]
theorem enc5_length (h : Hdr) : (enc5 h).length = 127 := by simp [enc5, enc4_length, leB_length, sgB_length]
def encV (h : Hdr) : List UInt8 := if checkV h = 0 then enc5 h else []
theorem section_fn (f l : Nat) (hf : f < 18446744073709551616) (hl : l < 18446744073709551616) : Fn Try.prog 33 [.agg #[.int .u64 f, .int .u64 l]] [] fun v _ => v = .string (str (secB f l)) := by
  refine Fn.enter (N := 10) Try.func33 rfl (by kernel_rfl) rfl (fun w0 => ?_)
  refine awp_seq_region (fun Z hZ => ?_)
  refine sx_box rfl rfl rfl (fun g1 => ?_)
  refine sx_assign rfl rfl ?_
  refine sx_nil (hZ _ _ ?_)
  refine awp_forget [(1, _)] (Kn.cons rfl (Kn.nil)) ?_
  refine awq_seq_region mixed (by kernel_rfl) (fun Z hZ => ?_)
  refine sq_fieldAddr rfl tyF25_0 (by first | (simp only [Nat.reduceAdd, Nat.add_zero, Nat.zero_add]; first | done | rfl) | rfl) rfl ?_
  first | refine sq_load 0 rfl rfl tyA22 tyS22 rfl rfl ?_
  refine sq_callP (word_fn 8 f (by omega) hf) rfl rfl ?_
  refine sq_fieldAddr rfl tyF25_1 (by first | (simp only [Nat.reduceAdd, Nat.add_zero, Nat.zero_add]; first | done | rfl) | rfl) rfl ?_
  first | refine sq_load 0 rfl rfl tyA22 tyS22 rfl rfl ?_
  refine sq_callP (word_fn 8 l (by omega) hl) rfl rfl ?_
  refine sq_cat rfl rfl (by simp [leB_length]) rfl ?_
  refine sq_assign rfl rfl ?_
  refine sq_nil (hZ _ _ ?_)
  refine awp_forget [(2, _)] (Kn.cons rfl (Kn.nil)) ?_
  refine awp_ret ?_
  repeat (with_reducible (first | refine nx_then_ret ?_ | refine nx_block_ret ?_))
  exact nx_ret1 rfl rfl rfl
theorem wrap_nat {n : Nat} (h : n < 18446744073709551616) : IntKind.u64.wrap (n : Int) = (n : Int) := IntWalk.u64_in _ (by omega)
theorem wrap_toNat {n : Int} (h : 0 ≤ n ∧ n ≤ 26) : IntKind.u64.wrap n = ((n.toNat : Nat) : Int) := by rw [IntWalk.u64_in _ (by omega)]; omega
theorem rencode_fn (h : Hdr) (hk : h.Ok) : Fn Try.prog 22 [h.val] [] fun v _ => v = .tuple #[.string (str (encV h)), .int .i64 (checkV h)] := by
  refine Fn.enter (N := 103) Try.func22 rfl (by kernel_rfl) rfl (fun w0 => ?_)
  refine awp_seq_region (fun Z hZ => ?_)
  refine sx_box rfl rfl rfl (fun g1 => ?_)
  refine sx_assign rfl rfl ?_
  refine sx_assign rfl rfl ?_
  refine sx_nil (hZ _ _ ?_)
  refine awp_forget [(1, _)] (Kn.cons rfl (Kn.nil)) ?_
  refine awp_seq ?_
  refine awp_seq_region (fun Z hZ => ?_)
  first | refine sx_loadA 0 rfl rfl tyA27 tyS27 (by first | (simp only [List.length_cons, List.length_nil, Nat.reduceAdd, Nat.zero_add, Nat.add_zero]; first | done | rfl) | rfl) (by first | (simp only [List.take_succ_cons, List.take_zero, List.drop_succ_cons, List.drop_zero, List.cons_append, List.nil_append, List.append_nil, List.length_cons, List.length_nil, Nat.reduceAdd, Nat.zero_add, Nat.add_zero, Value.cells, wrV]; first | done | rfl) | rfl) rfl ?_
  refine sx_callP (rcheck_fn h) rfl rfl ?_
  refine sx_assign rfl rfl ?_
  refine sx_nil (hZ _ _ ?_)
  refine awp_forget [(1, _), (4, _)] (Kn.cons rfl (Kn.cons rfl (Kn.nil))) ?_
  refine awp_seq_region (fun Z hZ => ?_)
  refine sx_move rfl rfl ?_
  first | refine sx_neq rfl rfl rfl ?_ | refine sx_sneq rfl rfl rfl ?_
  refine sx_nil (hZ _ _ ?_)
  refine awp_forget [(1, _), (4, _), (10, _)] (Kn.cons rfl (Kn.cons rfl (Kn.cons rfl (Kn.nil)))) ?_
  first | refine awp_cond rfl (fun h10 => ?_) (fun h10 => ?_) | refine awp_seq (awp_cond rfl (fun h10 => ?_) (fun h10 => ?_))
  · refine awp_seq_region (fun Z hZ => ?_)
    refine sx_move rfl rfl ?_
    refine sx_assign rfl rfl ?_
    refine sx_assign rfl rfl ?_
    refine sx_nil (hZ _ _ ?_)
    refine awp_forget [(2, _), (3, _)] (Kn.cons rfl (Kn.cons rfl (Kn.nil))) ?_
    refine awp_ret ?_
    repeat (with_reducible (first | refine nx_then_ret ?_ | refine nx_block_ret ?_))
    have : ¬ checkV h = 0 := by simpa using h10
    exact nx_ret2 rfl rfl rfl (by simp [encV, this]; rfl)
  refine awp_skip ?_
  repeat (with_reducible refine nx_block_normal ?_)
  with_reducible refine nx_normal ?_
  have hc0 : checkV h = 0 := by simpa using h10
  obtain ⟨_, hkd, hz, hlo, hla⟩ := check_ok hc0

  refine awp_seq_region (fun Z hZ => ?_)
  refine sx_assign rfl rfl ?_
  refine sx_nil (hZ _ _ ?_)
  refine awp_forget [(1, _), (5, _)] (Kn.cons rfl (Kn.cons rfl (Kn.nil))) ?_
  refine awp_cut (fun _ : Unit => [(1, ptr g1 0), (5, .int .u64 (clN h : Int))]) (fun _ => [.own g1 27 h.cells]) (fun _ => True) ?_ (fun _ _ => ?_)
  · refine awp_seq_region (fun Z hZ => ?_)
    refine sx_fieldAddr rfl tyF27_7 (by first | (simp only [Nat.reduceAdd, Nat.add_zero, Nat.zero_add]; first | done | rfl) | rfl) rfl ?_
    first | refine sx_load 0 rfl rfl tyA4 tyS4 rfl rfl ?_
    refine sx_nil (hZ _ _ ?_)
    refine awp_forget [(1, _), (5, _), (13, _)] (Kn.cons rfl (Kn.cons rfl (Kn.cons rfl (Kn.nil)))) ?_
    first | refine awp_cond rfl (fun h13 => ?_) (fun h13 => ?_) | refine awp_seq (awp_cond rfl (fun h13 => ?_) (fun h13 => ?_))
    · refine awp_region (fun Z hZ => ?_)
      refine sx_assign rfl rfl ?_
      refine sx_nil (hZ _ _ ?_)
      refine nx_forget [(1, _), (5, _)] (Kn.cons rfl (Kn.cons rfl (Kn.nil))) ?_
      exact nx_cut () trivial (Kn.cons rfl (Kn.cons (congrArg some (congrArg (Value.int .u64) (by simp [clN, h13]))) Kn.nil)) (HLe.refl _)
    · refine awp_skip ?_
      exact nx_cut () trivial (Kn.cons rfl (Kn.cons (congrArg some (congrArg (Value.int .u64) (by simp [clN, h13]))) Kn.nil)) (HLe.refl _)
  have hcl : clN h < 18446744073709551616 := by unfold clN; split <;> omega
  refine awq_seq_region mixed (by kernel_rfl) (fun Z hZ => ?_)
  refine sq_fieldAddr rfl tyF27_0 (by first | (simp only [Nat.reduceAdd, Nat.add_zero, Nat.zero_add]; first | done | rfl) | rfl) rfl ?_
  first | refine sq_loadA 0 rfl rfl tyA25 tyS25 (by first | (simp only [List.length_cons, List.length_nil, Nat.reduceAdd, Nat.zero_add, Nat.add_zero]; first | done | rfl) | rfl) (by first | (simp only [List.take_succ_cons, List.take_zero, List.drop_succ_cons, List.drop_zero, List.cons_append, List.nil_append, List.append_nil, List.length_cons, List.length_nil, Nat.reduceAdd, Nat.zero_add, Nat.add_zero, Value.cells, wrV]; first | done | rfl) | rfl) rfl ?_
  refine sq_callP (section_fn _ _ hk.r0 hk.r1) rfl rfl ?_
  refine sq_cat rfl rfl (by simp [secB_length]) rfl ?_
  refine sq_fieldAddr rfl tyF27_1 (by first | (simp only [Nat.reduceAdd, Nat.add_zero, Nat.zero_add]; first | done | rfl) | rfl) rfl ?_
  first | refine sq_loadA 0 rfl rfl tyA25 tyS25 (by first | (simp only [List.length_cons, List.length_nil, Nat.reduceAdd, Nat.zero_add, Nat.add_zero]; first | done | rfl) | rfl) (by first | (simp only [List.take_succ_cons, List.take_zero, List.drop_succ_cons, List.drop_zero, List.cons_append, List.nil_append, List.append_nil, List.length_cons, List.length_nil, Nat.reduceAdd, Nat.zero_add, Nat.add_zero, Value.cells, wrV]; first | done | rfl) | rfl) rfl ?_
  refine sq_callP (section_fn _ _ hk.m0 hk.m1) rfl rfl ?_
  refine sq_cat rfl rfl (by simp [secB_length]) rfl ?_
  refine sq_fieldAddr rfl tyF27_2 (by first | (simp only [Nat.reduceAdd, Nat.add_zero, Nat.zero_add]; first | done | rfl) | rfl) rfl ?_
  first | refine sq_loadA 0 rfl rfl tyA25 tyS25 (by first | (simp only [List.length_cons, List.length_nil, Nat.reduceAdd, Nat.zero_add, Nat.add_zero]; first | done | rfl) | rfl) (by first | (simp only [List.take_succ_cons, List.take_zero, List.drop_succ_cons, List.drop_zero, List.cons_append, List.nil_append, List.append_nil, List.length_cons, List.length_nil, Nat.reduceAdd, Nat.zero_add, Nat.add_zero, Value.cells, wrV]; first | done | rfl) | rfl) rfl ?_
  refine sq_callP (section_fn _ _ hk.l0 hk.l1) rfl rfl ?_
  refine sq_cat rfl rfl (by simp [secB_length]) rfl ?_
  refine sq_fieldAddr rfl tyF27_3 (by first | (simp only [Nat.reduceAdd, Nat.add_zero, Nat.zero_add]; first | done | rfl) | rfl) rfl ?_
  first | refine sq_loadA 0 rfl rfl tyA25 tyS25 (by first | (simp only [List.length_cons, List.length_nil, Nat.reduceAdd, Nat.zero_add, Nat.add_zero]; first | done | rfl) | rfl) (by first | (simp only [List.take_succ_cons, List.take_zero, List.drop_succ_cons, List.drop_zero, List.cons_append, List.nil_append, List.append_nil, List.length_cons, List.length_nil, Nat.reduceAdd, Nat.zero_add, Nat.add_zero, Value.cells, wrV]; first | done | rfl) | rfl) rfl ?_
  refine sq_callP (section_fn _ _ hk.d0 hk.d1) rfl rfl ?_
  refine sq_cat rfl rfl (by simp [secB_length]) rfl ?_
  refine sq_assign rfl rfl ?_
  refine sq_nil (hZ _ _ ?_)
  refine awp_forget [(1, _), (5, _), (6, .string (str (enc1 h)))] (Kn.cons rfl (Kn.cons rfl (Kn.cons rfl (Kn.nil)))) ?_
  refine awq_seq_region mixed (by kernel_rfl) (fun Z hZ => ?_)
  refine sq_move rfl rfl ?_
  refine sq_fieldAddr rfl tyF27_4 (by first | (simp only [Nat.reduceAdd, Nat.add_zero, Nat.zero_add]; first | done | rfl) | rfl) rfl ?_
  first | refine sq_load 0 rfl rfl tyA22 tyS22 rfl rfl ?_
  refine sq_callP (word_fn 8 _ (by omega) hk.ad) rfl rfl ?_
  refine sq_cat rfl rfl (by simp [enc1_length, leB_length]) rfl ?_
  refine sq_fieldAddr rfl tyF27_5 (by first | (simp only [Nat.reduceAdd, Nat.add_zero, Nat.zero_add]; first | done | rfl) | rfl) rfl ?_
  first | refine sq_load 0 rfl rfl tyA22 tyS22 rfl rfl ?_
  refine sq_callP (word_fn 8 _ (by omega) hk.en) rfl rfl ?_
  refine sq_cat rfl rfl (by simp [enc1_length, leB_length]) rfl ?_
  refine sq_fieldAddr rfl tyF27_6 (by first | (simp only [Nat.reduceAdd, Nat.add_zero, Nat.zero_add]; first | done | rfl) | rfl) rfl ?_
  first | refine sq_load 0 rfl rfl tyA22 tyS22 rfl rfl ?_
  refine sq_callP (word_fn 8 _ (by omega) hk.co) rfl rfl ?_
  refine sq_cat rfl rfl (by simp [enc1_length, leB_length]) rfl ?_
  refine sq_move rfl rfl ?_
  refine sq_callP (word_fn 1 _ (by omega) hcl) rfl rfl ?_
  refine sq_cat rfl rfl (by simp [enc1_length, leB_length]) rfl ?_
  refine sq_assign rfl rfl ?_
  refine sq_nil (hZ _ _ ?_)
  refine awp_forget [(1, _), (6, .string (str (enc2 h)))] (Kn.cons rfl (Kn.cons rfl (Kn.nil))) ?_
  refine awq_seq_region mixed (by kernel_rfl) (fun Z hZ => ?_)
  refine sq_move rfl rfl ?_
  refine sq_fieldAddr rfl tyF27_8 (by first | (simp only [Nat.reduceAdd, Nat.add_zero, Nat.zero_add]; first | done | rfl) | rfl) rfl ?_
  first | refine sq_load 0 rfl rfl tyA5 tyS5 rfl rfl ?_
  refine sq_conv Try.underlying5 Try.underlying22 rfl (h.ic : Int) (wrap_nat (by have := hk.ic; omega)) rfl ?_
  refine sq_callP (word_fn 1 h.ic (by omega) (by omega)) rfl rfl ?_
  refine sq_cat rfl rfl (by simp [enc2_length, leB_length]) rfl ?_
  refine sq_fieldAddr rfl tyF27_9 (by first | (simp only [Nat.reduceAdd, Nat.add_zero, Nat.zero_add]; first | done | rfl) | rfl) rfl ?_
  first | refine sq_load 0 rfl rfl tyA5 tyS5 rfl rfl ?_
  refine sq_conv Try.underlying5 Try.underlying22 rfl (h.oc : Int) (wrap_nat (by have := hk.oc; omega)) rfl ?_
  refine sq_callP (word_fn 1 h.oc (by omega) (by omega)) rfl rfl ?_
  refine sq_cat rfl rfl (by simp [enc2_length, leB_length]) rfl ?_
  refine sq_fieldAddr rfl tyF27_10 (by first | (simp only [Nat.reduceAdd, Nat.add_zero, Nat.zero_add]; first | done | rfl) | rfl) rfl ?_
  first | refine sq_load 0 rfl rfl tyA5 tyS5 rfl rfl ?_
  refine sq_conv Try.underlying5 Try.underlying22 rfl (h.ki : Int) (wrap_nat (by have := hk.ki; omega)) rfl ?_
  refine sq_callP (word_fn 1 h.ki (by omega) (by omega)) rfl rfl ?_
  refine sq_cat rfl rfl (by simp [enc2_length, leB_length]) rfl ?_
  refine sq_fieldAddr rfl tyF27_11 (by first | (simp only [Nat.reduceAdd, Nat.add_zero, Nat.zero_add]; first | done | rfl) | rfl) rfl ?_
  first | refine sq_load 0 rfl rfl tyA3 tyS3 rfl rfl ?_
  refine sq_conv Try.underlying3 Try.underlying22 rfl (h.z0.toNat : Int) (wrap_toNat (by omega)) rfl ?_
  refine sq_callP (word_fn 1 h.z0.toNat (by omega) (by omega)) rfl rfl ?_
  refine sq_cat rfl rfl (by simp [enc2_length, leB_length]) rfl ?_
  refine sq_fieldAddr rfl tyF27_12 (by first | (simp only [Nat.reduceAdd, Nat.add_zero, Nat.zero_add]; first | done | rfl) | rfl) rfl ?_
  first | refine sq_load 0 rfl rfl tyA3 tyS3 rfl rfl ?_
  refine sq_conv Try.underlying3 Try.underlying22 rfl (h.z1.toNat : Int) (wrap_toNat (by omega)) rfl ?_
  refine sq_callP (word_fn 1 h.z1.toNat (by omega) (by omega)) rfl rfl ?_
  refine sq_cat rfl rfl (by simp [enc2_length, leB_length]) rfl ?_
  refine sq_assign rfl rfl ?_
  refine sq_nil (hZ _ _ ?_)
  refine awp_forget [(1, _), (6, .string (str (enc3 h)))] (Kn.cons rfl (Kn.cons rfl (Kn.nil))) ?_
  refine awq_seq_region mixed (by kernel_rfl) (fun Z hZ => ?_)
  refine sq_move rfl rfl ?_
  refine sq_fieldAddr rfl tyF27_13 (by first | (simp only [Nat.reduceAdd, Nat.add_zero, Nat.zero_add]; first | done | rfl) | rfl) rfl ?_
  first | refine sq_load 0 rfl rfl tyA3 tyS3 rfl rfl ?_
  refine sq_callP (signed_fn h.lo0 (by omega)) rfl rfl ?_
  refine sq_cat rfl rfl (by simp [enc3_length, sgB_length]) rfl ?_
  refine sq_fieldAddr rfl tyF27_14 (by first | (simp only [Nat.reduceAdd, Nat.add_zero, Nat.zero_add]; first | done | rfl) | rfl) rfl ?_
  first | refine sq_load 0 rfl rfl tyA3 tyS3 rfl rfl ?_
  refine sq_callP (signed_fn h.la0 (by omega)) rfl rfl ?_
  refine sq_cat rfl rfl (by simp [enc3_length, sgB_length]) rfl ?_
  refine sq_fieldAddr rfl tyF27_15 (by first | (simp only [Nat.reduceAdd, Nat.add_zero, Nat.zero_add]; first | done | rfl) | rfl) rfl ?_
  first | refine sq_load 0 rfl rfl tyA3 tyS3 rfl rfl ?_
  refine sq_callP (signed_fn h.lo1 (by omega)) rfl rfl ?_
  refine sq_cat rfl rfl (by simp [enc3_length, sgB_length]) rfl ?_
  refine sq_fieldAddr rfl tyF27_16 (by first | (simp only [Nat.reduceAdd, Nat.add_zero, Nat.zero_add]; first | done | rfl) | rfl) rfl ?_
  first | refine sq_load 0 rfl rfl tyA3 tyS3 rfl rfl ?_
  refine sq_callP (signed_fn h.la1 (by omega)) rfl rfl ?_
  refine sq_cat rfl rfl (by simp [enc3_length, sgB_length]) rfl ?_
  refine sq_assign rfl rfl ?_
  refine sq_nil (hZ _ _ ?_)
  refine awp_forget [(1, _), (6, .string (str (enc4 h)))] (Kn.cons rfl (Kn.cons rfl (Kn.nil))) ?_
  refine awq_seq_region mixed (by kernel_rfl) (fun Z hZ => ?_)
  refine sq_move rfl rfl ?_
  refine sq_fieldAddr rfl tyF27_17 (by first | (simp only [Nat.reduceAdd, Nat.add_zero, Nat.zero_add]; first | done | rfl) | rfl) rfl ?_
  first | refine sq_load 0 rfl rfl tyA3 tyS3 rfl rfl ?_
  refine sq_conv Try.underlying3 Try.underlying22 rfl (h.zo.toNat : Int) (wrap_toNat (by omega)) rfl ?_
  refine sq_callP (word_fn 1 h.zo.toNat (by omega) (by omega)) rfl rfl ?_
  refine sq_cat rfl rfl (by simp [enc4_length, leB_length, sgB_length]) rfl ?_
  refine sq_fieldAddr rfl tyF27_18 (by first | (simp only [Nat.reduceAdd, Nat.add_zero, Nat.zero_add]; first | done | rfl) | rfl) rfl ?_
  first | refine sq_load 0 rfl rfl tyA3 tyS3 rfl rfl ?_
  refine sq_callP (signed_fn h.lon (by omega)) rfl rfl ?_
  refine sq_cat rfl rfl (by simp [enc4_length, leB_length, sgB_length]) rfl ?_
  refine sq_fieldAddr rfl tyF27_19 (by first | (simp only [Nat.reduceAdd, Nat.add_zero, Nat.zero_add]; first | done | rfl) | rfl) rfl ?_
  first | refine sq_load 0 rfl rfl tyA3 tyS3 rfl rfl ?_
  refine sq_callP (signed_fn h.lat (by omega)) rfl rfl ?_
  refine sq_cat rfl rfl (by simp [enc4_length, leB_length, sgB_length]) rfl ?_
  refine sq_assign rfl rfl ?_
  refine sq_assign rfl rfl ?_
  refine sq_nil (hZ _ _ ?_)
  refine awp_forget [(2, .string (str (enc5 h))), (3, _)] (Kn.cons rfl (Kn.cons rfl (Kn.nil))) ?_
  refine awp_ret ?_
  repeat (with_reducible (first | refine nx_then_ret ?_ | refine nx_block_ret ?_))
  exact nx_ret2 rfl rfl rfl (by simp [encV, hc0])
end Go.Proofs.Ytkcbdidaahgfhaa
