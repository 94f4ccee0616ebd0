/- The walks of package varint: lists of numbers, and how long a number's bytes are; the document's bytes. No conditions but of lengths. -/
import Derived.Test.YtfffhnefjaomnaaVa1
namespace Go.Proofs.Ytfffhnefjaomnaa
open Go.RowKit
set_option linter.unusedVariables false
set_option linter.unusedSimpArgs false
def len_rho : Go.Shelf.Ren := ⟨fun n => match n with | 0 => 0 | 1 => 1 | 2 => 2 | 99 => 35 | 105 => 20 | 129 => 48 | 165 => 36 | 166 => 37 | 169 => 39 | 170 => 38 | 206 => 54 | 212 => 34 | 240 => 55 | 241 => 56 | 263 => 52 | 264 => 53 | 276 => 61 | 277 => 62 | 347 => 63 | 348 => 64 | 349 => 65 | 350 => 66 | 351 => 67 | 352 => 68 | 353 => 69 | 354 => 70 | 355 => 71 | 356 => 72 | 357 => 73 | 358 => 74 | 359 => 75 | 360 => 76 | 361 => 77 | 362 => 80 | 366 => 81 | _ => 0, fun n => match n with | 0 => 0 | 1 => 1 | 2 => 2 | 3 => 3 | 4 => 4 | 5 => 5 | 6 => 6 | 7 => 7 | 8 => 8 | 9 => 9 | 10 => 10 | 11 => 11 | 12 => 12 | 13 => 13 | 14 => 14 | 15 => 15 | 16 => 16 | 17 => 17 | 18 => 18 | 19 => 19 | 20 => 20 | 21 => 21 | 22 => 80 | 26 => 52 | 37 => 59 | 46 => 77 | 49 => 43 | 51 => 49 | 53 => 48 | 54 => 63 | 70 => 81 | 71 => 82 | 72 => 83 | 73 => 84 | 74 => 85 | 75 => 86 | 76 => 87 | 77 => 88 | 80 => 90 | 81 => 89 | 104 => 40 | 109 => 78 | 110 => 79 | 127 => 106 | 146 => 102 | 147 => 103 | 148 => 104 | 149 => 105 | 164 => 108 | 165 => 109 | 166 => 110 | 220 => 107 | 229 => 100 | 238 => 111 | 239 => 112 | 240 => 113 | 241 => 114 | 242 => 115 | 243 => 116 | 244 => 117 | 245 => 118 | 246 => 119 | 247 => 120 | 248 => 121 | 249 => 122 | _ => 0, fun n => match n with | 1 => 0 | _ => 0⟩
theorem len0 : Lays.n129 Try.prog len_rho where
  mixed := by kernel_rfl
  f129 := by kernel_rfl
  t3 := by kernel_rfl
  a3 := fun w => by kernel_rfl
  z3 := fun w => by kernel_rfl
  v3 := fun w => by kernel_rfl
  t4 := by kernel_rfl
  a4 := fun w => by kernel_rfl
  z4 := fun w => by kernel_rfl
  v4 := fun w => by kernel_rfl
  t5 := by kernel_rfl
  a5 := fun w => by kernel_rfl
  z5 := fun w => by kernel_rfl
  v5 := fun w => by kernel_rfl
  t9 := by kernel_rfl
  a9 := fun w => by kernel_rfl
  z9 := fun w => by kernel_rfl
  v9 := fun w => by kernel_rfl
  t46 := by kernel_rfl
  a46 := fun w => by kernel_rfl
  z46 := fun w => by kernel_rfl
  v46 := fun w => by kernel_rfl
  t53 := by kernel_rfl
  a53 := fun w => by kernel_rfl
  z53 := fun w => by kernel_rfl
  v53 := fun w => by kernel_rfl
theorem enter_len64 : Enters Try.prog 48 := Enters.mk Try.func48 (by kernel_rfl) (by kernel_rfl)
theorem len64_fn (x : Nat) (hx : x < 18446744073709551616) : Fn Try.prog 48 [uq x] [] fun v _ => v = iq (Lib.bitLen x : Nat) :=
  Fn.of_same enter_len64 fun w => (Any.bits_Len64 len0 (x : Int) w (by omega) (by omega)).mono fun e w' ⟨he, hw⟩ => ⟨by rw [he]; rfl, hw.symm⟩
theorem bl_pos {x : Nat} (h0 : x ≠ 0) (h : x < 2 ^ 64) : 1 ≤ Lib.bitLen x := by rw [Lib.bitLen_half x h0 h]; omega
theorem size_eq (x : Nat) : x < 18446744073709551616 → max 1 ((Lib.bitLen x + 6) / 7) = (vb x).length := by
  induction x using Nat.strongRecOn with
  | _ x ih =>
    intro hx
    rcases Nat.lt_or_ge x 128 with h | h
    · rw [vb_lt h]
      have := Lib.bitLen_le x 7 (by omega) (by omega)
      simp only [List.length_singleton]
      omega
    · rw [vb_ge h, List.length_cons, ← ih (x / 128) (by omega) (by omega), Lib.bitLen_shift 7 x (by omega) (by omega)]
      have := bl_pos (x := x / 128) (by omega) (by omega)
      rw [show (2 : Nat) ^ 7 = 128 from rfl]
      omega
theorem vsize_fn (x : Nat) (hx : x < 18446744073709551616) : Fn Try.prog 26 [uq x] [] fun v _ => v = iq ((vb x).length : Nat) := by
  have hb := Lib.bitLen_le x 64 (by omega) (by omega)
  refine Fn.enter (N := 8) Try.func26 rfl (by kernel_rfl) rfl (fun w0 => ?_)
  refine awp_seq_region (fun Z hZ => ?_)
  refine sx_assign rfl rfl ?_
  refine sx_nil (hZ _ _ ?_)
  refine awp_forget [(0, _)] (Kn.cons rfl (Kn.nil)) ?_
  refine awp_seq_region (fun Z hZ => ?_)
  refine sx_move rfl rfl ?_
  refine sx_callP (len64_fn x hx) rfl rfl ?_
  refine sx_add rfl rfl ((Lib.bitLen x + 6 : Nat) : Int) (by rw [IntWalk.i64_in _ (by omega)]; omega) rfl ?_
  refine sx_quo rfl rfl (by decide) (((Lib.bitLen x + 6) / 7 : Nat) : Int) (by rw [Int.tdiv_eq_ediv_of_nonneg (by omega), IntWalk.i64_in _ (by omega)]; omega) rfl ?_
  refine sx_max rfl rfl (((vb x).length : Nat) : Int) (by rw [← size_eq x hx]; omega) rfl ?_
  refine sx_assign rfl rfl ?_
  refine sx_nil (hZ _ _ ?_)
  refine awp_forget [(2, _)] (Kn.cons rfl (Kn.nil)) ?_
  refine awp_ret ?_
  repeat (with_reducible (first | refine nx_then_ret ?_ | refine nx_block_ret ?_ | refine nx_scope_ret ?_))
  exact nx_ret1 rfl rfl rfl
def allB (xs : List Nat) : List UInt8 := xs.flatMap vb
theorem allB_len {xs : List Nat} (h : ∀ x ∈ xs, x < 18446744073709551616) : (allB xs).length ≤ 10 * xs.length := by
  induction xs with
  | nil => simp [allB]
  | cons x r ih =>
    have h1 := vb_len10 (h x List.mem_cons_self)
    have h2 := ih fun y hy => h y (List.mem_cons_of_mem _ hy)
    simp only [allB, List.flatMap_cons, List.length_append, List.length_cons] at h2 ⊢
    omega
theorem allB_take {xs : List Nat} {k : Nat} (h : k < xs.length) : allB (xs.take (k + 1)) = allB (xs.take k) ++ vb xs[k] := by
  simp only [allB]
  rw [List.take_succ_eq_append_getElem h, List.flatMap_append]
  simp only [List.flatMap_cons, List.flatMap_nil, List.append_nil]
abbrev uqL (l : List Nat) : List Value := l.map uq
theorem all_fn (g c : Nat) (xs : List Nat) (hx : ∀ x ∈ xs, x < 18446744073709551616) (hl : xs.length ≤ 50000) :
    Fn Try.prog 23 [.slice (some ⟨g, 0, none⟩) xs.length c] [.ob g (RowP 48 1 xs.length c (uqL xs))] fun u H' => RowOk u (allB xs).length ∧ H' = rowE u 5 1 (bv (allB xs)) := by
  refine Fn.enter (N := 17) Try.func23 rfl (by kernel_rfl) rfl (fun w0 => ?_)

  refine awp_seq_region (fun Z hZ => ?_)
  refine sx_assign rfl rfl ?_
  refine sx_nil (hZ _ _ ?_)
  refine awp_forget [(0, _)] (Kn.cons rfl (Kn.nil)) ?_
  refine awp_seq_region (fun Z hZ => ?_)
  refine sx_assign rfl rfl ?_
  refine sx_nil (hZ _ _ ?_)
  refine awp_forget [(0, _), (3, _)] (Kn.cons rfl (Kn.cons rfl (Kn.nil))) ?_
  refine awp_seq ?_
  refine awp_seq_region (fun Z hZ => ?_)
  refine sx_move rfl rfl ?_
  first | refine sx_len Try.underlying55 rfl rfl ?_ | refine sx_lenS Try.underlying55 rfl rfl ?_
  refine sx_move rfl rfl ?_
  refine sx_nil (hZ _ _ ?_)
  refine awp_forget [(3, _), (6, _), (7, _), (8, _)] (Kn.cons rfl (Kn.cons rfl (Kn.cons rfl (Kn.cons rfl (Kn.nil))))) ?_
  refine awp_block ?_
  refine awp_loop (ι := Nat × Value) (fun i => [(3, i.2), (6, .slice (some ⟨g, 0, none⟩) xs.length c), (7, iq (xs.length : Nat)), (8, iq (i.1 : Nat))]) (fun i => .ob g (RowP 48 1 xs.length c (uqL xs)) :: rowE i.2 5 1 (bv (allB (xs.take i.1))))
    (fun i => i.1 ≤ xs.length ∧ RowOk i.2 (allB (xs.take i.1)).length) (fun i => xs.length - i.1) (0, .slice none 0 0) ⟨by simp, RowOk.nil⟩ (Kn.cons rfl (Kn.cons rfl (Kn.cons rfl (Kn.cons rfl Kn.nil)))) (HLe.refl _) ?_
  rintro ⟨k, u⟩ ⟨hk, hu⟩
  simp only at hk hu
  have hlen := allB_len (xs := xs.take k) fun x h => hx x (List.mem_of_mem_take h)
  rw [List.length_take, Nat.min_eq_left hk] at hlen

  refine awp_seq_region (fun Z hZ => ?_)
  first | refine sx_lss rfl rfl rfl ?_ | refine sx_slss rfl rfl rfl ?_
  refine sx_nil (hZ _ _ ?_)
  refine awp_forget [(3, _), (6, _), (7, _), (8, _), (9, _)] (Kn.cons rfl (Kn.cons rfl (Kn.cons rfl (Kn.cons rfl (Kn.cons rfl (Kn.nil)))))) ?_
  first | refine awp_cond rfl (fun h => ?_) (fun h => ?_) | refine awp_seq (awp_cond rfl (fun h => ?_) (fun h => ?_))
  · have hlt : k < xs.length := by simpa using h
    have hxk : xs[k] < 18446744073709551616 := hx _ (List.getElem_mem _)
    have hrd : rdV false 1 (uqL xs) k = some (uq xs[k]) := by show (uqL xs)[k]? = _; simp [hlt]
    refine awp_skip ?_
    repeat (with_reducible (first | refine nx_block_normal ?_ | refine nx_scope_normal ?_))
    with_reducible first | refine nx_normal ?_ | refine nx_normalM ?_
    refine awp_seq (awp_block ?_)
    refine awp_seq_region (fun Z hZ => ?_)
    refine sx_indexAddr (k * 1) Try.underlying55 tyS48 rfl rfl (by omega) (by simp) rfl ?_
    refine sx_loadRd (o := 0) k rfl (by omega) (fun w hw => rd_row (i := 0) rfl hw) (by omega) tyA48 tyS48 hrd rfl ?_
    refine sx_assign rfl rfl ?_
    refine sx_nil (hZ _ _ ?_)
    refine awp_forget [(3, _), (5, _), (6, _), (7, _), (8, _)] (Kn.cons rfl (Kn.cons rfl (Kn.cons rfl (Kn.cons rfl (Kn.cons rfl (Kn.nil)))))) ?_
    refine awp_region (fun Z hZ => ?_)
    refine sx_move rfl rfl ?_
    refine sx_move rfl rfl ?_
    refine sx_callO (rowE u 5 1 (bv (allB (xs.take k)))) [_] (lay_fn u (allB (xs.take k)) xs[k] hu hxk (by omega)) rfl (HLe.swap [_] _) rfl ?_
    rintro u2 H' ⟨hu2, rfl⟩
    rw [rowE_flt, ← allB_take hlt]
    rw [← allB_take hlt] at hu2
    refine sx_assign rfl rfl ?_
    refine sx_nil (hZ _ _ ?_)
    refine nx_forget [(3, _), (6, _), (7, _), (8, _)] (Kn.cons rfl (Kn.cons rfl (Kn.cons rfl (Kn.cons rfl (Kn.nil))))) ?_
    repeat (with_reducible (first | refine nx_block_normal ?_ | refine nx_scope_normal ?_))
    with_reducible first | refine nx_normal ?_ | refine nx_normalM ?_
    refine awp_region (fun Z hZ => ?_)
    refine sx_add rfl rfl ((k + 1 : Nat) : Int) (by rw [IntWalk.i64_in _ (by omega)]; omega) rfl ?_
    refine sx_move rfl rfl ?_
    refine sx_nil (hZ _ _ ?_)
    refine nx_forget [(3, _), (6, _), (7, _), (8, _)] (Kn.cons rfl (Kn.cons rfl (Kn.cons rfl (Kn.cons rfl (Kn.nil))))) ?_
    exact nx_round (k + 1, u2) ⟨by show k + 1 ≤ _; omega, hu2⟩ (by simp; omega) (Kn.cons rfl (Kn.cons rfl (Kn.cons rfl (Kn.cons rfl Kn.nil)))) (HLe.swap _ [_])
  · refine awp_exit ?_
    repeat (with_reducible (first | refine nx_then_exit ?_ | refine nx_block_other (by decide) ?_ | refine nx_scope_exit ?_))
    with_reducible refine nx_block_exit ?_
    repeat (with_reducible (first | refine nx_block_normal ?_ | refine nx_scope_normal ?_))
    with_reducible first | refine nx_normal ?_ | refine nx_normalM ?_
    have hke : k = xs.length := by simp at h; omega
    subst hke
    rw [List.take_length] at hu ⊢
    refine awp_seq_region (fun Z hZ => ?_)
    refine sx_move rfl rfl ?_
    refine sx_assign rfl rfl ?_
    refine sx_nil (hZ _ _ ?_)
    refine awp_forget [(2, _)] (Kn.cons rfl (Kn.nil)) ?_
    refine awp_ret ?_
    repeat (with_reducible (first | refine nx_then_ret ?_ | refine nx_block_ret ?_ | refine nx_scope_ret ?_))
    exact nx_ret1h _ rfl rfl (HLe.sub (List.sublist_cons_self _ _)) ⟨hu, rfl⟩
theorem rbytes_fn (x : Nat) : x < 18446744073709551616 → Fn Try.prog 47 [uq x] [] fun v _ => v = .string (str (vb x)) := by
  induction x using Nat.strongRecOn with
  | _ x ih =>
  intro hx
  refine Fn.enter (N := 19) Try.func47 rfl (by kernel_rfl) rfl (fun w0 => ?_)
  refine awp_seq_region (fun Z hZ => ?_)
  refine sx_assign rfl rfl ?_
  refine sx_nil (hZ _ _ ?_)
  refine awp_forget [(0, _)] (Kn.cons rfl (Kn.nil)) ?_
  refine awp_seq ?_
  refine awp_seq_region (fun Z hZ => ?_)
  refine sx_move rfl rfl ?_
  first | refine sx_lss rfl rfl rfl ?_ | refine sx_slss rfl rfl rfl ?_
  refine sx_nil (hZ _ _ ?_)
  refine awp_forget [(0, _), (4, _)] (Kn.cons rfl (Kn.cons rfl (Kn.nil))) ?_
  first | refine awp_cond rfl (fun h => ?_) (fun h => ?_) | refine awp_seq (awp_cond rfl (fun h => ?_) (fun h => ?_))
  · have hlt : x < 128 := by simp at h; omega
    rw [vb_lt hlt]
    refine awp_seq_region (fun Z hZ => ?_)
    refine sx_move rfl rfl ?_
    refine sx_conv Try.underlying48 Try.underlying5 rfl _ rfl rfl ?_
    refine sx_buildSlice Try.underlying59 tyS5 tyZ5 rfl rfl rfl rfl (by first | (simp only [List.take_succ_cons, List.take_zero, List.drop_succ_cons, List.drop_zero, List.cons_append, List.nil_append, List.append_nil, List.length_cons, List.length_nil, Nat.reduceAdd, Nat.zero_add, Nat.add_zero, Value.cells, wrV, zrep_one, List.replicate_succ, List.replicate_zero, Nat.reduceMul, Nat.zero_mul]; first | done | rfl) | rfl) rfl (fun g1 => ?_)
    refine sx_strB (l := [UInt8.ofNat x]) Try.underlying59 Try.underlying5 Try.underlying9 rfl (fun w hw => rd_own (i := 0) (by show some (Ent.own _ _ [Value.int .u8 _]) = some (Ent.own _ _ [Value.int .u8 _]); rw [show (UInt8.ofNat x).toNat = x % 256 by simp, u8_wrap]) rfl hw) rfl ?_
    refine sx_assign rfl rfl ?_
    refine sx_nil (hZ _ _ ?_)
    refine awp_forget [(2, _)] (Kn.cons rfl (Kn.nil)) ?_
    refine awp_ret ?_
    repeat (with_reducible (first | refine nx_then_ret ?_ | refine nx_block_ret ?_ | refine nx_scope_ret ?_))
    exact nx_ret1 rfl rfl rfl
  · have hge : 128 ≤ x := by simp at h; omega
    refine awp_skip ?_
    repeat (with_reducible (first | refine nx_block_normal ?_ | refine nx_scope_normal ?_))
    with_reducible first | refine nx_normal ?_ | refine nx_normalM ?_
    rw [vb_ge hge]
    have hcall := ih (x / 128) (by omega) (by omega)
    refine awk3_seq_region (fun _ : Unit => [(2, .string (str (UInt8.ofNat (x % 128 + 128) :: vb (x / 128))))]) (fun _ => []) (fun _ => True) _ [4, 5, 8] [(0, true), (1, true), (2, true), (3, true), (6, true), (7, true), (4, false), (5, false), (8, false), (9, true), (10, true)] [(0, true), (1, true), (2, true), (3, true), (6, true), (7, true), (4, false), (8, false), (5, false), (9, true), (10, true)] [(0, true), (1, true), (2, true), (3, true), (6, true), (7, true), (8, false), (4, false), (5, false), (9, true), (10, true)] mixed (by kernel_rfl) (HLe.pick [] (by simp) (by simp only [pick, List.filterMap_cons, List.filterMap_nil, List.getElem?_cons_succ, List.getElem?_cons_zero]; rfl)) ?_ ?_ ?_ ?_
    · refine tw_p rfl ?_
      refine sv_move rfl rfl ?_
      refine sv_nil ?_
      refine tw_p rfl ?_
      refine sv_rem rfl rfl (by decide) ((x % 128 : Nat) : Int) (by rw [Int.tmod_eq_emod_of_nonneg (by omega)]; omega) rfl ?_
      refine sv_nil ?_
      refine tw_p rfl ?_
      refine sv_conv Try.underlying48 Try.underlying5 rfl ((x % 128 : Nat) : Int) (by rw [u8_wrap]; omega) rfl ?_
      refine sv_nil ?_
      refine tw_p rfl ?_
      refine sv_add rfl rfl ((x % 128 + 128 : Nat) : Int) (by rw [show ((x % 128 : Nat) : Int) + 128 = ((x % 128 + 128 : Nat) : Int) by omega, u8_wrap]; omega) rfl ?_
      refine sv_nil ?_
      refine tw_p rfl ?_
      refine sv_move rfl rfl ?_
      refine sv_nil ?_
      refine tw_p rfl ?_
      refine sv_quo rfl rfl (by decide) ((x / 128 : Nat) : Int) (by rw [Int.tdiv_eq_ediv_of_nonneg (by omega), IntWalk.u64_in _ (by omega)]; omega) rfl ?_
      refine sv_nil ?_
      refine tw_g rfl ?_
      refine sx_buildSlice Try.underlying59 tyS5 tyZ5 rfl rfl rfl rfl (by first | (simp only [List.take_succ_cons, List.take_zero, List.drop_succ_cons, List.drop_zero, List.cons_append, List.nil_append, List.append_nil, List.length_cons, List.length_nil, Nat.reduceAdd, Nat.zero_add, Nat.add_zero, Value.cells, wrV, zrep_one, List.replicate_succ, List.replicate_zero, Nat.reduceMul, Nat.zero_mul]; first | done | rfl) | rfl) rfl (fun g2 => ?_)
      refine sx_nil ⟨HLe.pick [] (by simp) rfl, ?_⟩
      refine tw_g rfl ?_
      refine sx_strB (l := [UInt8.ofNat (x % 128 + 128)]) Try.underlying59 Try.underlying5 Try.underlying9 rfl (fun w hw => rd_own (i := 0) (by show some (Ent.own _ _ [Value.int .u8 _]) = some (Ent.own _ _ [Value.int .u8 _]); rw [show (UInt8.ofNat (x % 128 + 128)).toNat = x % 128 + 128 by simp; omega]) rfl hw) rfl ?_
      refine sx_nil ⟨HLe.pick [] (by simp) rfl, ?_⟩
      refine tw_g rfl ?_
      refine sx_callP hcall rfl rfl ?_
      refine sx_nil ⟨HLe.pick [] (by simp) rfl, ?_⟩
      refine tw_p rfl ?_
      refine sv_cat rfl rfl (by have := vb_len10 (x := x / 128) (by omega); simp; omega) rfl ?_
      refine sv_nil ?_
      refine tw_p rfl ?_
      refine sv_assign rfl rfl ?_
      refine sv_nil ?_
      refine tw_nil ?_
      exact ⟨(), trivial, Kn.cons rfl Kn.nil, HLe.sub (List.nil_sublist _)⟩
    · refine tw_p rfl ?_
      refine sv_move rfl rfl ?_
      refine sv_nil ?_
      refine tw_p rfl ?_
      refine sv_rem rfl rfl (by decide) ((x % 128 : Nat) : Int) (by rw [Int.tmod_eq_emod_of_nonneg (by omega)]; omega) rfl ?_
      refine sv_nil ?_
      refine tw_p rfl ?_
      refine sv_conv Try.underlying48 Try.underlying5 rfl ((x % 128 : Nat) : Int) (by rw [u8_wrap]; omega) rfl ?_
      refine sv_nil ?_
      refine tw_p rfl ?_
      refine sv_add rfl rfl ((x % 128 + 128 : Nat) : Int) (by rw [show ((x % 128 : Nat) : Int) + 128 = ((x % 128 + 128 : Nat) : Int) by omega, u8_wrap]; omega) rfl ?_
      refine sv_nil ?_
      refine tw_p rfl ?_
      refine sv_move rfl rfl ?_
      refine sv_nil ?_
      refine tw_p rfl ?_
      refine sv_quo rfl rfl (by decide) ((x / 128 : Nat) : Int) (by rw [Int.tdiv_eq_ediv_of_nonneg (by omega), IntWalk.u64_in _ (by omega)]; omega) rfl ?_
      refine sv_nil ?_
      refine tw_g rfl ?_
      refine sx_buildSlice Try.underlying59 tyS5 tyZ5 rfl rfl rfl rfl (by first | (simp only [List.take_succ_cons, List.take_zero, List.drop_succ_cons, List.drop_zero, List.cons_append, List.nil_append, List.append_nil, List.length_cons, List.length_nil, Nat.reduceAdd, Nat.zero_add, Nat.add_zero, Value.cells, wrV, zrep_one, List.replicate_succ, List.replicate_zero, Nat.reduceMul, Nat.zero_mul]; first | done | rfl) | rfl) rfl (fun g2 => ?_)
      refine sx_nil ⟨HLe.pick [] (by simp) rfl, ?_⟩
      refine tw_g rfl ?_
      refine sx_callP hcall rfl rfl ?_
      refine sx_nil ⟨HLe.pick [] (by simp) rfl, ?_⟩
      refine tw_g rfl ?_
      refine sx_strB (l := [UInt8.ofNat (x % 128 + 128)]) Try.underlying59 Try.underlying5 Try.underlying9 rfl (fun w hw => rd_own (i := 0) (by show some (Ent.own _ _ [Value.int .u8 _]) = some (Ent.own _ _ [Value.int .u8 _]); rw [show (UInt8.ofNat (x % 128 + 128)).toNat = x % 128 + 128 by simp; omega]) rfl hw) rfl ?_
      refine sx_nil ⟨HLe.pick [] (by simp) rfl, ?_⟩
      refine tw_p rfl ?_
      refine sv_cat rfl rfl (by have := vb_len10 (x := x / 128) (by omega); simp; omega) rfl ?_
      refine sv_nil ?_
      refine tw_p rfl ?_
      refine sv_assign rfl rfl ?_
      refine sv_nil ?_
      refine tw_nil ?_
      exact ⟨(), trivial, Kn.cons rfl Kn.nil, HLe.sub (List.nil_sublist _)⟩
    · refine tw_p rfl ?_
      refine sv_move rfl rfl ?_
      refine sv_nil ?_
      refine tw_p rfl ?_
      refine sv_rem rfl rfl (by decide) ((x % 128 : Nat) : Int) (by rw [Int.tmod_eq_emod_of_nonneg (by omega)]; omega) rfl ?_
      refine sv_nil ?_
      refine tw_p rfl ?_
      refine sv_conv Try.underlying48 Try.underlying5 rfl ((x % 128 : Nat) : Int) (by rw [u8_wrap]; omega) rfl ?_
      refine sv_nil ?_
      refine tw_p rfl ?_
      refine sv_add rfl rfl ((x % 128 + 128 : Nat) : Int) (by rw [show ((x % 128 : Nat) : Int) + 128 = ((x % 128 + 128 : Nat) : Int) by omega, u8_wrap]; omega) rfl ?_
      refine sv_nil ?_
      refine tw_p rfl ?_
      refine sv_move rfl rfl ?_
      refine sv_nil ?_
      refine tw_p rfl ?_
      refine sv_quo rfl rfl (by decide) ((x / 128 : Nat) : Int) (by rw [Int.tdiv_eq_ediv_of_nonneg (by omega), IntWalk.u64_in _ (by omega)]; omega) rfl ?_
      refine sv_nil ?_
      refine tw_g rfl ?_
      refine sx_callP hcall rfl rfl ?_
      refine sx_nil ⟨HLe.pick [] (by simp) rfl, ?_⟩
      refine tw_g rfl ?_
      refine sx_buildSlice Try.underlying59 tyS5 tyZ5 rfl rfl rfl rfl (by first | (simp only [List.take_succ_cons, List.take_zero, List.drop_succ_cons, List.drop_zero, List.cons_append, List.nil_append, List.append_nil, List.length_cons, List.length_nil, Nat.reduceAdd, Nat.zero_add, Nat.add_zero, Value.cells, wrV, zrep_one, List.replicate_succ, List.replicate_zero, Nat.reduceMul, Nat.zero_mul]; first | done | rfl) | rfl) rfl (fun g2 => ?_)
      refine sx_nil ⟨HLe.pick [] (by simp) rfl, ?_⟩
      refine tw_g rfl ?_
      refine sx_strB (l := [UInt8.ofNat (x % 128 + 128)]) Try.underlying59 Try.underlying5 Try.underlying9 rfl (fun w hw => rd_own (i := 0) (by show some (Ent.own _ _ [Value.int .u8 _]) = some (Ent.own _ _ [Value.int .u8 _]); rw [show (UInt8.ofNat (x % 128 + 128)).toNat = x % 128 + 128 by simp; omega]) rfl hw) rfl ?_
      refine sx_nil ⟨HLe.pick [] (by simp) rfl, ?_⟩
      refine tw_p rfl ?_
      refine sv_cat rfl rfl (by have := vb_len10 (x := x / 128) (by omega); simp; omega) rfl ?_
      refine sv_nil ?_
      refine tw_p rfl ?_
      refine sv_assign rfl rfl ?_
      refine sv_nil ?_
      refine tw_nil ?_
      exact ⟨(), trivial, Kn.cons rfl Kn.nil, HLe.sub (List.nil_sublist _)⟩
    rintro ⟨⟩ -
    refine awp_ret ?_
    repeat (with_reducible (first | refine nx_then_ret ?_ | refine nx_block_ret ?_ | refine nx_scope_ret ?_))
    exact nx_ret1 rfl rfl rfl
end Go.Proofs.Ytfffhnefjaomnaa
