/- The walk of the bytes of a header, in the program. Conditions: the fields fit their kinds. -/
import Derived.Test.YtkcbdidaahgfhaaHd4
namespace Go.Proofs.Ytkcbdidaahgfhaa
open Go.RowKit
set_option linter.unusedVariables false
set_option linter.unusedSimpArgs false
abbrev rowV (g n c : Nat) : Value := .slice (some ⟨g, 0, none⟩) n c
abbrev rowH (g c : Nat) (b : List UInt8) : Ent := .ob g (RowP 5 1 b.length c (bv b))
theorem enter_put : Enters Try.prog 45 := Enters.mk Try.func45 (by kernel_rfl) (by kernel_rfl)
theorem putL_length (b : List UInt8) (m : Int) (x : Nat) : (putL b m x).length ≤ b.length + 8 ∧ b.length ≤ (putL b m x).length := by
  unfold putL
  split <;> simp [leB_length] <;> omega
def putsL (b : List UInt8) (m : Int) (xs : List Nat) : List UInt8 := xs.foldl (fun b x => putL b m x) b
theorem putsL_length (m : Int) : ∀ (xs : List Nat) (b : List UInt8), (putsL b m xs).length ≤ b.length + 8 * xs.length ∧ b.length ≤ (putsL b m xs).length
  | [], b => by simp [putsL]
  | x :: xs, b => by
    have h1 := putL_length b m x
    have h2 := putsL_length m xs (putL b m x)
    simp only [putsL, List.foldl_cons, List.length_cons] at h2 ⊢
    omega
def uqs (l : List Nat) : List Value := l.map uq
theorem uqs_at {l : List Nat} {k : Nat} (h : k < l.length) : (uqs l)[k]? = some (uq l[k]) := by simp [uqs, h]
/-- A call of Put, from a row of one's own. -/
theorem put_row (A : Option Addr) (c : Nat) (b : List UInt8) (m : Int) (x : Nat) (w : World) (hr : Rd w 1 A b.length (bv b)) (hc : A = none → c = 0) (hb : b.length ≤ 1000000) (hx : x < 18446744073709551616) :
    Calls Try.prog 45 #[.slice A b.length c, .int .i64 m, .int .u64 x] w (MakesRow w 5 1 (bv (putL b m x)) (putL b m x).length) := by
  have := put_any A c b m (x : Int) w hr hc (by omega) (by omega)
  simpa using this
theorem hput_fn (g0 c0 g : Nat) (b : List UInt8) (m : Int) (xs : List Nat) (hb : 0 < b.length ∧ b.length ≤ 10000) (hl : xs.length ≤ 100) (hx : ∀ x ∈ xs, x < 18446744073709551616) :
    Fn Try.prog 27 [rowV g0 b.length c0, .int .i64 m, rowV g xs.length xs.length] [.own g 22 (uqs xs), rowH g0 c0 b]
    fun v H' => ∃ g' c', v = rowV g' (putsL b m xs).length c' ∧ H' = [.own g 22 (uqs xs), rowH g' c' (putsL b m xs)] := by
  refine Fn.enter (N := 21) Try.func27 rfl (by kernel_rfl) rfl (fun w0 => ?_)
  refine awp_seq_region (fun Z hZ => ?_)
  refine sx_assign rfl rfl ?_
  refine sx_nil (hZ _ _ ?_)
  refine awp_forget [(0, _), (1, _), (2, _)] (Kn.cons rfl (Kn.cons rfl (Kn.cons rfl (Kn.nil)))) ?_
  refine awp_seq ?_
  refine awp_seq_region (fun Z hZ => ?_)
  refine sx_move rfl rfl ?_
  first | refine sx_len Try.underlying96 rfl rfl ?_ | refine sx_lenS Try.underlying96 rfl rfl ?_
  refine sx_move rfl rfl ?_
  refine sx_nil (hZ _ _ ?_)
  refine awp_forget [(0, _), (1, _), (9, _), (10, _), (11, _)] (Kn.cons rfl (Kn.cons rfl (Kn.cons rfl (Kn.cons rfl (Kn.cons rfl (Kn.nil)))))) ?_
  refine awp_block ?_
  refine awp_loop (ι := Nat × Nat × Nat × List UInt8) (fun i => [(0, rowV i.2.1 i.2.2.2.length i.2.2.1), (1, .int .i64 m), (9, rowV g xs.length xs.length), (10, .int .i64 xs.length), (11, .int .i64 (i.1 : Int))])
    (fun i => [.own g 22 (uqs xs), rowH i.2.1 i.2.2.1 i.2.2.2])
    (fun i => i.1 ≤ xs.length ∧ i.2.2.2 = putsL b m (xs.take i.1)) (fun i => xs.length - i.1) (0, g0, c0, b) ⟨by simp, by simp [putsL]⟩ (Kn.cons rfl (Kn.cons rfl (Kn.cons rfl (Kn.cons rfl (Kn.cons rfl Kn.nil))))) (HLe.refl _) ?_
  rintro ⟨k, g1, c1, bs⟩ ⟨hk, hbs⟩
  simp only at hk hbs
  have hlen := putsL_length m (xs.take k) b
  rw [← hbs, List.length_take] at hlen

  refine awp_seq_region (fun Z hZ => ?_)
  first | refine sx_lss rfl rfl rfl ?_ | refine sx_slss rfl rfl rfl ?_
  refine sx_nil (hZ _ _ ?_)
  refine awp_forget [(0, _), (1, _), (9, _), (10, _), (11, _), (12, _)] (Kn.cons rfl (Kn.cons rfl (Kn.cons rfl (Kn.cons rfl (Kn.cons rfl (Kn.cons rfl (Kn.nil))))))) ?_
  first | refine awp_cond rfl (fun h12 => ?_) (fun h12 => ?_) | refine awp_seq (awp_cond rfl (fun h12 => ?_) (fun h12 => ?_))
  · have hlt : k < xs.length := by simpa using h12
    obtain ⟨x, hxe, hx64⟩ : ∃ x, xs[k] = x ∧ x < 18446744073709551616 := ⟨_, rfl, hx _ (List.getElem_mem _)⟩
    have hld : rdV false 1 (uqs xs) (k * 1) = some (uq x) := by rw [Nat.mul_one, ← hxe]; exact uqs_at hlt
    refine awp_skip ?_
    repeat (with_reducible refine nx_block_normal ?_)
    with_reducible refine nx_normal ?_
    refine awp_seq (awp_block ?_)
    refine awp_seq_region (fun Z hZ => ?_)
    refine sx_indexAddr (k * 1) Try.underlying96 tyS22 rfl rfl (by omega) (by simp) rfl ?_
    refine sx_load 0 rfl rfl tyA22 tyS22 hld rfl ?_
    refine sx_assign rfl rfl ?_
    refine sx_nil (hZ _ _ ?_)
    refine awp_forget [(0, _), (1, _), (8, _), (9, _), (10, _), (11, _)] (Kn.cons rfl (Kn.cons rfl (Kn.cons rfl (Kn.cons rfl (Kn.cons rfl (Kn.cons rfl (Kn.nil))))))) ?_
    refine awp_region (fun Z hZ => ?_)
    refine sx_move rfl rfl ?_
    refine sx_move rfl rfl ?_
    refine sx_move rfl rfl ?_
    refine sx_callR enter_put rfl rfl (fun w hw => put_row (some ⟨g1, 0, none⟩) c1 bs m x w (rd_row (i := 1) rfl hw) (fun h => by cases h) (by omega) hx64) (fun v2 hv2 => ?_)
    obtain ⟨g2, c2, rfl⟩ := hv2.some (by have := putL_length bs m x; omega)
    refine sx_assign rfl rfl ?_
    refine sx_nil (hZ _ _ ?_)
    refine nx_forget [(0, _), (1, _), (9, _), (10, _), (11, _)] (Kn.cons rfl (Kn.cons rfl (Kn.cons rfl (Kn.cons rfl (Kn.cons rfl (Kn.nil)))))) ?_
    repeat (with_reducible refine nx_block_normal ?_)
    with_reducible refine nx_normal ?_
    refine awp_region (fun Z hZ => ?_)
    refine sx_add rfl rfl ((k + 1 : Nat) : Int) (by rw [IntWalk.i64_in _ (by omega)]; omega) rfl ?_
    refine sx_move rfl rfl ?_
    refine sx_nil (hZ _ _ ?_)
    refine nx_forget [(0, _), (1, _), (9, _), (10, _), (11, _)] (Kn.cons rfl (Kn.cons rfl (Kn.cons rfl (Kn.cons rfl (Kn.cons rfl (Kn.nil)))))) ?_
    refine nx_round (k + 1, g2, c2, putL bs m x) ⟨by omega, ?_⟩ (by simp; omega) (Kn.cons rfl (Kn.cons rfl (Kn.cons rfl (Kn.cons rfl (Kn.cons rfl Kn.nil))))) (HLe.pick [1, 0] (by simp) rfl)
    simp only
    rw [List.take_succ_eq_append_getElem hlt, hbs, hxe]
    simp [putsL]
  · refine awp_exit ?_
    repeat (with_reducible (first | refine nx_then_exit ?_ | refine nx_block_other (by decide) ?_))
    with_reducible refine nx_block_exit ?_
    repeat (with_reducible refine nx_block_normal ?_)
    with_reducible refine nx_normal ?_
    have hke : k = xs.length := by simp at h12; omega
    subst hke
    rw [List.take_length] at hbs
    refine awp_seq_region (fun Z hZ => ?_)
    refine sx_move rfl rfl ?_
    refine sx_assign rfl rfl ?_
    refine sx_nil (hZ _ _ ?_)
    refine awp_forget [(6, _)] (Kn.cons rfl (Kn.nil)) ?_
    refine awp_ret ?_
    repeat (with_reducible (first | refine nx_then_ret ?_ | refine nx_block_ret ?_))
    exact nx_ret1 rfl rfl ⟨g1, c1, by rw [hbs], by rw [hbs]⟩
theorem enter_uns : Enters Try.prog 46 := Enters.mk Try.func46 (by kernel_rfl) (by kernel_rfl)
theorem uns_fn (v n : Int) (hx : -9223372036854775808 ≤ v ∧ v < 9223372036854775808) : Fn Try.prog 46 [.int .i64 v, .int .i64 n] [] fun u _ => u = .tuple #[.int .u64 (unsV v n), .int .i64 (unsE v n)] :=
  Fn.of_same enter_uns fun w => unsigned_any v n w hx
def degsL (b : List UInt8) (xs : List Int) : List UInt8 := xs.foldl (fun b v => b ++ sgB v) b
theorem degsL_length : ∀ (xs : List Int) (b : List UInt8), (degsL b xs).length = b.length + 4 * xs.length
  | [], b => by simp [degsL]
  | x :: xs, b => by
    have h2 := degsL_length xs (b ++ sgB x)
    simp only [degsL, List.foldl_cons, List.length_cons, List.length_append, sgB_length] at h2 ⊢
    omega
theorem hdegrees_fn (g0 c0 g : Nat) (b : List UInt8) (xs : List Int) (hb : 0 < b.length ∧ b.length ≤ 10000) (hl : xs.length ≤ 100) (hx : ∀ x ∈ xs, -9223372036854775808 ≤ x ∧ x < 9223372036854775808) :
    Fn Try.prog 28 [rowV g0 b.length c0, rowV g xs.length xs.length] [.own g 3 (ints xs), rowH g0 c0 b]
    fun v H' => ∃ g' c', v = rowV g' (degsL b xs).length c' ∧ H' = [.own g 3 (ints xs), rowH g' c' (degsL b xs)] := by
  refine Fn.enter (N := 25) Try.func28 rfl (by kernel_rfl) rfl (fun w0 => ?_)
  refine awp_seq_region (fun Z hZ => ?_)
  refine sx_assign rfl rfl ?_
  refine sx_nil (hZ _ _ ?_)
  refine awp_forget [(0, _), (1, _)] (Kn.cons rfl (Kn.cons rfl (Kn.nil))) ?_
  refine awp_seq ?_
  refine awp_seq_region (fun Z hZ => ?_)
  refine sx_move rfl rfl ?_
  first | refine sx_len Try.underlying98 rfl rfl ?_ | refine sx_lenS Try.underlying98 rfl rfl ?_
  refine sx_move rfl rfl ?_
  refine sx_nil (hZ _ _ ?_)
  refine awp_forget [(0, _), (9, _), (10, _), (11, _)] (Kn.cons rfl (Kn.cons rfl (Kn.cons rfl (Kn.cons rfl (Kn.nil))))) ?_
  refine awp_block ?_
  refine awp_loop (ι := Nat × Nat × Nat × List UInt8) (fun i => [(0, rowV i.2.1 i.2.2.2.length i.2.2.1), (9, rowV g xs.length xs.length), (10, .int .i64 xs.length), (11, .int .i64 (i.1 : Int))])
    (fun i => [.own g 3 (ints xs), rowH i.2.1 i.2.2.1 i.2.2.2])
    (fun i => i.1 ≤ xs.length ∧ i.2.2.2 = degsL b (xs.take i.1)) (fun i => xs.length - i.1) (0, g0, c0, b) ⟨by simp, by simp [degsL]⟩ (Kn.cons rfl (Kn.cons rfl (Kn.cons rfl (Kn.cons rfl Kn.nil)))) (HLe.refl _) ?_
  rintro ⟨k, g1, c1, bs⟩ ⟨hk, hbs⟩
  simp only at hk hbs
  have hlen := degsL_length (xs.take k) b
  rw [← hbs, List.length_take] at hlen

  refine awp_seq_region (fun Z hZ => ?_)
  first | refine sx_lss rfl rfl rfl ?_ | refine sx_slss rfl rfl rfl ?_
  refine sx_nil (hZ _ _ ?_)
  refine awp_forget [(0, _), (9, _), (10, _), (11, _), (12, _)] (Kn.cons rfl (Kn.cons rfl (Kn.cons rfl (Kn.cons rfl (Kn.cons rfl (Kn.nil)))))) ?_
  first | refine awp_cond rfl (fun h12 => ?_) (fun h12 => ?_) | refine awp_seq (awp_cond rfl (fun h12 => ?_) (fun h12 => ?_))
  · have hlt : k < xs.length := by simpa using h12
    obtain ⟨x, hxe, hx64⟩ : ∃ x, xs[k] = x ∧ (-9223372036854775808 ≤ x ∧ x < 9223372036854775808) := ⟨_, rfl, hx _ (List.getElem_mem _)⟩
    have hld : rdV false 1 (ints xs) (k * 1) = some (.int .i64 x) := by rw [Nat.mul_one, ← hxe]; exact ints_at hlt
    obtain ⟨u, hu⟩ : ∃ u : Nat, unsV x 4 = u := ⟨(unsV x 4).toNat, by have := unsV4 x; omega⟩
    have hu2 : u < 4294967296 := by have := unsV4 x; omega
    have hput : putL bs 4 u = bs ++ sgB x := by unfold putL; rw [if_pos (by omega)]; simp [sgB, hu]
    refine awp_skip ?_
    repeat (with_reducible refine nx_block_normal ?_)
    with_reducible refine nx_normal ?_
    refine awp_seq (awp_block ?_)
    refine awp_seq_region (fun Z hZ => ?_)
    refine sx_indexAddr (k * 1) Try.underlying98 tyS3 rfl rfl (by omega) (by simp) rfl ?_
    refine sx_load 0 rfl rfl tyA3 tyS3 hld rfl ?_
    refine sx_assign rfl rfl ?_
    refine sx_nil (hZ _ _ ?_)
    refine awp_forget [(0, _), (6, _), (9, _), (10, _), (11, _)] (Kn.cons rfl (Kn.cons rfl (Kn.cons rfl (Kn.cons rfl (Kn.cons rfl (Kn.nil)))))) ?_
    refine awp_seq_region (fun Z hZ => ?_)
    refine sx_move rfl rfl ?_
    refine sx_callP (uns_fn x 4 hx64) rfl rfl ?_
    rw [hu]
    refine sx_move rfl rfl ?_
    refine sx_extract rfl rfl rfl ?_
    refine sx_extract rfl rfl rfl ?_
    refine sx_assign rfl rfl ?_
    refine sx_assign rfl rfl ?_
    refine sx_nil (hZ _ _ ?_)
    refine awp_forget [(0, _), (7, _), (9, _), (10, _), (11, _)] (Kn.cons rfl (Kn.cons rfl (Kn.cons rfl (Kn.cons rfl (Kn.cons rfl (Kn.nil)))))) ?_
    refine awp_region (fun Z hZ => ?_)
    refine sx_move rfl rfl ?_
    refine sx_move rfl rfl ?_
    refine sx_callR enter_put rfl rfl (fun w hw => put_row (some ⟨g1, 0, none⟩) c1 bs 4 u w (rd_row (i := 1) rfl hw) (fun h => by cases h) (by omega) (by omega)) (fun v2 hv2 => ?_)
    obtain ⟨g2, c2, rfl⟩ := hv2.some (by have := putL_length bs 4 u; omega)
    refine sx_assign rfl rfl ?_
    refine sx_nil (hZ _ _ ?_)
    refine nx_forget [(0, _), (9, _), (10, _), (11, _)] (Kn.cons rfl (Kn.cons rfl (Kn.cons rfl (Kn.cons rfl (Kn.nil))))) ?_
    repeat (with_reducible refine nx_block_normal ?_)
    with_reducible refine nx_normal ?_
    refine awp_region (fun Z hZ => ?_)
    refine sx_add rfl rfl ((k + 1 : Nat) : Int) (by rw [IntWalk.i64_in _ (by omega)]; omega) rfl ?_
    refine sx_move rfl rfl ?_
    refine sx_nil (hZ _ _ ?_)
    refine nx_forget [(0, _), (9, _), (10, _), (11, _)] (Kn.cons rfl (Kn.cons rfl (Kn.cons rfl (Kn.cons rfl (Kn.nil))))) ?_
    refine nx_round (k + 1, g2, c2, putL bs 4 u) ⟨by omega, ?_⟩ (by simp; omega) (Kn.cons rfl (Kn.cons rfl (Kn.cons rfl (Kn.cons rfl Kn.nil)))) (HLe.pick [1, 0] (by simp) rfl)
    simp only
    rw [List.take_succ_eq_append_getElem hlt, hbs, hxe, ← hbs, hput]
    simp [degsL, hbs]
  · refine awp_exit ?_
    repeat (with_reducible (first | refine nx_then_exit ?_ | refine nx_block_other (by decide) ?_))
    with_reducible refine nx_block_exit ?_
    repeat (with_reducible refine nx_block_normal ?_)
    with_reducible refine nx_normal ?_
    have hke : k = xs.length := by simp at h12; omega
    subst hke
    rw [List.take_length] at hbs
    refine awp_seq_region (fun Z hZ => ?_)
    refine sx_move rfl rfl ?_
    refine sx_assign rfl rfl ?_
    refine sx_nil (hZ _ _ ?_)
    refine awp_forget [(4, _)] (Kn.cons rfl (Kn.nil)) ?_
    refine awp_ret ?_
    repeat (with_reducible (first | refine nx_then_ret ?_ | refine nx_block_ret ?_))
    exact nx_ret1 rfl rfl ⟨g1, c1, by rw [hbs], by rw [hbs]⟩
end Go.Proofs.Ytkcbdidaahgfhaa
