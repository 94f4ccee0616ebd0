/- The walks of package layout: where parts stand. Conditions: lengths fit 64 bits. The walks of layout's reference, of With, of the law's own. Conditions: lengths fit 64 bits. The walks of layout's Glue, and of the reference's. Conditions: the parts are not too long. The walks of layout's reference's Glue, of both Cuts. Conditions: the parts are not too long. The walk of layout's reference's Cut; the law's own. Conditions: the text is not too long. -/
import Derived.Test.YtahmhcmfeloclaaGreatGhd3
import Derived.Test.YtahmhcmfeloclaaGreatGsx4
namespace Go.Proofs.YtahmhcmfeloclaaGreat.Y
open Go.RowKit
set_option linter.unusedVariables false
set_option linter.unusedSimpArgs false
def secOk (a b c d : Nat) : Bool := decide (127 + a + b + c + d ≤ 1099511627776)
def zero8 : List Value := [uq 0, uq 0, uq 0, uq 0, uq 0, uq 0, uq 0, uq 0]
def secC (a b c d : Nat) : List Value := if secOk a b c d = true then [uq 127, uq a, uq (127 + a), uq b, uq (127 + a + b), uq c, uq (127 + a + b + c), uq d] else zero8
def secN (a b c d : Nat) : Nat := if secOk a b c d = true then 127 + a + b + c + d else 0
def secE (a b c d : Nat) : Int := if secOk a b c d = true then 0 else 8
def atK (a b c d : Nat) : Nat → Nat
  | 0 => 127 | 1 => 127 + a | 2 => 127 + a + b | 3 => 127 + a + b + c | _ => 127 + a + b + c + d
def lnK (a b c d : Nat) : Nat → Nat
  | 0 => a | 1 => b | 2 => c | _ => d
def outK (a b c d : Nat) : Nat → List Value
  | 0 => zero8
  | 1 => [uq 127, uq a, uq 0, uq 0, uq 0, uq 0, uq 0, uq 0]
  | 2 => [uq 127, uq a, uq (127 + a), uq b, uq 0, uq 0, uq 0, uq 0]
  | 3 => [uq 127, uq a, uq (127 + a), uq b, uq (127 + a + b), uq c, uq 0, uq 0]
  | _ => [uq 127, uq a, uq (127 + a), uq b, uq (127 + a + b), uq c, uq (127 + a + b + c), uq d]
theorem four {k : Nat} (h : k < 4) : k = 0 ∨ k = 1 ∨ k = 2 ∨ k = 3 := by omega
section
variable (a b c d : Nat) {k : Nat}
theorem out_wr (h : k < 4) : wrV (outK a b c d k) (k * 2) [uq (atK a b c d k), uq (lnK a b c d k)] = outK a b c d (k + 1) := by obtain rfl | rfl | rfl | rfl := four h <;> rfl
theorem out_len : (outK a b c d k).length = 8 := by unfold outK; split <;> rfl
end
end Go.Proofs.YtahmhcmfeloclaaGreat.Y

namespace Go.Proofs.YtahmhcmfeloclaaGreat.Y
open Go.RowKit
set_option linter.unusedVariables false
set_option linter.unusedSimpArgs false
def withH (h : Hdr) (p0 q0 p1 q1 p2 q2 p3 q3 : Nat) : Hdr := { h with r0 := p0, r1 := q0, m0 := p1, m1 := q1, l0 := p2, l1 := q2, d0 := p3, d1 := q3 }
abbrev sec8 (p0 q0 p1 q1 p2 q2 p3 q3 : Nat) : List Value := [uq p0, uq q0, uq p1, uq q1, uq p2, uq q2, uq p3, uq q3]
end Go.Proofs.YtahmhcmfeloclaaGreat.Y


namespace Go.Proofs.YtahmhcmfeloclaaGreat.Y
open Go.RowKit
set_option linter.unusedVariables false
set_option linter.unusedSimpArgs false
/-- Four texts. -/
structure P4 where
  (a b c d : List UInt8)
structure P4.Ok (p : P4) : Prop where
  a : p.a.length ≤ 1000
  b : p.b.length ≤ 1000
  c : p.c.length ≤ 1000
  d : p.d.length ≤ 1000
abbrev P4.cells (p : P4) : List Value := [.string (str p.a), .string (str p.b), .string (str p.c), .string (str p.d)]
def P4.at_ (p : P4) : Nat → List UInt8
  | 0 => p.a | 1 => p.b | 2 => p.c | _ => p.d
def P4.lens (p : P4) : Nat → List Value
  | 0 => [uq 0, uq 0, uq 0, uq 0]
  | 1 => [uq p.a.length, uq 0, uq 0, uq 0]
  | 2 => [uq p.a.length, uq p.b.length, uq 0, uq 0]
  | 3 => [uq p.a.length, uq p.b.length, uq p.c.length, uq 0]
  | _ => [uq p.a.length, uq p.b.length, uq p.c.length, uq p.d.length]
def P4.all (p : P4) : List UInt8 := p.a ++ p.b ++ p.c ++ p.d
theorem P4.wr (p : P4) {k : Nat} (h : k < 4) : (p.lens k).set k (uq (p.at_ k).length) = p.lens (k + 1) := by obtain rfl | rfl | rfl | rfl := four h <;> rfl
theorem P4.len (p : P4) (k : Nat) : (p.lens k).length = 4 := by unfold P4.lens; split <;> rfl
def layH (h : Hdr) (a b c d : Nat) : Hdr := withH h 127 a (127 + a) b (127 + a + b) c (127 + a + b + c) d
def glueH (h : Hdr) (p : P4) : Hdr := layH h p.a.length p.b.length p.c.length p.d.length
def glueS (h : Hdr) (p : P4) : List UInt8 := if checkV (glueH h p) = 0 then encV (glueH h p) ++ p.all else []
theorem P4.fits (p : P4) (hp : p.Ok) : secOk p.a.length p.b.length p.c.length p.d.length = true := decide_eq_true (by have := hp.a; have := hp.b; have := hp.c; have := hp.d; omega)
section
variable {P : Program} {N : Frm} {w0 : World} {Wr : List Nat} {ops : Array Oper} {rest : List Oper} {fr : Fr} {H : Heap} {Z : Fr → Heap → Prop}
variable {d ty : Nat} {pos : String} {after : Array Edge}
end
end Go.Proofs.YtahmhcmfeloclaaGreat.Y

namespace Go.Proofs.YtahmhcmfeloclaaGreat.Y
open Go.RowKit
set_option linter.unusedVariables false
set_option linter.unusedSimpArgs false
/-- The from and the length of a header's k-th section. -/
def hf (h : Hdr) : Nat → Nat
  | 0 => h.r0 | 1 => h.m0 | 2 => h.l0 | _ => h.d0
def hl (h : Hdr) : Nat → Nat
  | 0 => h.r1 | 1 => h.m1 | 2 => h.l1 | _ => h.d1
theorem h_rd (h : Hdr) {k : Nat} (hk : k < 4) : rdV true 2 h.secs (k * 2) = some (.agg #[uq (hf h k), uq (hl h k)]) := by obtain rfl | rfl | rfl | rfl := four hk <;> rfl
theorem h_fits {h : Hdr} (hs : secsV h = true) (k : Nat) : hf h k ≤ 1099511627776 ∧ hl h k ≤ 1099511627776 := by
  simp only [secsV, fitsV, Bool.and_eq_true, decide_eq_true_eq] at hs
  unfold hf hl
  constructor <;> split <;> omega
theorem sec_of_check {h : Hdr} (hc : checkV h = 0) : secsV h = true := by
  unfold checkV at hc
  cases hs : secsV h with
  | true => rfl
  | false => rw [if_pos hs] at hc; cases hc
def inL (l : List UInt8) (k : Nat) : Bool := decide (hf (decV l) k + hl (decV l) k ≤ l.length)
def cutOk (l : List UInt8) : Bool := inL l 0 && inL l 1 && inL l 2 && inL l 3
def cutE (l : List UInt8) : Int := if decE l = 0 then (if cutOk l = true then 0 else 8) else decE l
def piece (l : List UInt8) (k : Nat) : List UInt8 := (l.drop (hf (decV l) k)).take (hl (decV l) k)
def cutH (l : List UInt8) : Hdr := if cutE l = 0 then decV l else zeroH
def cutP (l : List UInt8) : P4 := if cutE l = 0 then ⟨piece l 0, piece l 1, piece l 2, piece l 3⟩ else ⟨[], [], [], []⟩
def P4.out (p : P4) : Nat → List Value
  | 0 => [.string (str []), .string (str []), .string (str []), .string (str [])]
  | 1 => [.string (str p.a), .string (str []), .string (str []), .string (str [])]
  | 2 => [.string (str p.a), .string (str p.b), .string (str []), .string (str [])]
  | 3 => [.string (str p.a), .string (str p.b), .string (str p.c), .string (str [])]
  | _ => [.string (str p.a), .string (str p.b), .string (str p.c), .string (str p.d)]
theorem P4.out_wr (p : P4) {k : Nat} (h : k < 4) : (p.out k).set k (.string (str (p.at_ k))) = p.out (k + 1) := by obtain rfl | rfl | rfl | rfl := four h <;> rfl
theorem P4.out_len (p : P4) (k : Nat) : (p.out k).length = 4 := by unfold P4.out; split <;> rfl
def cutQ (l : List UInt8) : P4 := ⟨piece l 0, piece l 1, piece l 2, piece l 3⟩
theorem cutQ_at (l : List UInt8) {k : Nat} (h : k < 4) : (cutQ l).at_ k = piece l k := by obtain rfl | rfl | rfl | rfl := four h <;> rfl
theorem cut_no {l : List UInt8} {k : Nat} (hd : decE l = 0) (hk : k < 4) (h : inL l k = false) : cutE l = 8 := by
  have : cutOk l = false := by
    unfold cutOk
    obtain rfl | rfl | rfl | rfl := four hk <;> simp [h]
  unfold cutE
  rw [if_pos hd, this]
  rfl
theorem cut_yes {l : List UInt8} (hd : decE l = 0) (h : ∀ k, k < 4 → inL l k = true) : cutE l = 0 := by
  have : cutOk l = true := by unfold cutOk; rw [h 0 (by omega), h 1 (by omega), h 2 (by omega), h 3 (by omega)]; rfl
  unfold cutE
  rw [if_pos hd, this]
  rfl
theorem decV_check' {l : List UInt8} (h : decE l = 0) : checkV (decV l) = 0 := by
  unfold decV
  rw [if_pos h]
  exact (decE_ok h).2.2.2.2
theorem cut_fn (l : List UInt8) (hl0 : l.length ≤ 100000) : Fn Tryz.prog 37 [.string (str l)] [] fun v _ => v = .tuple #[(cutH l).val, .agg (cutP l).cells.toArray, iq (cutE l)] := by
  refine Fn.enter (N := 52) Tryz.func37 rfl (by kernel_rfl) rfl (fun w0 => ?_)

  refine awp_seq_region (fun Z hZ => ?_)
  refine sx_alloc tyZ86 rfl (fun g1 => ?_)
  refine sx_alloc tyZ87 rfl (fun g2 => ?_)
  refine sx_assign rfl rfl ?_
  refine sx_nil (hZ _ _ ?_)
  refine awp_forget [(0, _), (2, _), (3, _)] (Kn.cons rfl (Kn.cons rfl (Kn.cons rfl (Kn.nil)))) ?_
  refine awp_seq_region (fun Z hZ => ?_)
  refine sx_move rfl rfl ?_
  refine sx_callP (hdecode_fn l (by omega)) rfl rfl ?_
  refine sx_move rfl rfl ?_
  refine sx_extract rfl rfl rfl ?_
  refine sx_extract rfl rfl rfl ?_
  refine sx_alloc tyZ86 rfl (fun g3 => ?_)
  refine sx_store 0 rfl rfl rfl tyS86 (by first | (simp only [Value.cells]; first | done | rfl) | rfl) rfl rfl (by first | (simp only [List.length_cons, List.length_nil, Nat.reduceAdd, Nat.zero_add, Nat.add_zero]; first | done | rfl) | rfl) (by first | (simp only [List.take_succ_cons, List.take_zero, List.drop_succ_cons, List.drop_zero, List.cons_append, List.nil_append, List.append_nil, List.length_cons, List.length_nil, Nat.reduceAdd, Nat.zero_add, Nat.add_zero, Value.cells, wrV]; first | done | rfl) | rfl) (by first | (simp only [List.set_cons_succ, List.set_cons_zero]; first | done | rfl) | rfl) ?_
  refine sx_assign rfl rfl ?_
  refine sx_nil (hZ _ _ ?_)
  refine awp_forget [(0, _), (2, _), (3, _), (5, _), (6, _)] (Kn.cons rfl (Kn.cons rfl (Kn.cons rfl (Kn.cons rfl (Kn.cons rfl (Kn.nil)))))) ?_
  refine awp_seq ?_
  refine awp_seq_region (fun Z hZ => ?_)
  refine sx_move rfl rfl ?_
  refine sx_neq rfl rfl rfl ?_
  refine sx_nil (hZ _ _ ?_)
  refine awp_forget [(0, _), (2, _), (3, _), (5, _), (6, _), (16, _)] (Kn.cons rfl (Kn.cons rfl (Kn.cons rfl (Kn.cons rfl (Kn.cons rfl (Kn.cons rfl (Kn.nil))))))) ?_
  refine awp_cond rfl (fun h => ?_) (fun h => ?_)
  · skip
    refine awp_seq_region (fun Z hZ => ?_)
    refine sx_build tyZ86 tyP86 rfl rfl (by first | (simp only [List.take_succ_cons, List.take_zero, List.drop_succ_cons, List.drop_zero, List.cons_append, List.nil_append, List.append_nil, List.length_cons, List.length_nil, Nat.reduceAdd, Nat.zero_add, Nat.add_zero, Value.cells, wrV, zrep_one, List.replicate_succ, List.replicate_zero, Nat.reduceMul, Nat.zero_mul]; first | done | rfl) | rfl) rfl ?_
    refine sx_buildA tyZ87 Tryz.underlying87 tyS9 rfl rfl (by first | (simp only [List.take_succ_cons, List.take_zero, List.drop_succ_cons, List.drop_zero, List.cons_append, List.nil_append, List.append_nil, List.length_cons, List.length_nil, Nat.reduceAdd, Nat.zero_add, Nat.add_zero, Value.cells, wrV, zrep_one, List.replicate_succ, List.replicate_zero, Nat.reduceMul, Nat.zero_mul]; first | done | rfl) | rfl) rfl ?_
    refine sx_move rfl rfl ?_
    refine sx_store 2 rfl rfl rfl tyS86 (by first | (simp only [Value.cells]; first | done | rfl) | rfl) rfl rfl (by first | (simp only [List.length_cons, List.length_nil, Nat.reduceAdd, Nat.zero_add, Nat.add_zero]; first | done | rfl) | rfl) (by first | (simp only [List.take_succ_cons, List.take_zero, List.drop_succ_cons, List.drop_zero, List.cons_append, List.nil_append, List.append_nil, List.length_cons, List.length_nil, Nat.reduceAdd, Nat.zero_add, Nat.add_zero, Value.cells, wrV]; first | done | rfl) | rfl) (by first | (simp only [List.set_cons_succ, List.set_cons_zero]; first | done | rfl) | rfl) ?_
    refine sx_store 1 rfl rfl rfl tyS87 (by first | (simp only [Value.cells]; first | done | rfl) | rfl) rfl rfl (by first | (simp only [List.length_cons, List.length_nil, Nat.reduceAdd, Nat.zero_add, Nat.add_zero]; first | done | rfl) | rfl) (by first | (simp only [List.take_succ_cons, List.take_zero, List.drop_succ_cons, List.drop_zero, List.cons_append, List.nil_append, List.append_nil, List.length_cons, List.length_nil, Nat.reduceAdd, Nat.zero_add, Nat.add_zero, Value.cells, wrV]; first | done | rfl) | rfl) (by first | (simp only [List.set_cons_succ, List.set_cons_zero]; first | done | rfl) | rfl) ?_
    refine sx_assign rfl rfl ?_
    refine sx_nil (hZ _ _ ?_)
    refine awp_forget [(2, _), (3, _), (4, _)] (Kn.cons rfl (Kn.cons rfl (Kn.cons rfl (Kn.nil)))) ?_
    refine awp_ret ?_
    repeat (with_reducible refine nx_then_ret ?_)
    have hd : ¬ decE l = 0 := by simpa using h
    have e : cutE l = decE l := if_neg hd
    exact nx_ret3 rfl (ResOk.cell 2 rfl rfl tyA86 tyS86 rfl) (ResOk.cell 1 rfl rfl tyA87 tyS87 rfl) rfl (by rw [cutH, cutP, e, if_neg hd, if_neg hd]; rfl)
  refine awp_skip ?_
  with_reducible refine nx_normal ?_
  have hd : decE l = 0 := by simpa using h
  have hs := sec_of_check (decV_check' hd)
  refine awp_seq_region (fun Z hZ => ?_)
  refine sx_alloc tyZ87 rfl (fun g4 => ?_)
  refine sx_nil (hZ _ _ ?_)
  refine awp_forget [(0, _), (2, _), (3, _), (5, _), (7, _)] (Kn.cons rfl (Kn.cons rfl (Kn.cons rfl (Kn.cons rfl (Kn.cons rfl (Kn.nil)))))) ?_

  refine awp_seq ?_
  refine awp_seq_region (fun Z hZ => ?_)
  refine sx_fieldAddr rfl tyF86_0 (by first | (simp only [Nat.reduceAdd, Nat.add_zero, Nat.zero_add]; first | done | rfl) | rfl) rfl ?_
  refine sx_loadA 1 rfl rfl tyA84 tyS84 (by first | (simp only [List.length_cons, List.length_nil, Nat.reduceAdd, Nat.zero_add, Nat.add_zero]; first | done | rfl) | rfl) (by first | (simp only [List.take_succ_cons, List.take_zero, List.drop_succ_cons, List.drop_zero, List.cons_append, List.nil_append, List.append_nil, List.length_cons, List.length_nil, Nat.reduceAdd, Nat.zero_add, Nat.add_zero, Value.cells, wrV]; first | done | rfl) | rfl) rfl ?_
  refine sx_fieldAddr rfl tyF86_1 (by first | (simp only [Nat.reduceAdd, Nat.add_zero, Nat.zero_add]; first | done | rfl) | rfl) rfl ?_
  refine sx_loadA 1 rfl rfl tyA84 tyS84 (by first | (simp only [List.length_cons, List.length_nil, Nat.reduceAdd, Nat.zero_add, Nat.add_zero]; first | done | rfl) | rfl) (by first | (simp only [List.take_succ_cons, List.take_zero, List.drop_succ_cons, List.drop_zero, List.cons_append, List.nil_append, List.append_nil, List.length_cons, List.length_nil, Nat.reduceAdd, Nat.zero_add, Nat.add_zero, Value.cells, wrV]; first | done | rfl) | rfl) rfl ?_
  refine sx_fieldAddr rfl tyF86_2 (by first | (simp only [Nat.reduceAdd, Nat.add_zero, Nat.zero_add]; first | done | rfl) | rfl) rfl ?_
  refine sx_loadA 1 rfl rfl tyA84 tyS84 (by first | (simp only [List.length_cons, List.length_nil, Nat.reduceAdd, Nat.zero_add, Nat.add_zero]; first | done | rfl) | rfl) (by first | (simp only [List.take_succ_cons, List.take_zero, List.drop_succ_cons, List.drop_zero, List.cons_append, List.nil_append, List.append_nil, List.length_cons, List.length_nil, Nat.reduceAdd, Nat.zero_add, Nat.add_zero, Value.cells, wrV]; first | done | rfl) | rfl) rfl ?_
  refine sx_fieldAddr rfl tyF86_3 (by first | (simp only [Nat.reduceAdd, Nat.add_zero, Nat.zero_add]; first | done | rfl) | rfl) rfl ?_
  refine sx_loadA 1 rfl rfl tyA84 tyS84 (by first | (simp only [List.length_cons, List.length_nil, Nat.reduceAdd, Nat.zero_add, Nat.add_zero]; first | done | rfl) | rfl) (by first | (simp only [List.take_succ_cons, List.take_zero, List.drop_succ_cons, List.drop_zero, List.cons_append, List.nil_append, List.append_nil, List.length_cons, List.length_nil, Nat.reduceAdd, Nat.zero_add, Nat.add_zero, Value.cells, wrV]; first | done | rfl) | rfl) rfl ?_
  refine sx_buildA tyZ125 Tryz.underlying125 tyS84 rfl rfl (by first | (simp only [List.take_succ_cons, List.take_zero, List.drop_succ_cons, List.drop_zero, List.cons_append, List.nil_append, List.append_nil, List.length_cons, List.length_nil, Nat.reduceAdd, Nat.zero_add, Nat.add_zero, Value.cells, wrV, zrep_one, List.replicate_succ, List.replicate_zero, Nat.reduceMul, Nat.zero_mul]; first | done | rfl) | rfl) rfl ?_
  refine sx_move rfl rfl ?_
  refine sx_nil (hZ _ _ ?_)
  refine awp_forget [(0, _), (2, _), (3, _), (5, _), (7, _), (28, _), (29, _)] (Kn.cons rfl (Kn.cons rfl (Kn.cons rfl (Kn.cons rfl (Kn.cons rfl (Kn.cons rfl (Kn.cons rfl (Kn.nil)))))))) ?_
  refine awp_block ?_
  refine awp_loop (ι := Nat) (fun k => [(0, .string (str l)), (2, ptr g1 0), (3, ptr g2 0), (5, ptr g3 0), (7, ptr g4 0), (28, .agg (decV l).secs.toArray), (29, iq (k : Nat))]) (fun k => [.own g4 87 ((cutQ l).out k), .own g3 86 (decV l).cells, .own g2 87 [.string (str []), .string (str []), .string (str []), .string (str [])], .own g1 86 zeroH.cells])
    (fun k => k ≤ 4 ∧ ∀ j, j < k → inL l j = true) (fun k => 4 - k) 0 ⟨by omega, fun j h => by omega⟩ (Kn.cons rfl (Kn.cons rfl (Kn.cons rfl (Kn.cons rfl (Kn.cons rfl (Kn.cons rfl (Kn.cons rfl Kn.nil))))))) (HLe.refl _) ?_
  rintro k ⟨hk, hall⟩

  refine awp_seq_region (fun Z hZ => ?_)
  refine sx_lss rfl rfl rfl ?_
  refine sx_nil (hZ _ _ ?_)
  refine awp_forget [(0, _), (2, _), (3, _), (5, _), (7, _), (28, _), (29, _), (30, _)] (Kn.cons rfl (Kn.cons rfl (Kn.cons rfl (Kn.cons rfl (Kn.cons rfl (Kn.cons rfl (Kn.cons rfl (Kn.cons rfl (Kn.nil))))))))) ?_
  refine awp_seq (awp_cond rfl (fun hh => ?_) (fun hh => ?_))
  · have hlt : k < 4 := by simp at hh; omega
    have hft := h_fits hs k
    have hat := cutQ_at l hlt
    have hrd := h_rd (decV l) hlt
    have hpc : piece l k = (l.drop (hf (decV l) k)).take (hl (decV l) k) := rfl
    have hin : inL l k = decide (hf (decV l) k + hl (decV l) k ≤ l.length) := rfl
    generalize hf (decV l) k = F at hft hrd hpc hin
    generalize hl (decV l) k = L at hft hrd hpc hin
    have hend : IntKind.u64.wrap ((F : Int) + L) = ((F + L : Nat) : Int) := by rw [IntWalk.u64_in _ (by omega)]; omega
    refine awp_skip ?_
    with_reducible refine nx_normal ?_
    refine awp_seq (awp_block ?_)
    refine awp_seq_region (fun Z hZ => ?_)
    refine sx_move rfl rfl ?_
    refine sx_indexA Tryz.underlying125 tyA84 tyS84 rfl rfl (by omega) (by simpa using hrd) rfl ?_
    refine sx_alloc tyZ84 rfl (fun g5 => ?_)
    refine sx_assign rfl rfl ?_
    refine sx_store 0 rfl rfl rfl tyS84 (by first | (simp only [Value.cells]; first | done | rfl) | rfl) rfl rfl (by first | (simp only [List.length_cons, List.length_nil, Nat.reduceAdd, Nat.zero_add, Nat.add_zero]; first | done | rfl) | rfl) (by first | (simp only [List.take_succ_cons, List.take_zero, List.drop_succ_cons, List.drop_zero, List.cons_append, List.nil_append, List.append_nil, List.length_cons, List.length_nil, Nat.reduceAdd, Nat.zero_add, Nat.add_zero, Value.cells, wrV]; first | done | rfl) | rfl) (by first | (simp only [List.set_cons_succ, List.set_cons_zero]; first | done | rfl) | rfl) ?_
    refine sx_nil (hZ _ _ ?_)
    refine awp_forget [(0, _), (2, _), (3, _), (5, _), (7, _), (8, _), (9, _), (28, _), (29, _)] (Kn.cons rfl (Kn.cons rfl (Kn.cons rfl (Kn.cons rfl (Kn.cons rfl (Kn.cons rfl (Kn.cons rfl (Kn.cons rfl (Kn.cons rfl (Kn.nil)))))))))) ?_
    refine awp_seq ?_
    refine awp_seq_region (fun Z hZ => ?_)
    refine sx_loadA 0 rfl rfl tyA84 tyS84 (by first | (simp only [List.length_cons, List.length_nil, Nat.reduceAdd, Nat.zero_add, Nat.add_zero]; first | done | rfl) | rfl) (by first | (simp only [List.take_succ_cons, List.take_zero, List.drop_succ_cons, List.drop_zero, List.cons_append, List.nil_append, List.append_nil, List.length_cons, List.length_nil, Nat.reduceAdd, Nat.zero_add, Nat.add_zero, Value.cells, wrV]; first | done | rfl) | rfl) rfl ?_
    refine sx_callP (end_fn F L) rfl rfl ?_
    rw [hend]
    refine sx_move rfl rfl ?_
    refine sx_lenS Tryz.underlying9 rfl rfl ?_
    refine sx_conv Tryz.underlying3 Tryz.underlying38 rfl (((l.length : Nat)) : Int) (by rw [IntWalk.u64_in _ (by omega)]) rfl ?_
    refine sx_gtr rfl rfl rfl ?_
    refine sx_nil (hZ _ _ ?_)
    refine awp_forget [(0, _), (2, _), (3, _), (5, _), (7, _), (8, _), (9, _), (28, _), (29, _), (38, _)] (Kn.cons rfl (Kn.cons rfl (Kn.cons rfl (Kn.cons rfl (Kn.cons rfl (Kn.cons rfl (Kn.cons rfl (Kn.cons rfl (Kn.cons rfl (Kn.cons rfl (Kn.nil))))))))))) ?_
    refine awp_cond rfl (fun hf => ?_) (fun hf => ?_)
    · have hno : inL l k = false := by rw [hin]; simp at hf ⊢; omega

      refine awp_seq_region (fun Z hZ => ?_)
      refine sx_build tyZ86 tyP86 rfl rfl (by first | (simp only [List.take_succ_cons, List.take_zero, List.drop_succ_cons, List.drop_zero, List.cons_append, List.nil_append, List.append_nil, List.length_cons, List.length_nil, Nat.reduceAdd, Nat.zero_add, Nat.add_zero, Value.cells, wrV, zrep_one, List.replicate_succ, List.replicate_zero, Nat.reduceMul, Nat.zero_mul]; first | done | rfl) | rfl) rfl ?_
      refine sx_buildA tyZ87 Tryz.underlying87 tyS9 rfl rfl (by first | (simp only [List.take_succ_cons, List.take_zero, List.drop_succ_cons, List.drop_zero, List.cons_append, List.nil_append, List.append_nil, List.length_cons, List.length_nil, Nat.reduceAdd, Nat.zero_add, Nat.add_zero, Value.cells, wrV, zrep_one, List.replicate_succ, List.replicate_zero, Nat.reduceMul, Nat.zero_mul]; first | done | rfl) | rfl) rfl ?_
      refine sx_store 4 rfl rfl rfl tyS86 (by first | (simp only [Value.cells]; first | done | rfl) | rfl) rfl rfl (by first | (simp only [List.length_cons, List.length_nil, Nat.reduceAdd, Nat.zero_add, Nat.add_zero]; first | done | rfl) | rfl) (by first | (simp only [List.take_succ_cons, List.take_zero, List.drop_succ_cons, List.drop_zero, List.cons_append, List.nil_append, List.append_nil, List.length_cons, List.length_nil, Nat.reduceAdd, Nat.zero_add, Nat.add_zero, Value.cells, wrV]; first | done | rfl) | rfl) (by first | (simp only [List.set_cons_succ, List.set_cons_zero]; first | done | rfl) | rfl) ?_
      refine sx_store 3 rfl rfl rfl tyS87 (by first | (simp only [Value.cells]; first | done | rfl) | rfl) rfl rfl (by first | (simp only [List.length_cons, List.length_nil, Nat.reduceAdd, Nat.zero_add, Nat.add_zero]; first | done | rfl) | rfl) (by first | (simp only [List.take_succ_cons, List.take_zero, List.drop_succ_cons, List.drop_zero, List.cons_append, List.nil_append, List.append_nil, List.length_cons, List.length_nil, Nat.reduceAdd, Nat.zero_add, Nat.add_zero, Value.cells, wrV]; first | done | rfl) | rfl) (by first | (simp only [List.set_cons_succ, List.set_cons_zero]; first | done | rfl) | rfl) ?_
      refine sx_assign rfl rfl ?_
      refine sx_nil (hZ _ _ ?_)
      refine awp_forget [(2, _), (3, _), (4, _)] (Kn.cons rfl (Kn.cons rfl (Kn.cons rfl (Kn.nil)))) ?_
      refine awp_ret ?_
      repeat (with_reducible (first | refine nx_then_ret ?_ | refine nx_block_ret ?_))
      have e := cut_no hd hlt hno
      exact nx_ret3 rfl (ResOk.cell 4 rfl rfl tyA86 tyS86 rfl) (ResOk.cell 3 rfl rfl tyA87 tyS87 rfl) rfl (by rw [cutH, cutP, e]; rfl)
    refine awp_skip ?_
    with_reducible refine nx_normal ?_
    have hfit : F + L ≤ l.length := by simp at hf; omega

    refine aww_region _ [(0, true), (1, true), (2, true), (3, true), (4, true), (5, false), (6, true), (7, true), (8, false)] mixed (by kernel_rfl) (HLe.pick [0] (by simp) (by simp only [pick, List.filterMap_cons, List.filterMap_nil, List.getElem?_cons_succ, List.getElem?_cons_zero]; rfl)) (fun Z hZ => ?_)
    refine tw_p rfl ?_
    refine sv_move rfl rfl ?_
    refine sv_nil ?_
    refine tw_p rfl ?_
    refine sv_move rfl rfl ?_
    refine sv_nil ?_
    refine tw_p rfl ?_
    refine sv_fieldAddr rfl tyF84_0 (by first | (simp only [Nat.reduceAdd, Nat.add_zero, Nat.zero_add]; first | done | rfl) | rfl) rfl ?_
    refine sv_nil ?_
    refine tw_p rfl ?_
    first | refine sv_load 0 rfl rfl tyA38 tyS38 rfl rfl ?_
    refine sv_nil ?_
    refine tw_p rfl ?_
    first | refine sv_loadA 0 rfl rfl tyA84 tyS84 (by first | (simp only [List.length_cons, List.length_nil, Nat.reduceAdd, Nat.zero_add, Nat.add_zero]; first | done | rfl) | rfl) (by first | (simp only [List.take_succ_cons, List.take_zero, List.drop_succ_cons, List.drop_zero, List.cons_append, List.nil_append, List.append_nil, List.length_cons, List.length_nil, Nat.reduceAdd, Nat.zero_add, Nat.add_zero, Value.cells, wrV]; first | done | rfl) | rfl) rfl ?_
    refine sv_nil ?_
    refine tw_g rfl ?_
    refine sx_callP (end_fn F L) rfl rfl ?_
    rw [hend]
    refine sx_nil ⟨HLe.pick [0] (by simp) rfl, ?_⟩
    refine tw_p rfl ?_
    refine sv_sliceS (piece l k) Tryz.underlying9 rfl rfl rfl (by omega) (by omega) (by omega) (by rw [hpc]; show (l.drop F).take (F + L - F) = _; rw [Nat.add_sub_cancel_left]) rfl ?_
    refine sv_nil ?_
    refine tw_p rfl ?_
    refine sv_indexAddrA k Tryz.underlying87 tyS9 rfl rfl (by omega) (by simp) rfl ?_
    refine sv_nil ?_
    refine tw_g rfl ?_
    refine sx_store1 1 (cs' := (cutQ l).out (k + 1)) rfl rfl rfl tyS9 rfl (by rw [P4.out_len]; exact Nat.ble_eq_true_of_le (by omega)) (by rw [← hat]; exact P4.out_wr _ hlt) (by simp only [List.set_cons_succ, List.set_cons_zero]; rfl) ?_
    refine sx_nil ⟨HLe.pick [0] (by simp) rfl, ?_⟩
    refine tw_nil (hZ _ _ ?_)
    refine nx_forget [(0, _), (2, _), (3, _), (5, _), (7, _), (28, _), (29, _)] (Kn.cons rfl (Kn.cons rfl (Kn.cons rfl (Kn.cons rfl (Kn.cons rfl (Kn.cons rfl (Kn.cons rfl (Kn.nil)))))))) ?_
    repeat (with_reducible refine nx_block_normal ?_)
    with_reducible refine nx_normal ?_
    refine awp_region (fun Z hZ => ?_)
    refine sx_add rfl rfl ((k + 1 : Nat) : Int) (by rw [IntWalk.i64_in _ (by omega)]; omega) rfl ?_
    refine sx_move rfl rfl ?_
    refine sx_nil (hZ _ _ ?_)
    refine nx_forget [(0, _), (2, _), (3, _), (5, _), (7, _), (28, _), (29, _)] (Kn.cons rfl (Kn.cons rfl (Kn.cons rfl (Kn.cons rfl (Kn.cons rfl (Kn.cons rfl (Kn.cons rfl (Kn.nil)))))))) ?_
    refine nx_round (k + 1) ⟨by omega, fun j hj => ?_⟩ (by omega) (Kn.cons rfl (Kn.cons rfl (Kn.cons rfl (Kn.cons rfl (Kn.cons rfl (Kn.cons rfl (Kn.cons rfl Kn.nil))))))) (HLe.pick [1, 2, 3, 4] (by simp) rfl)
    rcases Nat.lt_or_ge j k with hj' | hj'
    · exact hall j hj'
    · obtain rfl : j = k := by omega
      rw [hin]; simpa using hfit
  · refine awp_exit ?_
    repeat (with_reducible refine nx_then_exit ?_)
    with_reducible refine nx_block_exit ?_
    with_reducible refine nx_normal ?_
    have hke : k = 4 := by simp at hh; omega
    subst hke
    have e := cut_yes hd hall

    refine aww_seq_region _ [(0, true), (1, true), (2, false), (3, false), (4, true)] mixed (by kernel_rfl) (HLe.pick [0, 1] (by simp) (by simp only [pick, List.filterMap_cons, List.filterMap_nil, List.getElem?_cons_succ, List.getElem?_cons_zero]; rfl)) (fun Z hZ => ?_)
    refine tw_p rfl ?_
    refine sv_loadA 1 rfl rfl tyA86 tyS86 (by first | (simp only [List.length_cons, List.length_nil, Nat.reduceAdd, Nat.zero_add, Nat.add_zero]; first | done | rfl) | rfl) (by first | (simp only [List.take_succ_cons, List.take_zero, List.drop_succ_cons, List.drop_zero, List.cons_append, List.nil_append, List.append_nil, List.length_cons, List.length_nil, Nat.reduceAdd, Nat.zero_add, Nat.add_zero, Value.cells, wrV]; first | done | rfl) | rfl) rfl ?_
    refine sv_nil ?_
    refine tw_p rfl ?_
    refine sv_loadA 0 rfl rfl tyA87 tyS87 rfl rfl rfl ?_
    refine sv_nil ?_
    refine tw_g rfl ?_
    refine sx_store 3 rfl rfl rfl tyS86 (by first | (simp only [Value.cells]; first | done | rfl) | rfl) rfl rfl (by first | (simp only [List.length_cons, List.length_nil, Nat.reduceAdd, Nat.zero_add, Nat.add_zero]; first | done | rfl) | rfl) (by first | (simp only [List.take_succ_cons, List.take_zero, List.drop_succ_cons, List.drop_zero, List.cons_append, List.nil_append, List.append_nil, List.length_cons, List.length_nil, Nat.reduceAdd, Nat.zero_add, Nat.add_zero, Value.cells, wrV]; first | done | rfl) | rfl) (by first | (simp only [List.set_cons_succ, List.set_cons_zero]; first | done | rfl) | rfl) ?_
    refine sx_nil ⟨HLe.pick [0, 1] (by simp) rfl, ?_⟩
    refine tw_g rfl ?_
    refine sx_store 2 rfl rfl rfl tyS87 rfl rfl rfl rfl (cs' := (cutQ l).out 4) rfl rfl ?_
    refine sx_nil ⟨HLe.pick [0, 1] (by simp) rfl, ?_⟩
    refine tw_p rfl ?_
    refine sv_assign rfl rfl ?_
    refine sv_nil ?_
    refine tw_nil (hZ _ _ ?_)
    refine awp_forget [(2, _), (3, _), (4, _)] (Kn.cons rfl (Kn.cons rfl (Kn.cons rfl (Kn.nil)))) ?_
    refine awp_ret ?_
    exact nx_ret3 rfl (ResOk.cell 3 rfl rfl tyA86 tyS86 rfl) (ResOk.cell 2 rfl rfl tyA87 tyS87 rfl) rfl (by rw [cutH, cutP, e]; rfl)
end Go.Proofs.YtahmhcmfeloclaaGreat.Y

namespace Go.Proofs.YtahmhcmfeloclaaGreat.Y
open Go.RowKit
set_option linter.unusedVariables false
set_option linter.unusedSimpArgs false
theorem h_rd1 (h : Hdr) {k : Nat} (hk : k < 4) : rdV false 1 h.secs (k * 2) = some (uq (hf h k)) ∧ rdV false 1 h.secs (k * 2 + 1) = some (uq (hl h k)) := by obtain rfl | rfl | rfl | rfl := four hk <;> exact ⟨rfl, rfl⟩
theorem rcut_fn (l : List UInt8) (hl0 : l.length ≤ 100000) : Fn Tryz.prog 42 [.string (str l)] [] fun v _ => v = .tuple #[(cutH l).val, .agg (cutP l).cells.toArray, iq (cutE l)] := by
  refine Fn.enter (N := 67) Tryz.func42 rfl (by kernel_rfl) rfl (fun w0 => ?_)

  refine awp_seq_region (fun Z hZ => ?_)
  refine sx_alloc tyZ101 rfl (fun g1 => ?_)
  refine sx_alloc tyZ87 rfl (fun g2 => ?_)
  refine sx_assign rfl rfl ?_
  refine sx_nil (hZ _ _ ?_)
  refine awp_forget [(0, _), (2, _), (3, _)] (Kn.cons rfl (Kn.cons rfl (Kn.cons rfl (Kn.nil)))) ?_
  refine awp_seq_region (fun Z hZ => ?_)
  refine sx_move rfl rfl ?_
  refine sx_callP (rdecode_fn l (by omega)) rfl rfl ?_
  refine sx_move rfl rfl ?_
  refine sx_extract rfl rfl rfl ?_
  refine sx_extract rfl rfl rfl ?_
  refine sx_alloc tyZ101 rfl (fun g3 => ?_)
  refine sx_store 0 rfl rfl rfl tyS101 (by first | (simp only [Value.cells]; first | done | rfl) | rfl) rfl rfl (by first | (simp only [List.length_cons, List.length_nil, Nat.reduceAdd, Nat.zero_add, Nat.add_zero]; first | done | rfl) | rfl) (by first | (simp only [List.take_succ_cons, List.take_zero, List.drop_succ_cons, List.drop_zero, List.cons_append, List.nil_append, List.append_nil, List.length_cons, List.length_nil, Nat.reduceAdd, Nat.zero_add, Nat.add_zero, Value.cells, wrV]; first | done | rfl) | rfl) (by first | (simp only [List.set_cons_succ, List.set_cons_zero]; first | done | rfl) | rfl) ?_
  refine sx_assign rfl rfl ?_
  refine sx_nil (hZ _ _ ?_)
  refine awp_forget [(0, _), (2, _), (3, _), (5, _), (6, _)] (Kn.cons rfl (Kn.cons rfl (Kn.cons rfl (Kn.cons rfl (Kn.cons rfl (Kn.nil)))))) ?_
  refine awp_seq ?_
  refine awp_seq_region (fun Z hZ => ?_)
  refine sx_move rfl rfl ?_
  refine sx_neq rfl rfl rfl ?_
  refine sx_nil (hZ _ _ ?_)
  refine awp_forget [(0, _), (2, _), (3, _), (5, _), (6, _), (16, _)] (Kn.cons rfl (Kn.cons rfl (Kn.cons rfl (Kn.cons rfl (Kn.cons rfl (Kn.cons rfl (Kn.nil))))))) ?_
  refine awp_cond rfl (fun h => ?_) (fun h => ?_)
  · skip
    refine awp_seq_region (fun Z hZ => ?_)
    refine sx_build tyZ101 tyP101 rfl rfl (by first | (simp only [List.take_succ_cons, List.take_zero, List.drop_succ_cons, List.drop_zero, List.cons_append, List.nil_append, List.append_nil, List.length_cons, List.length_nil, Nat.reduceAdd, Nat.zero_add, Nat.add_zero, Value.cells, wrV, zrep_one, List.replicate_succ, List.replicate_zero, Nat.reduceMul, Nat.zero_mul]; first | done | rfl) | rfl) rfl ?_
    refine sx_buildA tyZ87 Tryz.underlying87 tyS9 rfl rfl (by first | (simp only [List.take_succ_cons, List.take_zero, List.drop_succ_cons, List.drop_zero, List.cons_append, List.nil_append, List.append_nil, List.length_cons, List.length_nil, Nat.reduceAdd, Nat.zero_add, Nat.add_zero, Value.cells, wrV, zrep_one, List.replicate_succ, List.replicate_zero, Nat.reduceMul, Nat.zero_mul]; first | done | rfl) | rfl) rfl ?_
    refine sx_move rfl rfl ?_
    refine sx_store 2 rfl rfl rfl tyS101 (by first | (simp only [Value.cells]; first | done | rfl) | rfl) rfl rfl (by first | (simp only [List.length_cons, List.length_nil, Nat.reduceAdd, Nat.zero_add, Nat.add_zero]; first | done | rfl) | rfl) (by first | (simp only [List.take_succ_cons, List.take_zero, List.drop_succ_cons, List.drop_zero, List.cons_append, List.nil_append, List.append_nil, List.length_cons, List.length_nil, Nat.reduceAdd, Nat.zero_add, Nat.add_zero, Value.cells, wrV]; first | done | rfl) | rfl) (by first | (simp only [List.set_cons_succ, List.set_cons_zero]; first | done | rfl) | rfl) ?_
    refine sx_store 1 rfl rfl rfl tyS87 (by first | (simp only [Value.cells]; first | done | rfl) | rfl) rfl rfl (by first | (simp only [List.length_cons, List.length_nil, Nat.reduceAdd, Nat.zero_add, Nat.add_zero]; first | done | rfl) | rfl) (by first | (simp only [List.take_succ_cons, List.take_zero, List.drop_succ_cons, List.drop_zero, List.cons_append, List.nil_append, List.append_nil, List.length_cons, List.length_nil, Nat.reduceAdd, Nat.zero_add, Nat.add_zero, Value.cells, wrV]; first | done | rfl) | rfl) (by first | (simp only [List.set_cons_succ, List.set_cons_zero]; first | done | rfl) | rfl) ?_
    refine sx_assign rfl rfl ?_
    refine sx_nil (hZ _ _ ?_)
    refine awp_forget [(2, _), (3, _), (4, _)] (Kn.cons rfl (Kn.cons rfl (Kn.cons rfl (Kn.nil)))) ?_
    refine awp_ret ?_
    repeat (with_reducible refine nx_then_ret ?_)
    have hd : ¬ decE l = 0 := by simpa using h
    have e : cutE l = decE l := if_neg hd
    exact nx_ret3 rfl (ResOk.cell 2 rfl rfl tyA101 tyS101 rfl) (ResOk.cell 1 rfl rfl tyA87 tyS87 rfl) rfl (by rw [cutH, cutP, e, if_neg hd, if_neg hd]; rfl)
  refine awp_skip ?_
  with_reducible refine nx_normal ?_
  have hd : decE l = 0 := by simpa using h
  have hs := sec_of_check (decV_check' hd)

  refine awp_seq_region (fun Z hZ => ?_)
  refine sx_fieldAddr rfl tyF101_0 (by first | (simp only [Nat.reduceAdd, Nat.add_zero, Nat.zero_add]; first | done | rfl) | rfl) rfl ?_
  refine sx_loadA 0 rfl rfl tyA99 tyS99 (by first | (simp only [List.length_cons, List.length_nil, Nat.reduceAdd, Nat.zero_add, Nat.add_zero]; first | done | rfl) | rfl) (by first | (simp only [List.take_succ_cons, List.take_zero, List.drop_succ_cons, List.drop_zero, List.cons_append, List.nil_append, List.append_nil, List.length_cons, List.length_nil, Nat.reduceAdd, Nat.zero_add, Nat.add_zero, Value.cells, wrV]; first | done | rfl) | rfl) rfl ?_
  refine sx_fieldAddr rfl tyF101_1 (by first | (simp only [Nat.reduceAdd, Nat.add_zero, Nat.zero_add]; first | done | rfl) | rfl) rfl ?_
  refine sx_loadA 0 rfl rfl tyA99 tyS99 (by first | (simp only [List.length_cons, List.length_nil, Nat.reduceAdd, Nat.zero_add, Nat.add_zero]; first | done | rfl) | rfl) (by first | (simp only [List.take_succ_cons, List.take_zero, List.drop_succ_cons, List.drop_zero, List.cons_append, List.nil_append, List.append_nil, List.length_cons, List.length_nil, Nat.reduceAdd, Nat.zero_add, Nat.add_zero, Value.cells, wrV]; first | done | rfl) | rfl) rfl ?_
  refine sx_fieldAddr rfl tyF101_2 (by first | (simp only [Nat.reduceAdd, Nat.add_zero, Nat.zero_add]; first | done | rfl) | rfl) rfl ?_
  refine sx_loadA 0 rfl rfl tyA99 tyS99 (by first | (simp only [List.length_cons, List.length_nil, Nat.reduceAdd, Nat.zero_add, Nat.add_zero]; first | done | rfl) | rfl) (by first | (simp only [List.take_succ_cons, List.take_zero, List.drop_succ_cons, List.drop_zero, List.cons_append, List.nil_append, List.append_nil, List.length_cons, List.length_nil, Nat.reduceAdd, Nat.zero_add, Nat.add_zero, Value.cells, wrV]; first | done | rfl) | rfl) rfl ?_
  refine sx_fieldAddr rfl tyF101_3 (by first | (simp only [Nat.reduceAdd, Nat.add_zero, Nat.zero_add]; first | done | rfl) | rfl) rfl ?_
  refine sx_loadA 0 rfl rfl tyA99 tyS99 (by first | (simp only [List.length_cons, List.length_nil, Nat.reduceAdd, Nat.zero_add, Nat.add_zero]; first | done | rfl) | rfl) (by first | (simp only [List.take_succ_cons, List.take_zero, List.drop_succ_cons, List.drop_zero, List.cons_append, List.nil_append, List.append_nil, List.length_cons, List.length_nil, Nat.reduceAdd, Nat.zero_add, Nat.add_zero, Value.cells, wrV]; first | done | rfl) | rfl) rfl ?_
  refine sx_buildA tyZ139 Tryz.underlying139 tyS99 rfl rfl (by first | (simp only [List.take_succ_cons, List.take_zero, List.drop_succ_cons, List.drop_zero, List.cons_append, List.nil_append, List.append_nil, List.length_cons, List.length_nil, Nat.reduceAdd, Nat.zero_add, Nat.add_zero, Value.cells, wrV, zrep_one, List.replicate_succ, List.replicate_zero, Nat.reduceMul, Nat.zero_mul]; first | done | rfl) | rfl) rfl ?_
  refine sx_alloc tyZ139 rfl (fun g4 => ?_)
  refine sx_store 0 rfl rfl rfl tyS139 (by first | (simp only [Value.cells]; first | done | rfl) | rfl) rfl rfl (by first | (simp only [List.length_cons, List.length_nil, Nat.reduceAdd, Nat.zero_add, Nat.add_zero]; first | done | rfl) | rfl) (by first | (simp only [List.take_succ_cons, List.take_zero, List.drop_succ_cons, List.drop_zero, List.cons_append, List.nil_append, List.append_nil, List.length_cons, List.length_nil, Nat.reduceAdd, Nat.zero_add, Nat.add_zero, Value.cells, wrV]; first | done | rfl) | rfl) (by first | (simp only [List.set_cons_succ, List.set_cons_zero]; first | done | rfl) | rfl) ?_
  refine sx_nil (hZ _ _ ?_)
  refine awp_forget [(0, _), (2, _), (3, _), (5, _), (7, _)] (Kn.cons rfl (Kn.cons rfl (Kn.cons rfl (Kn.cons rfl (Kn.cons rfl (Kn.nil)))))) ?_
  refine awp_seq_region (fun Z hZ => ?_)
  refine sx_alloc tyZ87 rfl (fun g5 => ?_)
  refine sx_nil (hZ _ _ ?_)
  refine awp_forget [(0, _), (2, _), (3, _), (5, _), (7, _), (8, _)] (Kn.cons rfl (Kn.cons rfl (Kn.cons rfl (Kn.cons rfl (Kn.cons rfl (Kn.cons rfl (Kn.nil))))))) ?_
  refine awp_seq ?_
  refine awp_seq_region (fun Z hZ => ?_)
  refine sx_assign rfl rfl ?_
  refine sx_nil (hZ _ _ ?_)
  refine awp_forget [(0, _), (2, _), (3, _), (5, _), (7, _), (8, _), (9, _)] (Kn.cons rfl (Kn.cons rfl (Kn.cons rfl (Kn.cons rfl (Kn.cons rfl (Kn.cons rfl (Kn.cons rfl (Kn.nil)))))))) ?_
  refine awp_block ?_
  refine awp_loop (ι := Nat) (fun k => [(0, .string (str l)), (2, ptr g1 0), (3, ptr g2 0), (5, ptr g3 0), (7, ptr g4 0), (8, ptr g5 0), (9, iq (k : Nat))]) (fun k => [.own g5 87 ((cutQ l).out k), .own g4 139 (decV l).secs, .own g3 101 (decV l).cells, .own g2 87 [.string (str []), .string (str []), .string (str []), .string (str [])], .own g1 101 zeroH.cells])
    (fun k => k ≤ 4 ∧ ∀ j, j < k → inL l j = true) (fun k => 4 - k) 0 ⟨by omega, fun j h => by omega⟩ (Kn.cons rfl (Kn.cons rfl (Kn.cons rfl (Kn.cons rfl (Kn.cons rfl (Kn.cons rfl (Kn.cons rfl Kn.nil))))))) (HLe.refl _) ?_
  rintro k ⟨hk, hall⟩

  refine awp_seq ?_
  refine awp_seq_region (fun Z hZ => ?_)
  refine sx_move rfl rfl ?_
  refine sx_lss rfl rfl rfl ?_
  refine sx_nil (hZ _ _ ?_)
  refine awp_forget [(0, _), (2, _), (3, _), (5, _), (7, _), (8, _), (9, _), (30, _)] (Kn.cons rfl (Kn.cons rfl (Kn.cons rfl (Kn.cons rfl (Kn.cons rfl (Kn.cons rfl (Kn.cons rfl (Kn.cons rfl (Kn.nil))))))))) ?_
  refine awp_cond rfl (fun hh => ?_) (fun hh => ?_)
  · have hlt : k < 4 := by simp at hh; omega
    have hft := h_fits hs k
    have hat := cutQ_at l hlt
    obtain ⟨hrd0, hrd1⟩ := h_rd1 (decV l) hlt
    have hpc : piece l k = (l.drop (hf (decV l) k)).take (hl (decV l) k) := rfl
    have hin : inL l k = decide (hf (decV l) k + hl (decV l) k ≤ l.length) := rfl
    generalize hf (decV l) k = F at hft hrd0 hpc hin
    generalize hl (decV l) k = L at hft hrd1 hpc hin
    have hend : IntKind.u64.wrap ((F : Int) + L) = ((F + L : Nat) : Int) := by rw [IntWalk.u64_in _ (by omega)]; omega
    refine awp_skip ?_
    with_reducible refine nx_normal ?_
    refine awp_seq (awp_block ?_)
    refine awp_seq ?_
    refine awq_seq_region mixed (by kernel_rfl) (fun Z hZ => ?_)
    refine sq_move rfl rfl ?_
    refine sq_indexAddrA (k * 2) Tryz.underlying139 tyS99 rfl rfl (by omega) (by simp) rfl ?_
    refine sq_fieldAddr rfl tyF99_0 (by first | (simp only [Nat.reduceAdd, Nat.add_zero, Nat.zero_add]; first | done | rfl) | rfl) rfl ?_
    refine sq_load 1 rfl rfl tyA38 tyS38 hrd0 rfl ?_
    refine sq_move rfl rfl ?_
    refine sq_indexAddrA (k * 2) Tryz.underlying139 tyS99 rfl rfl (by omega) (by simp) rfl ?_
    refine sq_fieldAddr rfl tyF99_1 (by first | (simp only [Nat.reduceAdd, Nat.add_zero, Nat.zero_add]; first | done | rfl) | rfl) rfl ?_
    refine sq_load 1 rfl rfl tyA38 tyS38 hrd1 rfl ?_
    refine sq_add rfl rfl ((F + L : Nat) : Int) hend rfl ?_
    refine sq_move rfl rfl ?_
    refine sq_lenS Tryz.underlying9 rfl rfl ?_
    refine sq_conv Tryz.underlying3 Tryz.underlying38 rfl (((l.length : Nat)) : Int) (by rw [IntWalk.u64_in _ (by omega)]) rfl ?_
    refine sq_gtr rfl rfl rfl ?_
    refine sq_nil (hZ _ _ ?_)
    refine awp_forget [(0, _), (2, _), (3, _), (5, _), (7, _), (8, _), (9, _), (45, _)] (Kn.cons rfl (Kn.cons rfl (Kn.cons rfl (Kn.cons rfl (Kn.cons rfl (Kn.cons rfl (Kn.cons rfl (Kn.cons rfl (Kn.nil))))))))) ?_
    refine awp_cond rfl (fun hf => ?_) (fun hf => ?_)
    · have hno : inL l k = false := by rw [hin]; simp at hf ⊢; omega

      refine awp_seq_region (fun Z hZ => ?_)
      refine sx_build tyZ101 tyP101 rfl rfl (by first | (simp only [List.take_succ_cons, List.take_zero, List.drop_succ_cons, List.drop_zero, List.cons_append, List.nil_append, List.append_nil, List.length_cons, List.length_nil, Nat.reduceAdd, Nat.zero_add, Nat.add_zero, Value.cells, wrV, zrep_one, List.replicate_succ, List.replicate_zero, Nat.reduceMul, Nat.zero_mul]; first | done | rfl) | rfl) rfl ?_
      refine sx_buildA tyZ87 Tryz.underlying87 tyS9 rfl rfl (by first | (simp only [List.take_succ_cons, List.take_zero, List.drop_succ_cons, List.drop_zero, List.cons_append, List.nil_append, List.append_nil, List.length_cons, List.length_nil, Nat.reduceAdd, Nat.zero_add, Nat.add_zero, Value.cells, wrV, zrep_one, List.replicate_succ, List.replicate_zero, Nat.reduceMul, Nat.zero_mul]; first | done | rfl) | rfl) rfl ?_
      refine sx_store 4 rfl rfl rfl tyS101 (by first | (simp only [Value.cells]; first | done | rfl) | rfl) rfl rfl (by first | (simp only [List.length_cons, List.length_nil, Nat.reduceAdd, Nat.zero_add, Nat.add_zero]; first | done | rfl) | rfl) (by first | (simp only [List.take_succ_cons, List.take_zero, List.drop_succ_cons, List.drop_zero, List.cons_append, List.nil_append, List.append_nil, List.length_cons, List.length_nil, Nat.reduceAdd, Nat.zero_add, Nat.add_zero, Value.cells, wrV]; first | done | rfl) | rfl) (by first | (simp only [List.set_cons_succ, List.set_cons_zero]; first | done | rfl) | rfl) ?_
      refine sx_store 3 rfl rfl rfl tyS87 (by first | (simp only [Value.cells]; first | done | rfl) | rfl) rfl rfl (by first | (simp only [List.length_cons, List.length_nil, Nat.reduceAdd, Nat.zero_add, Nat.add_zero]; first | done | rfl) | rfl) (by first | (simp only [List.take_succ_cons, List.take_zero, List.drop_succ_cons, List.drop_zero, List.cons_append, List.nil_append, List.append_nil, List.length_cons, List.length_nil, Nat.reduceAdd, Nat.zero_add, Nat.add_zero, Value.cells, wrV]; first | done | rfl) | rfl) (by first | (simp only [List.set_cons_succ, List.set_cons_zero]; first | done | rfl) | rfl) ?_
      refine sx_assign rfl rfl ?_
      refine sx_nil (hZ _ _ ?_)
      refine awp_forget [(2, _), (3, _), (4, _)] (Kn.cons rfl (Kn.cons rfl (Kn.cons rfl (Kn.nil)))) ?_
      refine awp_ret ?_
      repeat (with_reducible (first | refine nx_then_ret ?_ | refine nx_block_ret ?_))
      have e := cut_no hd hlt hno
      exact nx_ret3 rfl (ResOk.cell 4 rfl rfl tyA101 tyS101 rfl) (ResOk.cell 3 rfl rfl tyA87 tyS87 rfl) rfl (by rw [cutH, cutP, e]; rfl)
    refine awp_skip ?_
    with_reducible refine nx_normal ?_
    have hfit : F + L ≤ l.length := by simp at hf; omega

    refine aww_region _ [(0, true), (1, true), (2, true), (3, true), (4, true), (5, true), (6, true), (7, true), (8, true), (9, true), (10, true), (11, true), (12, true), (13, true), (14, true), (15, true), (16, true), (17, false)] mixed (by kernel_rfl) (HLe.pick [1] (by simp) (by simp only [pick, List.filterMap_cons, List.filterMap_nil, List.getElem?_cons_succ, List.getElem?_cons_zero]; rfl)) (fun Z hZ => ?_)
    refine tw_p rfl ?_
    refine sv_move rfl rfl ?_
    refine sv_nil ?_
    refine tw_p rfl ?_
    refine sv_move rfl rfl ?_
    refine sv_nil ?_
    refine tw_p rfl ?_
    refine sv_move rfl rfl ?_
    refine sv_nil ?_
    refine tw_p rfl ?_
    refine sv_indexAddrA (k * 2) Tryz.underlying139 tyS99 rfl rfl (by omega) (by simp) rfl ?_
    refine sv_nil ?_
    refine tw_p rfl ?_
    refine sv_fieldAddr rfl tyF99_0 (by first | (simp only [Nat.reduceAdd, Nat.add_zero, Nat.zero_add]; first | done | rfl) | rfl) rfl ?_
    refine sv_nil ?_
    refine tw_p rfl ?_
    refine sv_load 0 rfl rfl tyA38 tyS38 hrd0 rfl ?_
    refine sv_nil ?_
    refine tw_p rfl ?_
    refine sv_move rfl rfl ?_
    refine sv_nil ?_
    refine tw_p rfl ?_
    refine sv_indexAddrA (k * 2) Tryz.underlying139 tyS99 rfl rfl (by omega) (by simp) rfl ?_
    refine sv_nil ?_
    refine tw_p rfl ?_
    refine sv_fieldAddr rfl tyF99_0 (by first | (simp only [Nat.reduceAdd, Nat.add_zero, Nat.zero_add]; first | done | rfl) | rfl) rfl ?_
    refine sv_nil ?_
    refine tw_p rfl ?_
    refine sv_load 0 rfl rfl tyA38 tyS38 hrd0 rfl ?_
    refine sv_nil ?_
    refine tw_p rfl ?_
    refine sv_move rfl rfl ?_
    refine sv_nil ?_
    refine tw_p rfl ?_
    refine sv_indexAddrA (k * 2) Tryz.underlying139 tyS99 rfl rfl (by omega) (by simp) rfl ?_
    refine sv_nil ?_
    refine tw_p rfl ?_
    refine sv_fieldAddr rfl tyF99_1 (by first | (simp only [Nat.reduceAdd, Nat.add_zero, Nat.zero_add]; first | done | rfl) | rfl) rfl ?_
    refine sv_nil ?_
    refine tw_p rfl ?_
    refine sv_load 0 rfl rfl tyA38 tyS38 hrd1 rfl ?_
    refine sv_nil ?_
    refine tw_p rfl ?_
    refine sv_add rfl rfl ((F + L : Nat) : Int) hend rfl ?_
    refine sv_nil ?_
    refine tw_p rfl ?_
    refine sv_sliceS (piece l k) Tryz.underlying9 rfl rfl rfl (by omega) (by omega) (by omega) (by rw [hpc]; show (l.drop F).take (F + L - F) = _; rw [Nat.add_sub_cancel_left]) rfl ?_
    refine sv_nil ?_
    refine tw_p rfl ?_
    refine sv_indexAddrA k Tryz.underlying87 tyS9 rfl rfl (by omega) (by simp) rfl ?_
    refine sv_nil ?_
    refine tw_g rfl ?_
    refine sx_store1 0 (cs' := (cutQ l).out (k + 1)) rfl rfl rfl tyS9 rfl (by rw [P4.out_len]; exact Nat.ble_eq_true_of_le (by omega)) (by rw [← hat]; exact P4.out_wr _ hlt) (by simp only [List.set_cons_succ, List.set_cons_zero]; rfl) ?_
    refine sx_nil ⟨HLe.pick [1] (by simp) rfl, ?_⟩
    refine tw_nil (hZ _ _ ?_)
    refine nx_forget [(0, _), (2, _), (3, _), (5, _), (7, _), (8, _), (9, _)] (Kn.cons rfl (Kn.cons rfl (Kn.cons rfl (Kn.cons rfl (Kn.cons rfl (Kn.cons rfl (Kn.cons rfl (Kn.nil)))))))) ?_
    repeat (with_reducible refine nx_block_normal ?_)
    with_reducible refine nx_normal ?_
    refine awp_region (fun Z hZ => ?_)
    refine sx_move rfl rfl ?_
    refine sx_add rfl rfl ((k + 1 : Nat) : Int) (by rw [IntWalk.i64_in _ (by omega)]; omega) rfl ?_
    refine sx_assign rfl rfl ?_
    refine sx_nil (hZ _ _ ?_)
    refine nx_forget [(0, _), (2, _), (3, _), (5, _), (7, _), (8, _), (9, _)] (Kn.cons rfl (Kn.cons rfl (Kn.cons rfl (Kn.cons rfl (Kn.cons rfl (Kn.cons rfl (Kn.cons rfl (Kn.nil)))))))) ?_
    refine nx_round (k + 1) ⟨by omega, fun j hj => ?_⟩ (by omega) (Kn.cons rfl (Kn.cons rfl (Kn.cons rfl (Kn.cons rfl (Kn.cons rfl (Kn.cons rfl (Kn.cons rfl Kn.nil))))))) (HLe.refl _)
    rcases Nat.lt_or_ge j k with hj' | hj'
    · exact hall j hj'
    · obtain rfl : j = k := by omega
      rw [hin]; simpa using hfit
  · refine awp_exit ?_
    repeat (with_reducible refine nx_then_exit ?_)
    with_reducible refine nx_block_exit ?_
    with_reducible refine nx_normal ?_
    have hke : k = 4 := by simp at hh; omega
    subst hke
    have e := cut_yes hd hall

    refine aww_seq_region _ [(0, true), (1, true), (2, false), (3, false), (4, true)] mixed (by kernel_rfl) (HLe.pick [0, 2] (by simp) (by simp only [pick, List.filterMap_cons, List.filterMap_nil, List.getElem?_cons_succ, List.getElem?_cons_zero]; rfl)) (fun Z hZ => ?_)
    refine tw_p rfl ?_
    refine sv_loadA 1 rfl rfl tyA101 tyS101 (by first | (simp only [List.length_cons, List.length_nil, Nat.reduceAdd, Nat.zero_add, Nat.add_zero]; first | done | rfl) | rfl) (by first | (simp only [List.take_succ_cons, List.take_zero, List.drop_succ_cons, List.drop_zero, List.cons_append, List.nil_append, List.append_nil, List.length_cons, List.length_nil, Nat.reduceAdd, Nat.zero_add, Nat.add_zero, Value.cells, wrV]; first | done | rfl) | rfl) rfl ?_
    refine sv_nil ?_
    refine tw_p rfl ?_
    refine sv_loadA 0 rfl rfl tyA87 tyS87 rfl rfl rfl ?_
    refine sv_nil ?_
    refine tw_g rfl ?_
    refine sx_store 4 rfl rfl rfl tyS101 (by first | (simp only [Value.cells]; first | done | rfl) | rfl) rfl rfl (by first | (simp only [List.length_cons, List.length_nil, Nat.reduceAdd, Nat.zero_add, Nat.add_zero]; first | done | rfl) | rfl) (by first | (simp only [List.take_succ_cons, List.take_zero, List.drop_succ_cons, List.drop_zero, List.cons_append, List.nil_append, List.append_nil, List.length_cons, List.length_nil, Nat.reduceAdd, Nat.zero_add, Nat.add_zero, Value.cells, wrV]; first | done | rfl) | rfl) (by first | (simp only [List.set_cons_succ, List.set_cons_zero]; first | done | rfl) | rfl) ?_
    refine sx_nil ⟨HLe.pick [0, 2] (by simp) rfl, ?_⟩
    refine tw_g rfl ?_
    refine sx_store 3 rfl rfl rfl tyS87 rfl rfl rfl rfl (cs' := (cutQ l).out 4) rfl rfl ?_
    refine sx_nil ⟨HLe.pick [0, 2] (by simp) rfl, ?_⟩
    refine tw_p rfl ?_
    refine sv_assign rfl rfl ?_
    refine sv_nil ?_
    refine tw_nil (hZ _ _ ?_)
    refine awp_forget [(2, _), (3, _), (4, _)] (Kn.cons rfl (Kn.cons rfl (Kn.cons rfl (Kn.nil)))) ?_
    refine awp_ret ?_
    exact nx_ret3 rfl (ResOk.cell 4 rfl rfl tyA101 tyS101 rfl) (ResOk.cell 3 rfl rfl tyA87 tyS87 rfl) rfl (by rw [cutH, cutP, e]; rfl)
/-- The reference's sections, as the program's. -/
def secsK (p0 q0 p1 q1 p2 q2 p3 q3 : Nat) : Nat → List Value
  | 0 => zero8
  | 1 => [uq p0, uq q0, uq 0, uq 0, uq 0, uq 0, uq 0, uq 0]
  | 2 => [uq p0, uq q0, uq p1, uq q1, uq 0, uq 0, uq 0, uq 0]
  | 3 => [uq p0, uq q0, uq p1, uq q1, uq p2, uq q2, uq 0, uq 0]
  | _ => sec8 p0 q0 p1 q1 p2 q2 p3 q3
end Go.Proofs.YtahmhcmfeloclaaGreat.Y
