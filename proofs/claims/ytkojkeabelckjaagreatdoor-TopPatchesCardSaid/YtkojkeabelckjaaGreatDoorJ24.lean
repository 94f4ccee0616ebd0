/- Walks and plain laws for this claim (texts Gly1, Mg4, Df13, joined). Each theorem states its own conditions. -/
import Derived.Test.YtkojkeabelckjaaGreatDoorJ23
import Derived.Test.YtkojkeabelckjaaGreatDoorJ06
import Derived.Test.YtkojkeabelckjaaGreatDoorJ16
import Derived.Test.YtkojkeabelckjaaGreatDoorJ20
import Derived.Test.YtkojkeabelckjaaGreatDoorJ14

section
set_option linter.all false
namespace Go.Proofs.YtkojkeabelckjaaGreatDoor.Y
open Go.RowKit
def secOk (a b c d : Nat) : Bool := decide (127 + a + b + c + d ≤ 1099511627776)
def zero8 : List Value := [uq 0, uq 0, uq 0, uq 0, uq 0, uq 0, uq 0, uq 0]
def secC (a b c d : Nat) : List Value := if secOk a b c d = true then [uq 127, uq a, uq (127 + a), uq b, uq (127 + a + b), uq c, uq (127 + a + b + c), uq d] else zero8
def secN (a b c d : Nat) : Nat := if secOk a b c d = true then 127 + a + b + c + d else 0
def secE (a b c d : Nat) : Int := if secOk a b c d = true then 0 else 8
def atK (a b c d : Nat) : Nat → Nat
 | 0 => 127 | 1 => 127 + a | 2 => 127 + a + b | 3 => 127 + a + b + c | _ => 127 + a + b + c + d
def lnK (a b c d : Nat) : Nat → Nat
 | 0 => a | 1 => b | 2 => c | _ => d
def outK (a b c d : Nat) : Nat → List Value
 | 0 => zero8
 | 1 => [uq 127, uq a, uq 0, uq 0, uq 0, uq 0, uq 0, uq 0]
 | 2 => [uq 127, uq a, uq (127 + a), uq b, uq 0, uq 0, uq 0, uq 0]
 | 3 => [uq 127, uq a, uq (127 + a), uq b, uq (127 + a + b), uq c, uq 0, uq 0]
 | _ => [uq 127, uq a, uq (127 + a), uq b, uq (127 + a + b), uq c, uq (127 + a + b + c), uq d]
theorem four {k : Nat} (h : k < 4) : k = 0 ∨ k = 1 ∨ k = 2 ∨ k = 3 := by omega
section
variable (a b c d : Nat) {k : Nat}
theorem ln_rd (h : k < 4) : rdV false 1 [uq a, uq b, uq c, uq d] k = some (uq (lnK a b c d k)) := by obtain rfl | rfl | rfl | rfl := four h <;> rfl
theorem out_wr (h : k < 4) : wrV (outK a b c d k) (k * 2) [uq (atK a b c d k), uq (lnK a b c d k)] = outK a b c d (k + 1) := by obtain rfl | rfl | rfl | rfl := four h <;> rfl
theorem out_len : (outK a b c d k).length = 8 := by unfold outK; split <;> rfl
theorem at_next (h : k < 4) : atK a b c d (k + 1) = atK a b c d k + lnK a b c d k := by obtain rfl | rfl | rfl | rfl := four h <;> rfl
theorem at_le (h : k ≤ 4) : atK a b c d k ≤ 127 + a + b + c + d := by
 obtain rfl | rfl | rfl | rfl | rfl : k = 0 ∨ k = 1 ∨ k = 2 ∨ k = 3 ∨ k = 4 := by omega
 all_goals simp [atK]
 all_goals omega
theorem ln_le (h : k < 4) : lnK a b c d k ≤ a + b + c + d := by obtain rfl | rfl | rfl | rfl := four h <;> simp [lnK] <;> omega
end
theorem sections_fn (a b c d : Nat) (h4 : a < 18446744073709551616 ∧ b < 18446744073709551616 ∧ c < 18446744073709551616 ∧ d < 18446744073709551616) :
  Fn Tryz.prog 59 [.agg #[uq a, uq b, uq c, uq d]] [] fun v _ => v = .tuple #[.agg (secC a b c d).toArray, uq (secN a b c d), iq (secE a b c d)] := by
 refine Fn.enter (N := 30) Tryz.func59 rfl (by kernel_rfl) rfl (fun w0 => ?_)
 refine aR (fun Z hZ => ?_)
 refine jC3 rfl rfl rfl (fun g1 => ?_)
 refine sAl tyZ141 rfl (fun g2 => ?_)
 refine sA rfl rfl <| sA rfl rfl <| sN (hZ _ _ ?_)
 refine aF [(1, _), (2, _)] (kR rfl) ?_
 refine aR (fun Z hZ => ?_)
 refine sAl tyZ141 rfl (fun g3 => ?_)
 refine sN (hZ _ _ ?_)
 refine aF [(1, _), (2, _), (5, _)] (kR rfl) ?_
 refine aR fun Z hZ => sA rfl rfl <| sN (hZ _ _ ?_)
 refine aF [(1, _), (2, _), (5, _), (6, _)] (kR rfl) ?_
 refine aS ?_
 refine aR (fun Z hZ => ?_)
 refine sLA 2 rfl rfl tyA140 tyS140 rfl (by simp only [qS, Value.cells]; rfl) rfl ?_
 refine sM rfl rfl <| sN (hZ _ _ ?_)
 refine aF [(2, _), (5, _), (6, _), (9, _), (10, _)] (kR rfl) ?_
 refine aB ?_
 refine jB6 (ι := Nat) (fun k => [(2, ptr g2 0), (5, ptr g3 0), (6, uq (atK a b c d k)), (9, .agg #[uq a, uq b, uq c, uq d]), (10, iq (k : Nat))]) (fun k => [.own g3 141 (outK a b c d k), .own g2 141 zero8])
  (fun k => k ≤ 4 ∧ atK a b c d k ≤ 1099511627776) (fun k => 4 - k) 0 ⟨by omega, by simp [atK]⟩ (kR rfl) (HLe.pick [0, 1] (by simp) rfl) ?_
 rintro k ⟨hk, hat⟩
 refine aR (fun Z hZ => ?_)
 refine jC4 rfl rfl rfl ?_
 refine sN (hZ _ _ ?_)
 refine aF [(2, _), (5, _), (6, _), (9, _), (10, _), (11, _)] (kR rfl) ?_
 refine aS (aC rfl (fun h => ?_) (fun h => ?_))
 ·have hlt : k < 4 := by simp at h; omega
  have hnx := at_next a b c d hlt
  have hle := at_le a b c d (k := k + 1) (by omega)
  have hll := ln_le a b c d hlt
  refine aK ?_
  with_reducible refine nN ?_
  refine aS (aB ?_)
  refine aR fun Z hZ => sM rfl rfl ?_
  refine sx_indexA Tryz.underlying140 tyA45 tyS45 rfl rfl (by omega) (by simpa using ln_rd a b c d hlt) rfl ?_
  refine sA rfl rfl <| sA rfl rfl <| sN (hZ _ _ ?_)
  refine aF [(2, _), (5, _), (6, _), (7, _), (8, _), (9, _), (10, _)] (kR rfl) ?_
  refine aS ?_
  refine aR fun Z hZ => sM rfl rfl <| sM rfl rfl ?_
  refine sx_sub rfl rfl ((1099511627776 - atK a b c d k : Nat) : Int) (by rw [IntWalk.u64_in _ (by omega)]; omega) rfl ?_
  refine jF3 rfl rfl rfl ?_
  refine sN (hZ _ _ ?_)
  refine aF [(2, _), (5, _), (6, _), (7, _), (8, _), (9, _), (10, _), (17, _)] (kR rfl) ?_
  refine aC rfl (fun hf => ?_) (fun hf => ?_)
  ·refine aR (fun Z hZ => ?_)
   refine sx_buildA tyZ141 Tryz.underlying141 tyS76 rfl rfl rfl rfl ?_
   refine sS 1 rfl rfl rfl tyS141 rfl rfl rfl rfl (cs' := zero8) rfl rfl ?_
   refine sA rfl rfl <| sA rfl rfl <| sN (hZ _ _ ?_)
   refine aF [(2, _), (3, _), (4, _)] (kR rfl) ?_
   refine aE ?_
   repeat (with_reducible (first | refine nTR ?_ | refine nBR ?_))
   have hno : secOk a b c d = false := decide_eq_false (by simp at hf; omega)
   refine nx_ret3 rfl (ResOk.cell 1 rfl rfl tyA141 tyS141 rfl) rfl rfl ?_
   simp only [secC, secN, secE, hno]
   rfl
  have hfit : lnK a b c d k + atK a b c d k ≤ 1099511627776 := by simp at hf; omega
  refine aK ?_
  with_reducible refine nN ?_
  refine aR fun Z hZ => sM rfl rfl <| sM rfl rfl <| sM rfl rfl ?_
  refine jD1 tyZ76 tyP76 rfl rfl (by simp only [qS, Nat.reduceAdd, Value.cells, wrV]; rfl) rfl ?_
  refine sx_indexAddrA (k * 2) Tryz.underlying141 tyS76 rfl rfl (by omega) (by simp) rfl ?_
  refine sS 0 rfl rfl rfl tyS76 rfl rfl rfl (by rw [out_len]; exact Nat.ble_eq_true_of_le (by omega)) (out_wr a b c d hlt) rfl ?_
  refine sN (hZ _ _ ?_)
  refine aF [(2, _), (5, _), (6, _), (8, _), (9, _), (10, _)] (kR rfl) ?_
  refine aG (fun Z hZ => ?_)
  refine sM rfl rfl <| sM rfl rfl ?_
  refine jB8 rfl rfl ((atK a b c d (k + 1) : Nat) : Int) (by rw [IntWalk.u64_in _ (by omega)]; omega) rfl ?_
  refine sA rfl rfl <| sN (hZ _ _ ?_)
  refine nF [(2, _), (5, _), (6, _), (9, _), (10, _)] (kR rfl) ?_
  repeat (with_reducible refine nBN ?_)
  with_reducible refine nN ?_
  refine aG (fun Z hZ => ?_)
  refine jB8 rfl rfl ((k + 1 : Nat) : Int) (by rw [IntWalk.i64_in _ (by omega)]; omega) rfl ?_
  refine sM rfl rfl <| sN (hZ _ _ ?_)
  refine nF [(2, _), (5, _), (6, _), (9, _), (10, _)] (kR rfl) ?_
  exact jB5 (k + 1) ⟨by omega, by omega⟩ (by omega) (kR rfl) (HLe.refl _)
 ·refine jB1 ?_
  repeat (with_reducible refine nTE ?_)
  with_reducible refine nBE ?_
  with_reducible refine nN ?_
  have hke : k = 4 := by simp at h; omega
  subst hke
  have hyes : secOk a b c d = true := decide_eq_true hat
  refine aR (fun Z hZ => ?_)
  refine sLA 0 rfl rfl tyA141 tyS141 rfl rfl rfl ?_
  refine sM rfl rfl ?_
  refine sS 1 rfl rfl rfl tyS141 rfl rfl rfl rfl rfl rfl ?_
  refine sA rfl rfl <| sA rfl rfl <| sN (hZ _ _ ?_)
  refine aF [(2, _), (3, _), (4, _)] (kR rfl) ?_
  refine aE ?_
  refine nx_ret3 rfl (ResOk.cell 1 rfl rfl tyA141 tyS141 rfl) rfl rfl ?_
  simp only [secC, secN, secE, hyes]
  rfl
end Go.Proofs.YtkojkeabelckjaaGreatDoor.Y
namespace Go.Proofs.YtkojkeabelckjaaGreatDoor.Y
open Go.RowKit
def withH (h : Hdr) (p0 q0 p1 q1 p2 q2 p3 q3 : Nat) : Hdr := { h with r0 := p0, r1 := q0, m0 := p1, m1 := q1, l0 := p2, l1 := q2, d0 := p3, d1 := q3 }
abbrev sec8 (p0 q0 p1 q1 p2 q2 p3 q3 : Nat) : List Value := [uq p0, uq q0, uq p1, uq q1, uq p2, uq q2, uq p3, uq q3]
theorem with_fn (h : Hdr) (p0 q0 p1 q1 p2 q2 p3 q3 : Nat) : Fn Tryz.prog 61 [h.val, .agg (sec8 p0 q0 p1 q1 p2 q2 p3 q3).toArray] [] fun v _ => v = (withH h p0 q0 p1 q1 p2 q2 p3 q3).val := by
 refine Fn.enter (N := 18) Tryz.func61 rfl (by kernel_rfl) rfl (fun w0 => ?_)
 refine aR (fun Z hZ => ?_)
 refine jC3 rfl rfl rfl (fun g1 => ?_)
 refine jC3 rfl rfl rfl (fun g2 => ?_)
 refine sAl tyZ78 rfl (fun g3 => ?_)
 refine sN (hZ _ _ ?_)
 refine aF [(2, _), (3, _), (4, _)] (kR rfl) ?_
 refine awv_seq_region 1 [(0, true), (1, true), (2, true), (3, true), (4, true), (5, true), (6, true), (7, true), (8, true), (9, false), (10, true), (11, false), (12, true), (13, false), (14, true), (15, false)] mixed (by kernel_rfl) rfl (fun Z hZ => ?_)
 refine tv_p rfl ?_
 refine sp_indexAddrA 0 Tryz.underlying141 tyS76 rfl rfl (by omega) rfl rfl ?_
 refine sp_nil ?_
 refine tv_load rfl rfl tyA76 tyS76 rfl rfl ?_
 refine tv_p rfl ?_
 refine sp_indexAddrA 2 Tryz.underlying141 tyS76 rfl rfl (by omega) rfl rfl ?_
 refine sp_nil ?_
 refine tv_load rfl rfl tyA76 tyS76 rfl rfl ?_
 refine tv_p rfl ?_
 refine sp_indexAddrA 4 Tryz.underlying141 tyS76 rfl rfl (by omega) rfl rfl ?_
 refine sp_nil ?_
 refine tv_load rfl rfl tyA76 tyS76 rfl rfl ?_
 refine tv_p rfl ?_
 refine sp_indexAddrA 6 Tryz.underlying141 tyS76 rfl rfl (by omega) rfl rfl ?_
 refine sp_nil ?_
 refine tv_load rfl rfl tyA76 tyS76 rfl rfl ?_
 refine tv_p rfl ?_
 refine sp_fieldAddr rfl tyF78_0 (by simp only [Nat.add_zero]; rfl) rfl ?_
 refine sp_nil ?_
 refine tv_g 1 rfl ?_
 refine sS 2 rfl rfl rfl tyS76 (by simp only [Value.cells]; rfl) rfl rfl rfl (by simp only [qS, Nat.reduceAdd, Value.cells, wrV]; rfl) (by simp only [qS]; rfl) ?_
 refine sN ⟨rfl, ?_⟩
 refine tv_p rfl ?_
 refine sp_fieldAddr rfl tyF78_1 (by simp only [Nat.zero_add]; rfl) rfl ?_
 refine sp_nil ?_
 refine tv_g 1 rfl ?_
 refine sS 2 rfl rfl rfl tyS76 (by simp only [Value.cells]; rfl) rfl rfl rfl (by simp only [qS, Nat.reduceAdd, wrV]; rfl) (by simp only [qS]; rfl) ?_
 refine sN ⟨rfl, ?_⟩
 refine tv_p rfl ?_
 refine sp_fieldAddr rfl tyF78_2 (by simp only [Nat.zero_add]; rfl) rfl ?_
 refine sp_nil ?_
 refine tv_g 1 rfl ?_
 refine sS 2 rfl rfl rfl tyS76 (by simp only [Value.cells]; rfl) rfl rfl rfl (by simp only [qS, Nat.reduceAdd, wrV]; rfl) (by simp only [qS]; rfl) ?_
 refine sN ⟨rfl, ?_⟩
 refine tv_p rfl ?_
 refine sp_fieldAddr rfl tyF78_3 (by simp only [Nat.zero_add]; rfl) rfl ?_
 refine sp_nil ?_
 refine tv_g 1 rfl ?_
 refine sS 2 rfl rfl rfl tyS76 (by simp only [Value.cells]; rfl) rfl rfl rfl (by simp only [qS, Nat.reduceAdd, wrV]; rfl) (by simp only [qS]; rfl) ?_
 refine sN ⟨rfl, ?_⟩
 refine tv_nil (hZ _ _ ?_)
 refine aF [(2, _), (4, _)] (kR rfl) ?_
 refine aR (fun Z hZ => ?_)
 refine sLA 2 rfl rfl tyA78 tyS78 rfl (by simp only [qS]; rfl) rfl ?_
 refine sS 0 rfl rfl rfl tyS78 (by simp only [Value.cells]; rfl) rfl rfl rfl (by simp only [qS, Nat.reduceAdd, wrV]; rfl) (by simp only [List.set_cons_zero]; rfl) ?_
 refine sN (hZ _ _ ?_)
 refine aF [(4, _)] (Kn.cons rfl (Kn.nil)) ?_
 refine aE ?_
 exact nR1 rfl (ResOk.cell 0 rfl rfl tyA78 tyS78 rfl) rfl
end Go.Proofs.YtkojkeabelckjaaGreatDoor.Y
namespace Go.Proofs.YtkojkeabelckjaaGreatDoor.Y
open Go.RowKit
structure P4 where
 (a b c d : List UInt8)
structure P4.Ok (p : P4) : Prop where
 a : p.a.length ≤ 20000
 b : p.b.length ≤ 20000
 c : p.c.length ≤ 20000
 d : p.d.length ≤ 20000
abbrev P4.cells (p : P4) : List Value := [.string (str p.a), .string (str p.b), .string (str p.c), .string (str p.d)]
def P4.at_ (p : P4) : Nat → List UInt8
 | 0 => p.a | 1 => p.b | 2 => p.c | _ => p.d
def P4.lens (p : P4) : Nat → List Value
 | 0 => [uq 0, uq 0, uq 0, uq 0]
 | 1 => [uq p.a.length, uq 0, uq 0, uq 0]
 | 2 => [uq p.a.length, uq p.b.length, uq 0, uq 0]
 | 3 => [uq p.a.length, uq p.b.length, uq p.c.length, uq 0]
 | _ => [uq p.a.length, uq p.b.length, uq p.c.length, uq p.d.length]
def P4.all (p : P4) : List UInt8 := p.a ++ p.b ++ p.c ++ p.d
theorem P4.rd (p : P4) {k : Nat} (h : k < 4) : rdV false 1 p.cells k = some (.string (str (p.at_ k))) := by obtain rfl | rfl | rfl | rfl := four h <;> rfl
theorem P4.at_ok (p : P4) (hp : p.Ok) (k : Nat) : (p.at_ k).length ≤ 20000 := by
 unfold P4.at_
 split
 ·exact hp.a
 ·exact hp.b
 ·exact hp.c
 ·exact hp.d
theorem P4.wr (p : P4) {k : Nat} (h : k < 4) : (p.lens k).set k (uq (p.at_ k).length) = p.lens (k + 1) := by obtain rfl | rfl | rfl | rfl := four h <;> rfl
theorem P4.len (p : P4) (k : Nat) : (p.lens k).length = 4 := by unfold P4.lens; split <;> rfl
def layH (h : Hdr) (a b c d : Nat) : Hdr := withH h 127 a (127 + a) b (127 + a + b) c (127 + a + b + c) d
def glueH (h : Hdr) (p : P4) : Hdr := layH h p.a.length p.b.length p.c.length p.d.length
def glueS (h : Hdr) (p : P4) : List UInt8 := if jG3 (glueH h p) = 0 then encV (glueH h p) ++ p.all else []
theorem P4.fits (p : P4) (hp : p.Ok) : secOk p.a.length p.b.length p.c.length p.d.length = true := decide_eq_true (by have := hp.a; have := hp.b; have := hp.c; have := hp.d; omega)
theorem glueH_ok (h : Hdr) (hk : h.Ok) (p : P4) (hp : p.Ok) : (glueH h p).Ok := by
 have := hp.a; have := hp.b; have := hp.c; have := hp.d
 obtain ⟨_, _, _, _, _, _, _, _, q8, q9, q10, q11, q12, q13⟩ := hk
 exact ⟨by show 127 < _; omega, by show p.a.length < _; omega, by show 127 + p.a.length < _; omega, by show p.b.length < _; omega, by show 127 + p.a.length + p.b.length < _; omega, by show p.c.length < _; omega, by show 127 + p.a.length + p.b.length + p.c.length < _; omega, by show p.d.length < _; omega, q8, q9, q10, q11, q12, q13⟩
theorem secC_ok {a b c d : Nat} (h : secOk a b c d = true) : secC a b c d = sec8 127 a (127 + a) b (127 + a + b) c (127 + a + b + c) d ∧ secE a b c d = 0 ∧ secN a b c d = 127 + a + b + c + d := ⟨if_pos h, if_pos h, if_pos h⟩
section
variable {P : Program} {N : Frm} {w0 : World} {Wr : List Nat} {ops : Array Oper} {rest : List Oper} {fr : Fr} {H : Heap} {Z : Fr → Heap → Prop}
variable {d ty : Nat} {pos : String} {after : Array Edge}
theorem sx_sliceArr {t e n size : Nat} {x : Operand} {g o : Nat} (ht : P.underlying t = some (.array n e)) (hs : tySize P e = some size) (hn : 0 < n) (hx : ev fr x = some (ptr g o)) (hN : Nat.ble (d + 1) N.n = true)
  (h : sx P N w0 Wr ops rest ((d, .slice (some ⟨g, o, none⟩) n n) :: fr) H Z) : sx P N w0 Wr ops (⟨some d, .slice t x none none none, ty, pos, after, none⟩ :: rest) fr H Z :=
 jE3 _ hN (fun a w ha _ => by
  have hn' : ¬ n = 0 := by omega
  simp only [execOp, Instr.sliceAt, ha.eval hx, Sem.run_bind, run_underlying ht, Result.andThen_ok, ptr, Instr.sureAddr, Sem.run_pure, Option.map_none, Instr.sliceBounds, jB2 hs, jH6, Nat.zero_mul, Nat.add_zero, Nat.sub_zero]
  simp [hn']) h
end
theorem glue_fn (h : Hdr) (hk : h.Ok) (p : P4) (hp : p.Ok) : Fn Tryz.prog 25 [h.val, .agg p.cells.toArray] [] fun v _ => v = .tuple #[.string (str (glueS h p)), iq (jG3 (glueH h p))] := by
 obtain ⟨hC, hE, hN⟩ := secC_ok (p.fits hp)
 have := hp.a; have := hp.b; have := hp.c; have := hp.d
 obtain ⟨G, hG⟩ : ∃ G, glueH h p = G := ⟨_, rfl⟩
 have hGk := glueH_ok h hk p hp
 unfold glueS
 rw [hG] at hGk ⊢
 have henc : (encV G).length ≤ 127 := by
  unfold encV
  split
  ·rw [enc5_length]; omega
  ·simp
 refine Fn.enter (N := 47) Tryz.func25 rfl (by kernel_rfl) rfl (fun w0 => ?_)
 refine aR (fun Z hZ => ?_)
 refine jC3 rfl rfl rfl (fun g1 => ?_)
 refine jC3 rfl rfl rfl (fun g2 => ?_)
 refine sA rfl rfl <| sA rfl rfl <| sN (hZ _ _ ?_)
 refine aF [(2, _), (3, _)] (kR rfl) ?_
 refine aR (fun Z hZ => ?_)
 refine sAl tyZ140 rfl (fun g3 => ?_)
 refine sN (hZ _ _ ?_)
 refine aF [(2, _), (3, _), (6, _)] (kR rfl) ?_
 refine aS ?_
 refine aR (fun Z hZ => ?_)
 refine sLA 1 rfl rfl tyA80 tyS80 rfl (by simp only [qS, Value.cells]; rfl) rfl ?_
 refine sM rfl rfl <| sN (hZ _ _ ?_)
 refine aF [(2, _), (3, _), (6, _), (13, _), (14, _)] (kR rfl) ?_
 refine aB ?_
 refine jB6 (ι := Nat) (fun k => [(2, ptr g1 0), (3, ptr g2 0), (6, ptr g3 0), (13, .agg p.cells.toArray), (14, iq (k : Nat))]) (fun k => [.own g3 140 (p.lens k), .own g2 80 p.cells, .own g1 78 h.cells])
  (fun k => k ≤ 4) (fun k => 4 - k) 0 (by omega) (kR rfl) (HLe.refl _) ?_
 intro k hk4
 refine aR (fun Z hZ => ?_)
 refine jC4 rfl rfl rfl ?_
 refine sN (hZ _ _ ?_)
 refine aF [(2, _), (3, _), (6, _), (13, _), (14, _), (15, _)] (kR rfl) ?_
 refine aS (aC rfl (fun hh => ?_) (fun hh => ?_))
 ·have hlt : k < 4 := by simp at hh; omega
  have hal := p.at_ok hp k
  refine aK ?_
  with_reducible refine nN ?_
  refine aS (aB ?_)
  refine aR fun Z hZ => sM rfl rfl ?_
  refine sx_indexA Tryz.underlying80 tyA9 tyS9 rfl rfl (by omega) (by simpa using p.rd hlt) rfl ?_
  refine sA rfl rfl <| sA rfl rfl <| sN (hZ _ _ ?_)
  refine aF [(2, _), (3, _), (6, _), (7, _), (8, _), (13, _), (14, _)] (kR rfl) ?_
  refine aG (fun Z hZ => ?_)
  refine sM rfl rfl <| sM rfl rfl ?_
  refine jF0 Tryz.underlying9 rfl rfl ?_
  refine jC2 Tryz.underlying3 Tryz.underlying45 rfl (((p.at_ k).length : Nat) : Int) (by rw [IntWalk.u64_in _ (by omega)]) rfl ?_
  refine sx_indexAddrA k Tryz.underlying140 tyS45 rfl rfl (by omega) (by simp) rfl ?_
  refine sS1 0 rfl rfl rfl tyS45 rfl (by rw [P4.len]; exact Nat.ble_eq_true_of_le (by omega)) (p.wr hlt) rfl ?_
  refine sN (hZ _ _ ?_)
  refine nF [(2, _), (3, _), (6, _), (13, _), (14, _)] (kR rfl) ?_
  repeat (with_reducible refine nBN ?_)
  with_reducible refine nN ?_
  refine aG (fun Z hZ => ?_)
  refine jB8 rfl rfl ((k + 1 : Nat) : Int) (by rw [IntWalk.i64_in _ (by omega)]; omega) rfl ?_
  refine sM rfl rfl <| sN (hZ _ _ ?_)
  refine nF [(2, _), (3, _), (6, _), (13, _), (14, _)] (kR rfl) ?_
  exact jB5 (k + 1) (by omega) (by omega) (kR rfl) (HLe.refl _)
 ·refine jB1 ?_
  repeat (with_reducible refine nTE ?_)
  with_reducible refine nBE ?_
  with_reducible refine nN ?_
  have hke : k = 4 := by simp at hh; omega
  subst hke
  refine aR (fun Z hZ => ?_)
  refine sLA 0 rfl rfl tyA140 tyS140 rfl rfl rfl ?_
  refine sCP (sections_fn p.a.length p.b.length p.c.length p.d.length (by omega)) rfl rfl ?_
  rw [hC, hE, hN]
  refine sM rfl rfl <| sX rfl rfl rfl <| sX rfl rfl rfl <| sX rfl rfl rfl ?_
  refine sAl tyZ141 rfl (fun g4 => ?_)
  refine sS 0 rfl rfl rfl tyS141 (by simp only [Value.cells]; rfl) rfl rfl rfl (by simp only [qS, Nat.reduceAdd, wrV]; rfl) (by simp only [List.set_cons_zero]; rfl) ?_
  refine sA rfl rfl <| sA rfl rfl <| sN (hZ _ _ ?_)
  refine aF [(2, _), (3, _), (9, _), (11, _)] (kR rfl) ?_
  refine aS ?_
  refine aR fun Z hZ => sM rfl rfl ?_
  refine jE5 rfl rfl rfl ?_
  refine sN (hZ _ _ ?_)
  refine aF [(2, _), (3, _), (9, _), (11, _), (31, _)] (kR rfl) ?_
  refine aC rfl (fun he => ?_) (fun he => ?_)
  ·simp at he
  refine aK ?_
  with_reducible refine nN ?_
  refine aR (fun Z hZ => ?_)
  refine sLA 3 rfl rfl tyA78 tyS78 rfl (by simp only [qS]; rfl) rfl ?_
  refine sLA 0 rfl rfl tyA141 tyS141 rfl (by simp only [qS]; rfl) rfl ?_
  refine sCP (with_fn h 127 p.a.length (127 + p.a.length) p.b.length (127 + p.a.length + p.b.length) p.c.length (127 + p.a.length + p.b.length + p.c.length) p.d.length) rfl rfl ?_
  rw [show withH h 127 p.a.length (127 + p.a.length) p.b.length (127 + p.a.length + p.b.length) p.c.length (127 + p.a.length + p.b.length + p.c.length) p.d.length = G from hG]
  refine sCP (hencode_fn G hGk) rfl rfl ?_
  refine sM rfl rfl <| sX rfl rfl rfl <| sX rfl rfl rfl <| sA rfl rfl <| sA rfl rfl <| sN (hZ _ _ ?_)
  refine aF [(3, _), (11, _), (12, _)] (kR rfl) ?_
  refine aS ?_
  refine aR fun Z hZ => sM rfl rfl ?_
  refine jE5 rfl rfl rfl ?_
  refine sN (hZ _ _ ?_)
  refine aF [(3, _), (11, _), (12, _), (41, _)] (kR rfl) ?_
  refine aC rfl (fun he2 => ?_) (fun he2 => ?_)
  ·refine aR (fun Z hZ => ?_)
   refine sM rfl rfl <| sA rfl rfl <| sA rfl rfl <| sN (hZ _ _ ?_)
   refine aF [(4, _), (5, _)] (kR rfl) ?_
   refine aE ?_
   repeat (with_reducible refine nTR ?_)
   exact jF9 rfl rfl rfl (by rw [if_neg (by simpa using he2)]; rfl)
  refine aK ?_
  with_reducible refine nN ?_
  have hc0 : jG3 G = 0 := by simpa using he2
  have hj : Lib.join [p.a, p.b, p.c, p.d] [] = p.all := by simp [Lib.join_cons, Lib.joinTail, P4.all]
  refine aR fun Z hZ => sM rfl rfl ?_
  refine sx_sliceArr Tryz.underlying80 tyS9 (by omega) rfl rfl ?_
  refine sx_call0 (v := .string (str p.all)) enter_join rfl rfl (fun w hw => ?_) ?_
  rotate_left
  refine sx_cat rfl rfl (by (simp only [P4.all, List.length_append]; omega)) rfl ?_
  refine sA rfl rfl <| sA rfl rfl <| sN (hZ _ _ ?_)
  refine aF [(4, _), (5, _)] (kR rfl) ?_
  ·refine aE ?_
   exact jF9 rfl rfl rfl (by rw [hc0, if_pos rfl])
  ·have hm := Ent.cell (hw.mem (i := 2) rfl)
   have hl := Ent.lt (hw.mem (i := 2) rfl)
   have := join_any g2 0 4 [p.a, p.b, p.c, p.d] [] w (fun j x hx => by
    rw [Nat.zero_add, hm]
    have hj4 : j < 4 := by have := (List.getElem?_eq_some_iff.1 hx).1; simpa using this
    obtain rfl | rfl | rfl | rfl := four hj4 <;> (simp at hx; subst hx; rfl)) hl (by simp) (by simp) (by rw [hj]; simp only [P4.all, List.length_append]; omega)
   rw [hj] at this
   exact this
end Go.Proofs.YtkojkeabelckjaaGreatDoor.Y
namespace Go.Proofs.YtkojkeabelckjaaGreatDoor.Y
open Go.RowKit
def hf (h : Hdr) : Nat → Nat
 | 0 => h.r0 | 1 => h.m0 | 2 => h.l0 | _ => h.d0
def hl (h : Hdr) : Nat → Nat
 | 0 => h.r1 | 1 => h.m1 | 2 => h.l1 | _ => h.d1
theorem h_rd (h : Hdr) {k : Nat} (hk : k < 4) : rdV true 2 h.secs (k * 2) = some (.agg #[uq (hf h k), uq (hl h k)]) := by obtain rfl | rfl | rfl | rfl := four hk <;> rfl
theorem h_fits {h : Hdr} (hs : secsV h = true) (k : Nat) : hf h k ≤ 1099511627776 ∧ hl h k ≤ 1099511627776 := by
 simp only [secsV, fitsV, Bool.and_eq_true, decide_eq_true_eq] at hs
 unfold hf hl
 constructor <;> split <;> omega
theorem sec_of_check {h : Hdr} (hc : jG3 h = 0) : secsV h = true := by
 unfold jG3 at hc
 cases hs : secsV h with
 | true => rfl
 | false => rw [if_pos hs] at hc; cases hc
def inL (l : List UInt8) (k : Nat) : Bool := decide (hf (decV l) k + hl (decV l) k ≤ l.length)
def cutOk (l : List UInt8) : Bool := inL l 0 && inL l 1 && inL l 2 && inL l 3
def cutE (l : List UInt8) : Int := if decE l = 0 then (if cutOk l = true then 0 else 8) else decE l
def piece (l : List UInt8) (k : Nat) : List UInt8 := (l.drop (hf (decV l) k)).take (hl (decV l) k)
def cutH (l : List UInt8) : Hdr := if cutE l = 0 then decV l else zeroH
def cutP (l : List UInt8) : P4 := if cutE l = 0 then ⟨piece l 0, piece l 1, piece l 2, piece l 3⟩ else ⟨[], [], [], []⟩
def P4.out (p : P4) : Nat → List Value
 | 0 => [.string (str []), .string (str []), .string (str []), .string (str [])]
 | 1 => [.string (str p.a), .string (str []), .string (str []), .string (str [])]
 | 2 => [.string (str p.a), .string (str p.b), .string (str []), .string (str [])]
 | 3 => [.string (str p.a), .string (str p.b), .string (str p.c), .string (str [])]
 | _ => [.string (str p.a), .string (str p.b), .string (str p.c), .string (str p.d)]
theorem P4.out_wr (p : P4) {k : Nat} (h : k < 4) : (p.out k).set k (.string (str (p.at_ k))) = p.out (k + 1) := by obtain rfl | rfl | rfl | rfl := four h <;> rfl
theorem P4.out_len (p : P4) (k : Nat) : (p.out k).length = 4 := by unfold P4.out; split <;> rfl
def cutQ (l : List UInt8) : P4 := ⟨piece l 0, piece l 1, piece l 2, piece l 3⟩
theorem cutQ_at (l : List UInt8) {k : Nat} (h : k < 4) : (cutQ l).at_ k = piece l k := by obtain rfl | rfl | rfl | rfl := four h <;> rfl
theorem cut_no {l : List UInt8} {k : Nat} (hd : decE l = 0) (hk : k < 4) (h : inL l k = false) : cutE l = 8 := by
 have : cutOk l = false := by
  unfold cutOk
  obtain rfl | rfl | rfl | rfl := four hk <;> simp [h]
 unfold cutE
 rw [if_pos hd, this]
 rfl
theorem cut_yes {l : List UInt8} (hd : decE l = 0) (h : ∀ k, k < 4 → inL l k = true) : cutE l = 0 := by
 have : cutOk l = true := by unfold cutOk; rw [h 0 (by omega), h 1 (by omega), h 2 (by omega), h 3 (by omega)]; rfl
 unfold cutE
 rw [if_pos hd, this]
 rfl
theorem decV_check' {l : List UInt8} (h : decE l = 0) : jG3 (decV l) = 0 := by
 unfold decV
 rw [if_pos h]
 exact (decE_ok h).2.2.2.2
theorem cut_fn (l : List UInt8) (hl0 : l.length ≤ 100000) : Fn Tryz.prog 67 [.string (str l)] [] fun v _ => v = .tuple #[(cutH l).val, .agg (cutP l).cells.toArray, iq (cutE l)] := by
 refine Fn.enter (N := 52) Tryz.func67 rfl (by kernel_rfl) rfl (fun w0 => ?_)
 refine aR (fun Z hZ => ?_)
 refine sAl tyZ78 rfl (fun g1 => ?_)
 refine sAl tyZ80 rfl (fun g2 => ?_)
 refine sA rfl rfl <| sN (hZ _ _ ?_)
 refine aF [(0, _), (2, _), (3, _)] (kR rfl) ?_
 refine aR fun Z hZ => sM rfl rfl ?_
 refine sCP (hdecode_fn l (by omega)) rfl rfl ?_
 refine sM rfl rfl <| sX rfl rfl rfl <| sX rfl rfl rfl ?_
 refine sAl tyZ78 rfl (fun g3 => ?_)
 refine sS 0 rfl rfl rfl tyS78 (by simp only [Value.cells]; rfl) rfl rfl rfl (by simp only [qS, Nat.reduceAdd, wrV]; rfl) (by simp only [List.set_cons_zero]; rfl) ?_
 refine sA rfl rfl <| sN (hZ _ _ ?_)
 refine aF [(0, _), (2, _), (3, _), (5, _), (6, _)] (kR rfl) ?_
 refine aS ?_
 refine aR fun Z hZ => sM rfl rfl ?_
 refine jE5 rfl rfl rfl ?_
 refine sN (hZ _ _ ?_)
 refine aF [(0, _), (2, _), (3, _), (5, _), (6, _), (16, _)] (kR rfl) ?_
 refine aC rfl (fun h => ?_) (fun h => ?_)
 ·skip
  refine aR (fun Z hZ => ?_)
  refine jD1 tyZ78 tyP78 rfl rfl rfl rfl ?_
  refine sx_buildA tyZ80 Tryz.underlying80 tyS9 rfl rfl rfl rfl ?_
  refine sM rfl rfl ?_
  refine sS 2 rfl rfl rfl tyS78 (by simp only [Value.cells]; rfl) rfl rfl rfl (by simp only [qS, Nat.reduceAdd, wrV]; rfl) (by simp only [qS]; rfl) ?_
  refine sS 1 rfl rfl rfl tyS80 (by simp only [Value.cells]; rfl) rfl rfl rfl (by simp only [qS, Nat.reduceAdd, wrV]; rfl) (by simp only [qS]; rfl) ?_
  refine sA rfl rfl <| sN (hZ _ _ ?_)
  refine aF [(2, _), (3, _), (4, _)] (kR rfl) ?_
  refine aE ?_
  repeat (with_reducible refine nTR ?_)
  have hd : ¬ decE l = 0 := by simpa using h
  have e : cutE l = decE l := if_neg hd
  exact nx_ret3 rfl (ResOk.cell 2 rfl rfl tyA78 tyS78 rfl) (ResOk.cell 1 rfl rfl tyA80 tyS80 rfl) rfl (by rw [cutH, cutP, e, if_neg hd, if_neg hd]; rfl)
 refine aK ?_
 with_reducible refine nN ?_
 have hd : decE l = 0 := by simpa using h
 have hs := sec_of_check (decV_check' hd)
 refine aR (fun Z hZ => ?_)
 refine sAl tyZ80 rfl (fun g4 => ?_)
 refine sN (hZ _ _ ?_)
 refine aF [(0, _), (2, _), (3, _), (5, _), (7, _)] (kR rfl) ?_
 refine aS ?_
 refine aR (fun Z hZ => ?_)
 refine sFA rfl tyF78_0 (by simp only [Nat.add_zero]; rfl) rfl ?_
 refine sLA 1 rfl rfl tyA76 tyS76 rfl (by simp only [qS]; rfl) rfl ?_
 refine sFA rfl tyF78_1 (by simp only [Nat.zero_add]; rfl) rfl ?_
 refine sLA 1 rfl rfl tyA76 tyS76 rfl (by simp only [qS]; rfl) rfl ?_
 refine sFA rfl tyF78_2 (by simp only [Nat.zero_add]; rfl) rfl ?_
 refine sLA 1 rfl rfl tyA76 tyS76 rfl (by simp only [qS]; rfl) rfl ?_
 refine sFA rfl tyF78_3 (by simp only [Nat.zero_add]; rfl) rfl ?_
 refine sLA 1 rfl rfl tyA76 tyS76 rfl (by simp only [qS]; rfl) rfl ?_
 refine sx_buildA tyZ141 Tryz.underlying141 tyS76 rfl rfl (by simp only [qS, Nat.reduceAdd, Value.cells, wrV, Nat.reduceMul, Nat.zero_mul]; rfl) rfl ?_
 refine sM rfl rfl <| sN (hZ _ _ ?_)
 refine aF [(0, _), (2, _), (3, _), (5, _), (7, _), (28, _), (29, _)] (kR rfl) ?_
 refine aB ?_
 refine jB6 (ι := Nat) (fun k => [(0, .string (str l)), (2, ptr g1 0), (3, ptr g2 0), (5, ptr g3 0), (7, ptr g4 0), (28, .agg (decV l).secs.toArray), (29, iq (k : Nat))]) (fun k => [.own g4 80 ((cutQ l).out k), .own g3 78 (decV l).cells, .own g2 80 [.string (str []), .string (str []), .string (str []), .string (str [])], .own g1 78 zeroH.cells])
  (fun k => k ≤ 4 ∧ ∀ j, j < k → inL l j = true) (fun k => 4 - k) 0 ⟨by omega, fun j h => by omega⟩ (kR rfl) (HLe.refl _) ?_
 rintro k ⟨hk, hall⟩
 refine aR (fun Z hZ => ?_)
 refine jC4 rfl rfl rfl ?_
 refine sN (hZ _ _ ?_)
 refine aF [(0, _), (2, _), (3, _), (5, _), (7, _), (28, _), (29, _), (30, _)] (kR rfl) ?_
 refine aS (aC rfl (fun hh => ?_) (fun hh => ?_))
 ·have hlt : k < 4 := by simp at hh; omega
  have hft := h_fits hs k
  have hat := cutQ_at l hlt
  have hrd := h_rd (decV l) hlt
  have hpc : piece l k = (l.drop (hf (decV l) k)).take (hl (decV l) k) := rfl
  have hin : inL l k = decide (hf (decV l) k + hl (decV l) k ≤ l.length) := rfl
  generalize hf (decV l) k = F at hft hrd hpc hin
  generalize hl (decV l) k = L at hft hrd hpc hin
  have hend : IntKind.u64.wrap ((F : Int) + L) = ((F + L : Nat) : Int) := by rw [IntWalk.u64_in _ (by omega)]; omega
  refine aK ?_
  with_reducible refine nN ?_
  refine aS (aB ?_)
  refine aR fun Z hZ => sM rfl rfl ?_
  refine sx_indexA Tryz.underlying141 tyA76 tyS76 rfl rfl (by omega) (by simpa using hrd) rfl ?_
  refine sAl tyZ76 rfl (fun g5 => ?_)
  refine sA rfl rfl ?_
  refine sS 0 rfl rfl rfl tyS76 (by simp only [Value.cells]; rfl) rfl rfl rfl (by simp only [qS, Nat.reduceAdd, wrV]; rfl) (by simp only [List.set_cons_zero]; rfl) ?_
  refine sN (hZ _ _ ?_)
  refine aF [(0, _), (2, _), (3, _), (5, _), (7, _), (8, _), (9, _), (28, _), (29, _)] (kR rfl) ?_
  refine aS ?_
  refine aR (fun Z hZ => ?_)
  refine sLA 0 rfl rfl tyA76 tyS76 rfl (by simp only [qS]; rfl) rfl ?_
  refine sCP (end_fn F L) rfl rfl ?_
  rw [hend]
  refine sM rfl rfl ?_
  refine jF0 Tryz.underlying9 rfl rfl ?_
  refine jC2 Tryz.underlying3 Tryz.underlying45 rfl (((l.length : Nat)) : Int) (by rw [IntWalk.u64_in _ (by omega)]) rfl ?_
  refine jF3 rfl rfl rfl ?_
  refine sN (hZ _ _ ?_)
  refine aF [(0, _), (2, _), (3, _), (5, _), (7, _), (8, _), (9, _), (28, _), (29, _), (38, _)] (kR rfl) ?_
  refine aC rfl (fun hf => ?_) (fun hf => ?_)
  ·have hno : inL l k = false := by rw [hin]; simp at hf ⊢; omega
   refine aR (fun Z hZ => ?_)
   refine jD1 tyZ78 tyP78 rfl rfl rfl rfl ?_
   refine sx_buildA tyZ80 Tryz.underlying80 tyS9 rfl rfl rfl rfl ?_
   refine sS 4 rfl rfl rfl tyS78 (by simp only [Value.cells]; rfl) rfl rfl rfl (by simp only [qS, Nat.reduceAdd, wrV]; rfl) (by simp only [qS]; rfl) ?_
   refine sS 3 rfl rfl rfl tyS80 (by simp only [Value.cells]; rfl) rfl rfl rfl (by simp only [qS, Nat.reduceAdd, wrV]; rfl) (by simp only [qS]; rfl) ?_
   refine sA rfl rfl <| sN (hZ _ _ ?_)
   refine aF [(2, _), (3, _), (4, _)] (kR rfl) ?_
   refine aE ?_
   repeat (with_reducible (first | refine nTR ?_ | refine nBR ?_))
   have e := cut_no hd hlt hno
   exact nx_ret3 rfl (ResOk.cell 4 rfl rfl tyA78 tyS78 rfl) (ResOk.cell 3 rfl rfl tyA80 tyS80 rfl) rfl (by rw [cutH, cutP, e]; rfl)
  refine aK ?_
  with_reducible refine nN ?_
  have hfit : F + L ≤ l.length := by simp at hf; omega
  refine aww_region _ [(0, true), (1, true), (2, true), (3, true), (4, true), (5, false), (6, true), (7, true), (8, false)] mixed (by kernel_rfl) (HLe.pick [0] (by simp) (by simp only [pick, List.filterMap_cons, qS]; rfl)) (fun Z hZ => ?_)
  refine tw_p rfl ?_
  refine jA3 rfl rfl ?_
  refine vN ?_
  refine tw_p rfl ?_
  refine jA3 rfl rfl ?_
  refine vN ?_
  refine tw_p rfl ?_
  refine jA2 rfl tyF76_0 (by simp only [Nat.add_zero]; rfl) rfl ?_
  refine vN ?_
  refine tw_p rfl ?_
  first | refine jE6 0 rfl rfl tyA45 tyS45 rfl rfl ?_
  refine vN ?_
  refine tw_p rfl ?_
  first | refine sv_loadA 0 rfl rfl tyA76 tyS76 rfl (by simp only [qS]; rfl) rfl ?_
  refine vN ?_
  refine tw_g rfl ?_
  refine sCP (end_fn F L) rfl rfl ?_
  rw [hend]
  refine sN ⟨HLe.pick [0] (by simp) rfl, ?_⟩
  refine tw_p rfl ?_
  refine sv_sliceS (piece l k) Tryz.underlying9 rfl rfl rfl (by omega) (by omega) (by omega) (by rw [hpc]; show (l.drop F).take (F + L - F) = _; rw [Nat.add_sub_cancel_left]) rfl ?_
  refine vN ?_
  refine tw_p rfl ?_
  refine sv_indexAddrA k Tryz.underlying80 tyS9 rfl rfl (by omega) (by simp) rfl ?_
  refine vN ?_
  refine tw_g rfl ?_
  refine sS1 1 (cs' := (cutQ l).out (k + 1)) rfl rfl rfl tyS9 rfl (by rw [P4.out_len]; exact Nat.ble_eq_true_of_le (by omega)) (by rw [← hat]; exact P4.out_wr _ hlt) (by simp only [qS]; rfl) ?_
  refine sN ⟨HLe.pick [0] (by simp) rfl, ?_⟩
  refine jH2 (hZ _ _ ?_)
  refine nF [(0, _), (2, _), (3, _), (5, _), (7, _), (28, _), (29, _)] (kR rfl) ?_
  repeat (with_reducible refine nBN ?_)
  with_reducible refine nN ?_
  refine aG (fun Z hZ => ?_)
  refine jB8 rfl rfl ((k + 1 : Nat) : Int) (by rw [IntWalk.i64_in _ (by omega)]; omega) rfl ?_
  refine sM rfl rfl <| sN (hZ _ _ ?_)
  refine nF [(0, _), (2, _), (3, _), (5, _), (7, _), (28, _), (29, _)] (kR rfl) ?_
  refine jB5 (k + 1) ⟨by omega, fun j hj => ?_⟩ (by omega) (kR rfl) (HLe.pick [1, 2, 3, 4] (by simp) rfl)
  rcases Nat.lt_or_ge j k with hj' | hj'
  ·exact hall j hj'
  ·obtain rfl : j = k := by omega
   rw [hin]; simpa using hfit
 ·refine jB1 ?_
  repeat (with_reducible refine nTE ?_)
  with_reducible refine nBE ?_
  with_reducible refine nN ?_
  have hke : k = 4 := by simp at hh; omega
  subst hke
  have e := cut_yes hd hall
  refine jD0 _ [(0, true), (1, true), (2, false), (3, false), (4, true)] mixed (by kernel_rfl) (HLe.pick [0, 1] (by simp) (by simp only [pick, List.filterMap_cons, qS]; rfl)) (fun Z hZ => ?_)
  refine tw_p rfl ?_
  refine sv_loadA 1 rfl rfl tyA78 tyS78 rfl (by simp only [qS]; rfl) rfl ?_
  refine vN ?_
  refine tw_p rfl ?_
  refine sv_loadA 0 rfl rfl tyA80 tyS80 rfl rfl rfl ?_
  refine vN ?_
  refine tw_g rfl ?_
  refine sS 3 rfl rfl rfl tyS78 (by simp only [Value.cells]; rfl) rfl rfl rfl (by simp only [qS, Nat.reduceAdd, wrV]; rfl) (by simp only [qS]; rfl) ?_
  refine sN ⟨HLe.pick [0, 1] (by simp) rfl, ?_⟩
  refine tw_g rfl ?_
  refine sS 2 rfl rfl rfl tyS80 rfl rfl rfl rfl (cs' := (cutQ l).out 4) rfl rfl ?_
  refine sN ⟨HLe.pick [0, 1] (by simp) rfl, ?_⟩
  refine tw_p rfl ?_
  refine jD7 rfl rfl ?_
  refine vN ?_
  refine jH2 (hZ _ _ ?_)
  refine aF [(2, _), (3, _), (4, _)] (kR rfl) ?_
  refine aE ?_
  exact nx_ret3 rfl (ResOk.cell 3 rfl rfl tyA78 tyS78 rfl) (ResOk.cell 2 rfl rfl tyA80 tyS80 rfl) rfl (by rw [cutH, cutP, e]; rfl)
end Go.Proofs.YtkojkeabelckjaaGreatDoor.Y
namespace Go.Proofs.YtkojkeabelckjaaGreatDoor.Y
open Go.RowKit
end Go.Proofs.YtkojkeabelckjaaGreatDoor.Y
end

section
set_option linter.all false
namespace Go.Proofs.YtkojkeabelckjaaGreatDoor.V
open Go.RowKit
set_option maxRecDepth 100000
theorem cutP_len (s : List UInt8) : (Y.cutP s).a.length ≤ s.length ∧ (Y.cutP s).c.length ≤ s.length ∧ (Y.cutP s).d.length ≤ s.length := by
 have hp : ∀ k, (Y.piece s k).length ≤ s.length := fun k => by
  unfold Y.piece
  rw [List.length_take, List.length_drop]
  omega
 unfold Y.cutP
 split
 ·exact ⟨hp 0, hp 2, hp 3⟩
 ·exact ⟨Nat.zero_le _, Nat.zero_le _, Nat.zero_le _⟩
def nrE (s : List UInt8) : Int := if Y.cutE s = 0 then (if (decQ (Y.cutP s).a).2.2 = 0 then ((joinQ (decQ (Y.cutP s).a).1 (Y.cutP s).c).2 : Int) else ((decQ (Y.cutP s).a).2.2 : Int)) else Y.cutE s
def nrL (s : List UInt8) : List En := if nrE s = 0 then (joinQ (decQ (Y.cutP s).a).1 (Y.cutP s).c).1 else []
def nrT (s : List UInt8) : List UInt8 := if nrE s = 0 then (Y.cutP s).d else []
theorem nrT_len (s : List UInt8) : (nrT s).length ≤ s.length := by
 unfold nrT
 split
 ·exact (cutP_len s).2.2
 ·exact Nat.zero_le _
theorem joinG_ok (t : List UInt8) : ∀ (L out : List En), jF2 out → jF2 L → jF2 (joinG t out L).1
 | [], out, h, _ => by
  rw [joinG]
  split
  ·exact fun e he => by cases he
  ·exact h
 | x :: r, out, h, hL => by
  rw [joinG]
  have hr : jF2 r := fun e he => hL e (List.mem_cons_of_mem _ he)
  split
  ·split
   ·exact fun e he => by cases he
   ·refine joinG_ok t r _ (fun e he => ?_) hr
    rcases List.mem_append.1 he with he | he
    ·exact h e he
    ·exact (pieceQ_ok x t).2 e he
  ·refine joinG_ok t r _ (fun e he => ?_) hr
   rcases List.mem_append.1 he with he | he
   ·exact h e he
   ·rw [List.mem_singleton.1 he]; exact hL x List.mem_cons_self
theorem joinG_len (t : List UInt8) : ∀ (L out : List En), (joinG t out L).1.length ≤ out.length + L.length * 4097
 | [], out => by
  rw [joinG]
  split <;> simp
 | x :: r, out => by
  rw [joinG, List.length_cons]
  split
  ·split
   ·simp
   ·have h1 := joinG_len t r (out ++ (pieceQ x t).1)
    have h2 := (pieceQ_ok x t).1
    rw [List.length_append] at h1
    omega
  ·have h1 := joinG_len t r (out ++ [x])
   rw [List.length_append] at h1
   simp at h1
   omega
theorem nrL_ok (s : List UInt8) : jF2 (nrL s) ∧ (nrL s).length ≤ maxLen := by
 obtain ⟨d1, d2, _, _⟩ := decQ_ok (Y.cutP s).a
 unfold nrL
 split
 ·unfold joinQ
  split
  ·exact ⟨fun e he => (by cases he), Nat.zero_le _⟩
  ·refine ⟨joinG_ok _ _ [] (fun e he => by cases he) d2, ?_⟩
   have := joinG_len (Y.cutP s).c (decQ (Y.cutP s).a).1 []
   show _ ≤ 9223372036854775807
   simp at this
   omega
 ·exact ⟨fun e he => (by cases he), Nat.zero_le _⟩
theorem nrows_fn (s : List UInt8) (hs : s.length ≤ 100000) : Fn Tryz.prog 28 [.string (str s)] [] fun v H' => ∃ u, v = .tuple #[u, .string (str (nrT s)), iq (nrE s)] ∧ RowOk u (nrL s).length ∧ H' = rowE u 114 4 (jA1 (nrL s)) := by
 have hcut := Y.cut_fn s hs
 obtain ⟨hp0, hp2, _⟩ := cutP_len s
 obtain ⟨h0, hh0⟩ : ∃ h0, Y.cutH s = h0 := ⟨_, rfl⟩
 obtain ⟨p0, hpp⟩ : ∃ p0, Y.cutP s = p0 := ⟨_, rfl⟩
 obtain ⟨e0, he0⟩ : ∃ e0, Y.cutE s = e0 := ⟨_, rfl⟩
 have hE : nrE s = if e0 = 0 then (if (decQ p0.a).2.2 = 0 then ((joinQ (decQ p0.a).1 p0.c).2 : Int) else ((decQ p0.a).2.2 : Int)) else e0 := by unfold nrE; rw [he0, hpp]
 have hLL : nrL s = if nrE s = 0 then (joinQ (decQ p0.a).1 p0.c).1 else [] := by unfold nrL; rw [hpp]
 have hTT : nrT s = if nrE s = 0 then p0.d else [] := by unfold nrT; rw [hpp]
 rw [hh0, hpp, he0] at hcut
 rw [hpp] at hp0 hp2
 obtain ⟨d1, d2, d3, d4⟩ := decQ_ok p0.a
 have hdec := ddecode_fn p0.a (by omega)
 refine Fn.enter (N := 43) Tryz.func28 rfl (by kernel_rfl) rfl (fun w0 => ?_)
 refine aR fun Z hZ => sA rfl rfl <| sA rfl rfl <| sA rfl rfl <| sN (hZ _ _ ?_)
 refine aF [(0, _)] (Kn.cons rfl (Kn.nil)) ?_
 refine aR fun Z hZ => sM rfl rfl ?_
 refine sCP hcut rfl rfl ?_
 refine sM rfl rfl <| sX rfl rfl rfl <| sX rfl rfl rfl <| sX rfl rfl rfl ?_
 refine sAl tyZ78 rfl (fun g1 => ?_)
 refine sAl tyZ80 rfl (fun g2 => ?_)
 refine sS 1 rfl rfl rfl tyS78 (by simp only [Value.cells]; rfl) rfl rfl rfl (by simp only [qS, Nat.reduceAdd, wrV]; rfl) (by simp only [qS]; rfl) ?_
 refine sS 0 rfl rfl rfl tyS80 (by simp only [Value.cells]; rfl) rfl rfl rfl (by simp only [qS, Nat.reduceAdd, wrV]; rfl) (by simp only [List.set_cons_zero]; rfl) ?_
 refine sA rfl rfl <| sN (hZ _ _ ?_)
 refine aF [(6, _), (7, _)] (kR rfl) ?_
 refine aS ?_
 refine aR fun Z hZ => sM rfl rfl ?_
 refine jE5 rfl rfl rfl ?_
 refine sN (hZ _ _ ?_)
 refine aF [(6, _), (7, _), (18, _)] (kR rfl) ?_
 refine aC rfl (fun h => ?_) (fun h => ?_)
 ·have h' : ¬ e0 = 0 := by simpa using h
  have hx : nrE s = e0 := by rw [hE, if_neg h']
  rw [hLL, hTT, hx, if_neg h', if_neg h']
  refine aR fun Z hZ => sM rfl rfl <| sA rfl rfl <| sA rfl rfl <| sA rfl rfl <| sN (hZ _ _ ?_)
  refine aF [(2, _), (3, _), (4, _)] (kR rfl) ?_
  refine aE ?_
  repeat (with_reducible refine nTR ?_)
  exact jH5 [] rfl rfl rfl rfl (HLe.sub (List.nil_sublist _)) ⟨_, rfl, RowOk.nil, rfl⟩
 have h' : e0 = 0 := by simpa using h
 rw [if_pos h'] at hE
 refine aK ?_
 with_reducible refine nN ?_
 obtain ⟨Q, hQ⟩ : ∃ Q, (decQ p0.a).1 = Q := ⟨_, rfl⟩
 obtain ⟨ed, hed⟩ : ∃ ed, (decQ p0.a).2.2 = ed := ⟨_, rfl⟩
 rw [hQ, hed] at hdec hE d4
 rw [hQ] at d1 d2 hLL
 refine aR (fun Z hZ => ?_)
 refine sx_indexAddrA 0 Tryz.underlying80 tyS9 rfl rfl (by omega) rfl rfl ?_
 refine sL 0 rfl rfl tyA9 tyS9 rfl rfl ?_
 refine jD3 [] [_, _] hdec rfl (HLe.refl _) rfl ?_
 rintro v H' ⟨u, rfl, hu, rfl⟩
 rw [jE4]
 obtain ⟨A1, c1, rfl, hA1, hle1⟩ := hu.ro
 refine jC1 ([_, _] ++ roE A1 (jA1 Q)) ((HLe.swap _ _).trans (hle1 [] [_, _] 114 4 (jA1 Q))) ?_
 refine sM rfl rfl <| sX rfl rfl rfl <| sX rfl rfl rfl <| sX rfl rfl rfl <| sA rfl rfl <| sA rfl rfl <| sA rfl rfl <| sN (hZ _ _ ?_)
 refine aF [(6, _), (7, _), (8, _)] (kR rfl) ?_
 refine aS ?_
 refine aR fun Z hZ => sM rfl rfl ?_
 refine jE5 rfl rfl rfl ?_
 refine sN (hZ _ _ ?_)
 refine aF [(6, _), (7, _), (8, _), (28, _)] (kR rfl) ?_
 refine aC rfl (fun h2 => ?_) (fun h2 => ?_)
 ·have h2' : ¬ ed = 0 := by simp at h2; omega
  rw [if_neg h2'] at hE
  have hx : ¬ nrE s = 0 := by rw [hE]; omega
  rw [hLL, hTT, if_neg hx, if_neg hx, hE]
  refine aR fun Z hZ => sM rfl rfl <| sA rfl rfl <| sA rfl rfl <| sA rfl rfl <| sN (hZ _ _ ?_)
  refine aF [(2, _), (3, _), (4, _)] (kR rfl) ?_
  refine aE ?_
  repeat (with_reducible refine nTR ?_)
  exact jH5 [] rfl rfl rfl rfl (HLe.sub (List.nil_sublist _)) ⟨_, rfl, RowOk.nil, rfl⟩
 have h2' : ed = 0 := by simp at h2; omega
 rw [if_pos h2'] at hE
 have hjoin := join_fn A1 c1 Q (roE A1 (jA1 Q)) hA1.arg (fun _ => rfl) (Ro.roE _ _) (by show _ ≤ 9223372036854775807; omega) d2 p0.c (by omega)
 obtain ⟨J, hJ⟩ : ∃ J, (joinQ Q p0.c).1 = J := ⟨_, rfl⟩
 obtain ⟨ej, hej⟩ : ∃ ej, (joinQ Q p0.c).2 = ej := ⟨_, rfl⟩
 rw [hJ, hej] at hjoin
 rw [hej] at hE
 rw [hJ] at hLL
 refine aK ?_
 with_reducible refine nN ?_
 refine aR fun Z hZ => sM rfl rfl ?_
 refine sx_indexAddrA 2 Tryz.underlying80 tyS9 rfl rfl (by omega) rfl rfl ?_
 refine sL 0 rfl rfl tyA9 tyS9 rfl rfl ?_
 refine sx_callVU (roE A1 (jA1 Q)) hjoin rfl (HLe.sub (.cons _ (.cons _ (List.Sublist.refl _)))) (Ro.roE _ _) rfl ?_
 rintro v H' ⟨u, rfl, hu2, rfl⟩
 rw [jE4]
 refine jC1 ([_, _] ++ rowE u 114 4 (jA1 J)) ((HLe.swap _ _).trans (HLe.sub (List.Sublist.append_left (.cons_cons _ (.cons_cons _ (List.nil_sublist _))) _))) ?_
 refine sM rfl rfl <| sX rfl rfl rfl <| sX rfl rfl rfl <| sA rfl rfl <| sA rfl rfl <| sN (hZ _ _ ?_)
 refine aF [(6, _), (7, _), (10, _)] (kR rfl) ?_
 refine aS ?_
 refine aR fun Z hZ => sM rfl rfl ?_
 refine jE5 rfl rfl rfl ?_
 refine sN (hZ _ _ ?_)
 refine aF [(6, _), (7, _), (10, _), (38, _)] (kR rfl) ?_
 refine aC rfl (fun h3 => ?_) (fun h3 => ?_)
 ·have h3' : ¬ ej = 0 := by simp at h3; omega
  have hx : ¬ nrE s = 0 := by rw [hE]; omega
  rw [hLL, hTT, if_neg hx, if_neg hx, hE]
  refine aR fun Z hZ => sM rfl rfl <| sA rfl rfl <| sA rfl rfl <| sA rfl rfl <| sN (hZ _ _ ?_)
  refine aF [(2, _), (3, _), (4, _)] (kR rfl) ?_
  refine aE ?_
  repeat (with_reducible refine nTR ?_)
  exact jH5 [] rfl rfl rfl rfl (HLe.sub (List.nil_sublist _)) ⟨_, rfl, RowOk.nil, rfl⟩
 have h3' : ej = 0 := by simp at h3; omega
 have hx : nrE s = 0 := by rw [hE]; omega
 rw [hLL, hTT, hx, if_pos rfl, if_pos rfl]
 refine aK ?_
 with_reducible refine nN ?_
 refine jB9 mixed (by kernel_rfl) (fun Z hZ => ?_)
 refine qM rfl rfl ?_
 refine sq_indexAddrA 3 Tryz.underlying80 tyS9 rfl rfl (by omega) rfl rfl ?_
 refine jB7 0 rfl rfl tyA9 tyS9 rfl rfl ?_
 refine jB3 rfl rfl ?_
 refine jB3 rfl rfl ?_
 refine jB3 rfl rfl ?_
 refine jE0 (hZ _ _ ?_)
 refine aF [(2, _), (3, _), (4, _)] (kR rfl) ?_
 refine aE ?_
 exact jH5 _ rfl rfl rfl rfl (HLe.sub (List.sublist_append_right _ _)) ⟨_, rfl, hu2, rfl⟩
def rdE (s : List UInt8) : Int := if nrE s = 0 then ((mbQ (nrL s) (nrT s)).1 : Int) else nrE s
def rdO (s : List UInt8) : List It := if nrE s = 0 then (mbQ (nrL s) (nrT s)).2 else []
theorem rdO_ok (s : List UInt8) : ChOk (rdO s) := by
 unfold rdO
 split
 ·exact mb_ok (nrL_ok s).1 _
 ·exact ChOk.nil
theorem nread_fn (s : List UInt8) (hs : s.length ≤ 100000) : Fn Tryz.prog 10 [.string (str s)] [] fun v H' => ∃ u, v = .tuple #[.agg #[u], iq (rdE s)] ∧ RowOk u (rdO s).length ∧ H' = rowE u 62 2 (jA0 (rdO s)) := by
 have hrw := nrows_fn s hs
 obtain ⟨l1, l2⟩ := nrL_ok s
 have l3 := nrT_len s
 refine Fn.enter (N := 22) Tryz.func10 rfl (by kernel_rfl) rfl (fun w0 => ?_)
 refine aR (fun Z hZ => ?_)
 refine sAl tyZ27 rfl (fun g1 => ?_)
 refine sA rfl rfl <| sN (hZ _ _ ?_)
 refine aF [(0, _), (2, _)] (kR rfl) ?_
 refine aR fun Z hZ => sM rfl rfl ?_
 refine jD3 [] [_] hrw rfl (HLe.refl _) rfl ?_
 rintro v H' ⟨u, rfl, hu, rfl⟩
 rw [jE4]
 obtain ⟨A1, c1, rfl, hA1, hle1⟩ := hu.ro
 refine jC1 ([_] ++ roE A1 (jA1 (nrL s))) ((HLe.swap _ _).trans (hle1 [] [_] 114 4 (jA1 (nrL s)))) ?_
 refine sM rfl rfl <| sX rfl rfl rfl <| sX rfl rfl rfl <| sX rfl rfl rfl <| sA rfl rfl <| sA rfl rfl <| sA rfl rfl <| sN (hZ _ _ ?_)
 refine aF [(2, _), (4, _), (5, _), (6, _)] (kR rfl) ?_
 refine aS ?_
 refine aR fun Z hZ => sM rfl rfl ?_
 refine jE5 rfl rfl rfl ?_
 refine sN (hZ _ _ ?_)
 refine aF [(2, _), (4, _), (5, _), (6, _), (14, _)] (kR rfl) ?_
 refine aC rfl (fun h => ?_) (fun h => ?_)
 ·have h' : ¬ nrE s = 0 := by simpa using h
  rw [show rdE s = nrE s by unfold rdE; rw [if_neg h'], show rdO s = [] by unfold rdO; rw [if_neg h']]
  refine aR (fun Z hZ => ?_)
  refine jD1 tyZ27 tyP27 rfl rfl rfl rfl ?_
  refine sM rfl rfl ?_
  first | refine sS 0 rfl rfl rfl tyS27 (by simp only [Value.cells]; rfl) rfl rfl rfl (by simp only [qS, wrV]; rfl) rfl ?_
  refine sA rfl rfl <| sN (hZ _ _ ?_)
  refine aF [(2, _), (3, _)] (kR rfl) ?_
  refine aE ?_
  repeat (with_reducible refine nTR ?_)
  exact jB4 [] rfl (ResOk.cell 0 rfl rfl tyA27 tyS27 rfl) rfl (HLe.sub (List.nil_sublist _)) ⟨_, rfl, RowOk.nil, rfl⟩
 have h' : nrE s = 0 := by simpa using h
 rw [show rdE s = ((mbQ (nrL s) (nrT s)).1 : Int) by unfold rdE; rw [if_pos h'], show rdO s = (mbQ (nrL s) (nrT s)).2 by unfold rdO; rw [if_pos h']]
 have hb := mback_fn A1 c1 (nrL s) (roE A1 (jA1 (nrL s))) hA1.arg (fun _ => rfl) (Ro.roE _ _) l2 l1 (nrT s) (by omega)
 refine aK ?_
 with_reducible refine nN ?_
 refine aR fun Z hZ => sM rfl rfl <| sM rfl rfl ?_
 refine sx_callVU (roE A1 (jA1 (nrL s))) hb rfl (HLe.sub (.cons _ (List.Sublist.refl _))) (Ro.roE _ _) rfl ?_
 rintro v H' ⟨u, rfl, hu2, rfl⟩
 rw [jE4]
 refine jC1 ([_] ++ rowE u 62 2 (jA0 (mbQ (nrL s) (nrT s)).2)) ((HLe.swap _ _).trans (HLe.sub (List.Sublist.append_left (.cons_cons _ (List.nil_sublist _)) _))) ?_
 obtain ⟨A2, c2, rfl, _⟩ := hu2.form
 refine sX rfl rfl rfl <| sX rfl rfl rfl ?_
 first | refine sS 0 rfl rfl rfl tyS27 (by simp only [Value.cells]; rfl) rfl rfl rfl (by simp only [qS, wrV]; rfl) rfl ?_
 refine sA rfl rfl <| sN (hZ _ _ ?_)
 refine aF [(2, _), (3, _)] (kR rfl) ?_
 refine aE ?_
 exact jB4 _ rfl (ResOk.cell 0 rfl rfl tyA27 tyS27 rfl) rfl (HLe.sub (List.sublist_append_right [_] _)) ⟨_, rfl, hu2, rfl⟩
end Go.Proofs.YtkojkeabelckjaaGreatDoor.V
end

section
set_option linter.all false
namespace Go.Proofs.YtkojkeabelckjaaGreatDoor
open Go.RowKit
set_option maxRecDepth 100000
def flE (s t : List UInt8) : Int := if V.rdE s = 0 then (if V.rdE t = 0 then 0 else V.rdE t) else V.rdE s
def flO (s t : List UInt8) : List Chg := if V.rdE s = 0 then (if V.rdE t = 0 then betQ (V.rdO s) (V.rdO t) else []) else []
theorem files_fn (s t : List UInt8) (hs : s.length ≤ 100000) (ht : t.length ≤ 100000) : Fn Tryz.prog 9 [.string (str s), .string (str t)] [] fun v H' => ∃ u, v = .tuple #[u, iq (flE s t)] ∧ RowOk u (flO s t).length ∧ H' = rowE u 87 3 (gcells (flO s t)) := by
 have h1 := V.nread_fn s hs
 have h2 := V.nread_fn t ht
 have k1 := (V.rdO_ok s).len
 have k2 := (V.rdO_ok t).len
 refine Fn.enter (N := 28) Tryz.func9 rfl (by kernel_rfl) rfl (fun w0 => ?_)
 refine aR fun Z hZ => sA rfl rfl <| sA rfl rfl <| sN (hZ _ _ ?_)
 refine aF [(0, _), (1, _)] (kR rfl) ?_
 refine aR fun Z hZ => sM rfl rfl ?_
 refine jD3 [] [] h1 rfl (HLe.refl _) rfl ?_
 rintro v H' ⟨u, rfl, hu, rfl⟩
 rw [jE4]
 refine sx_toRo (fun u => (_, Value.tuple #[.agg #[u], iq (V.rdE s)]) :: _) hu (fun A1 c1 hA1 => ?_)
 refine sM rfl rfl <| sX rfl rfl rfl <| sX rfl rfl rfl ?_
 refine sAl tyZ27 rfl (fun g1 => ?_)
 first | refine sS 0 rfl rfl rfl tyS27 (by simp only [Value.cells]; rfl) rfl rfl rfl (by simp only [qS, wrV]; rfl) (by simp only [List.set_cons_zero]; rfl) ?_
 refine sA rfl rfl <| sN (hZ _ _ ?_)
 refine aF [(1, _), (6, _), (7, _)] (kR rfl) ?_
 refine aS ?_
 refine aR fun Z hZ => sM rfl rfl ?_
 refine jE5 rfl rfl rfl ?_
 refine sN (hZ _ _ ?_)
 refine aF [(1, _), (6, _), (7, _), (15, _)] (kR rfl) ?_
 refine aC rfl (fun h => ?_) (fun h => ?_)
 ·have h' : ¬ V.rdE s = 0 := by simpa using h
  rw [show flE s t = V.rdE s by unfold flE; rw [if_neg h'], show flO s t = [] by unfold flO; rw [if_neg h']]
  refine aR fun Z hZ => sM rfl rfl <| sA rfl rfl <| sA rfl rfl <| sN (hZ _ _ ?_)
  refine aF [(4, _), (5, _)] (kR rfl) ?_
  refine aE ?_
  repeat (with_reducible refine nTR ?_)
  exact jB4 [] rfl rfl rfl (HLe.sub (List.nil_sublist _)) ⟨_, rfl, RowOk.nil, rfl⟩
 have h' : V.rdE s = 0 := by simpa using h
 refine aK ?_
 with_reducible refine nN ?_
 refine aR fun Z hZ => sM rfl rfl ?_
 refine jD3 [] _ h2 rfl (HLe.refl _) rfl ?_
 rintro v H' ⟨u, rfl, hu, rfl⟩
 rw [jE4]
 refine sx_toRo (fun u => (_, Value.tuple #[.agg #[u], iq (V.rdE t)]) :: _) hu (fun A2 c2 hA2 => ?_)
 refine sM rfl rfl <| sX rfl rfl rfl <| sX rfl rfl rfl ?_
 refine sAl tyZ27 rfl (fun g2 => ?_)
 refine sS 0 rfl rfl rfl tyS27 (by simp only [Value.cells]; rfl) rfl rfl rfl (by simp only [qS, wrV]; rfl) (by simp only [List.set_cons_zero]; rfl) ?_
 refine sA rfl rfl <| sN (hZ _ _ ?_)
 refine aF [(6, _), (7, _), (8, _)] (kR rfl) ?_
 refine aS ?_
 refine aR fun Z hZ => sM rfl rfl ?_
 refine jE5 rfl rfl rfl ?_
 refine sN (hZ _ _ ?_)
 refine aF [(6, _), (7, _), (8, _), (23, _)] (kR rfl) ?_
 refine aC rfl (fun h3 => ?_) (fun h3 => ?_)
 ·have h3' : ¬ V.rdE t = 0 := by simpa using h3
  rw [show flE s t = V.rdE t by unfold flE; rw [if_pos h', if_neg h3'], show flO s t = [] by unfold flO; rw [if_pos h', if_neg h3']]
  refine aR fun Z hZ => sM rfl rfl <| sA rfl rfl <| sA rfl rfl <| sN (hZ _ _ ?_)
  refine aF [(4, _), (5, _)] (kR rfl) ?_
  refine aE ?_
  repeat (with_reducible refine nTR ?_)
  exact jB4 [] rfl rfl rfl (HLe.sub (List.nil_sublist _)) ⟨_, rfl, RowOk.nil, rfl⟩
 have h3' : V.rdE t = 0 := by simpa using h3
 rw [show flE s t = 0 by unfold flE; rw [if_pos h', if_pos h3'], show flO s t = betQ (V.rdO s) (V.rdO t) by unfold flO; rw [if_pos h', if_pos h3']]
 refine aK ?_
 with_reducible refine nN ?_
 refine aR (fun Z hZ => ?_)
 refine sLA 1 rfl rfl tyA27 tyS27 rfl (by simp only [qS]; rfl) rfl ?_
 refine sLA 0 rfl rfl tyA27 tyS27 rfl (by simp only [qS]; rfl) rfl ?_
 refine sx_callVU (roE A1 (jA0 (V.rdO s)) ++ roE A2 (jA0 (V.rdO t))) (gbet_fn A1 c1 _ A2 c2 _ hA1 hA2 (by omega) (by omega)) rfl (HLe.two (by repeat (first | exact List.Sublist.refl _ | exact List.nil_sublist _ | exact List.sublist_append_right _ _ | refine List.Sublist.trans ?_ (List.sublist_append_left _ _) | exact List.Sublist.cons_cons _ (List.nil_sublist _) | refine List.Sublist.cons _ ?_)) (by repeat (first | exact List.Sublist.refl _ | exact List.nil_sublist _ | exact List.sublist_append_right _ _ | refine List.Sublist.trans ?_ (List.sublist_append_left _ _) | exact List.Sublist.cons_cons _ (List.nil_sublist _) | refine List.Sublist.cons _ ?_)) (Ro.roE _ _)) ((Ro.roE _ _).append (Ro.roE _ _)) rfl ?_
 rintro v H' ⟨hv, rfl⟩
 rw [jE4]
 refine sA rfl rfl <| sA rfl rfl <| sN (hZ _ _ ?_)
 refine aF [(4, _), (5, _)] (kR rfl) ?_
 refine aE ?_
 exact jB4 _ rfl rfl rfl (HLe.sub (List.sublist_append_left _ _)) ⟨_, rfl, hv, rfl⟩
end Go.Proofs.YtkojkeabelckjaaGreatDoor
end
