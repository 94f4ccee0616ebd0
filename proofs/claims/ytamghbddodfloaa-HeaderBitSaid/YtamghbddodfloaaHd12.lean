/- A header that stands as an argument. No conditions. -/
import Derived.Test.YtamghbddodfloaaHd11
import Derived.Test.YtamghbddodfloaaOpen3
namespace Go.Proofs.Ytamghbddodfloaa
open Go.RowKit
set_option linter.unusedVariables false
set_option linter.unusedSimpArgs false
theorem alike_u64 {L : List TypeDesc} {cs : List Value} (h : Alike (.int .u64 :: L) cs) : ∃ n c, cs = uq n :: c ∧ n < 18446744073709551616 ∧ Alike L c := by
  cases h with
  | cons h t =>
    obtain ⟨n, rfl, hn⟩ := h
    have := wf_u64 hn
    exact ⟨n.toNat, _, by show _ = Value.int .u64 ((n.toNat : Nat) : Int) :: _; rw [Int.toNat_of_nonneg this.1], by omega, t⟩
theorem alike_u8 {L : List TypeDesc} {cs : List Value} (h : Alike (.int .u8 :: L) cs) : ∃ n c, cs = ub n :: c ∧ n < 256 ∧ Alike L c := by
  cases h with
  | cons h t =>
    obtain ⟨n, rfl, hn⟩ := h
    have := wf_u8 hn
    exact ⟨n.toNat, _, by show _ = Value.int .u8 ((n.toNat : Nat) : Int) :: _; rw [Int.toNat_of_nonneg this.1], by omega, t⟩
theorem alike_i64 {L : List TypeDesc} {cs : List Value} (h : Alike (.int .i64 :: L) cs) : ∃ n c, cs = iq n :: c ∧ (-9223372036854775808 ≤ n ∧ n < 9223372036854775808) ∧ Alike L c := by
  cases h with
  | cons h t =>
    obtain ⟨n, rfl, hn⟩ := h
    exact ⟨n, _, rfl, wf_i64 hn, t⟩
theorem alike_bool {L : List TypeDesc} {cs : List Value} (h : Alike (.bool :: L) cs) : ∃ b c, cs = .bool b :: c ∧ Alike L c := by
  cases h with
  | cons h t =>
    obtain ⟨b, rfl⟩ := h
    exact ⟨b, _, rfl, t⟩
theorem leaves_hdr : leaves Try.prog 5 26 = some [.int .u64, .int .u64, .int .u64, .int .u64, .int .u64, .int .u64, .int .u64, .int .u64, .int .u64, .int .u64, .int .u64, .bool, .int .u8, .int .u8, .int .u8, .int .i64, .int .i64, .int .i64, .int .i64, .int .i64, .int .i64, .int .i64, .int .i64, .int .i64] := by kernel_rfl
theorem open_hdr {H : Type} {enc : TypeId × Value → H} {w : World} {base b0 : Nat} {spare : Nat → Bool} {held : Bool} {r : Reach} {v : Value} {d : DataW H} {p : List MemPlace}
    (hv : Value.okWide Try.prog w r b0 26 v) (h : DataW.Trod enc Try.prog w base spare held 26 v d p) : ∃ h : Hdr, h.Ok ∧ v = h.val := by
  obtain ⟨cs, rfl, a⟩ := open_struct 5 Try.underlying26 leaves_hdr hv h
  obtain ⟨r0, c, rfl, qr0, a1⟩ := alike_u64 a
  obtain ⟨r1, c, rfl, qr1, a2⟩ := alike_u64 a1
  obtain ⟨m0, c, rfl, qm0, a3⟩ := alike_u64 a2
  obtain ⟨m1, c, rfl, qm1, a4⟩ := alike_u64 a3
  obtain ⟨l0, c, rfl, ql0, a5⟩ := alike_u64 a4
  obtain ⟨l1, c, rfl, ql1, a6⟩ := alike_u64 a5
  obtain ⟨d0, c, rfl, qd0, a7⟩ := alike_u64 a6
  obtain ⟨d1, c, rfl, qd1, a8⟩ := alike_u64 a7
  obtain ⟨ad, c, rfl, qad, a9⟩ := alike_u64 a8
  obtain ⟨en, c, rfl, qen, a10⟩ := alike_u64 a9
  obtain ⟨co, c, rfl, qco, a11⟩ := alike_u64 a10
  obtain ⟨cl, c, rfl, a12⟩ := alike_bool a11
  obtain ⟨ic, c, rfl, qic, a13⟩ := alike_u8 a12
  obtain ⟨oc, c, rfl, qoc, a14⟩ := alike_u8 a13
  obtain ⟨ki, c, rfl, qki, a15⟩ := alike_u8 a14
  obtain ⟨z0, c, rfl, qz0, a16⟩ := alike_i64 a15
  obtain ⟨z1, c, rfl, qz1, a17⟩ := alike_i64 a16
  obtain ⟨lo0, c, rfl, qlo0, a18⟩ := alike_i64 a17
  obtain ⟨la0, c, rfl, qla0, a19⟩ := alike_i64 a18
  obtain ⟨lo1, c, rfl, qlo1, a20⟩ := alike_i64 a19
  obtain ⟨la1, c, rfl, qla1, a21⟩ := alike_i64 a20
  obtain ⟨zo, c, rfl, qzo, a22⟩ := alike_i64 a21
  obtain ⟨lon, c, rfl, qlon, a23⟩ := alike_i64 a22
  obtain ⟨lat, c, rfl, qlat, a24⟩ := alike_i64 a23
  cases a24
  exact ⟨⟨r0, r1, m0, m1, l0, l1, d0, d1, ad, en, co, cl, ic, oc, ki, z0, z1, lo0, la0, lo1, la1, zo, lon, lat⟩, ⟨qr0, qr1, qm0, qm1, ql0, ql1, qd0, qd1, qad, qen, qco, qic, qoc, qki⟩, rfl⟩
end Go.Proofs.Ytamghbddodfloaa
