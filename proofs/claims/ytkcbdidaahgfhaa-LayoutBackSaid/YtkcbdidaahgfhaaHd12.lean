/- A header that stands as an argument. No conditions. -/
import Derived.Test.YtkcbdidaahgfhaaHd11
import Derived.Test.YtkcbdidaahgfhaaOpen3
namespace Go.Proofs.Ytkcbdidaahgfhaa
open Go.RowKit
set_option linter.unusedVariables false
set_option linter.unusedSimpArgs false
theorem leaves_hdr : leaves Try.prog 5 27 = some [.int .u64, .int .u64, .int .u64, .int .u64, .int .u64, .int .u64, .int .u64, .int .u64, .int .u64, .int .u64, .int .u64, .bool, .int .u8, .int .u8, .int .u8, .int .i64, .int .i64, .int .i64, .int .i64, .int .i64, .int .i64, .int .i64, .int .i64, .int .i64] := by kernel_rfl
set_option maxRecDepth 10000 in
theorem open_hdr {H : Type} {enc : TypeId × Value → H} {w : World} {base b0 : Nat} {spare : Nat → Bool} {held : Bool} {r : Reach} {v : Value} {d : DataW H} {p : List MemPlace}
    (hv : Value.okWide Try.prog w r b0 27 v) (h : DataW.Trod enc Try.prog w base spare held 27 v d p) : ∃ h : Hdr, h.Ok ∧ v = h.val := by
  obtain ⟨cs, rfl, a⟩ := open_struct 5 Try.underlying27 leaves_hdr hv h
  obtain ⟨r0, c, rfl, qr0, a1⟩ := alike_u64 a
  obtain ⟨r1, c, rfl, qr1, a2⟩ := alike_u64 a1
  obtain ⟨m0, c, rfl, qm0, a3⟩ := alike_u64 a2
  obtain ⟨m1, c, rfl, qm1, a4⟩ := alike_u64 a3
  obtain ⟨l0, c, rfl, ql0, a5⟩ := alike_u64 a4
  obtain ⟨l1, c, rfl, ql1, a6⟩ := alike_u64 a5
  obtain ⟨d0, c, rfl, qd0, a7⟩ := alike_u64 a6
  obtain ⟨d1, c, rfl, qd1, a8⟩ := alike_u64 a7
  obtain ⟨ad, c, rfl, qad, a9⟩ := alike_u64 a8
  obtain ⟨en, c, rfl, qen, a10⟩ := alike_u64 a9
  obtain ⟨co, c, rfl, qco, a11⟩ := alike_u64 a10
  obtain ⟨cl, c, rfl, a12⟩ := alike_bool a11
  obtain ⟨ic, c, rfl, qic, a13⟩ := alike_u8 a12
  obtain ⟨oc, c, rfl, qoc, a14⟩ := alike_u8 a13
  obtain ⟨ki, c, rfl, qki, a15⟩ := alike_u8 a14
  obtain ⟨z0, c, rfl, qz0, a16⟩ := alike_i64 a15
  obtain ⟨z1, c, rfl, qz1, a17⟩ := alike_i64 a16
  obtain ⟨lo0, c, rfl, qlo0, a18⟩ := alike_i64 a17
  obtain ⟨la0, c, rfl, qla0, a19⟩ := alike_i64 a18
  obtain ⟨lo1, c, rfl, qlo1, a20⟩ := alike_i64 a19
  obtain ⟨la1, c, rfl, qla1, a21⟩ := alike_i64 a20
  obtain ⟨zo, c, rfl, qzo, a22⟩ := alike_i64 a21
  obtain ⟨lon, c, rfl, qlon, a23⟩ := alike_i64 a22
  obtain ⟨lat, c, rfl, qlat, a24⟩ := alike_i64 a23
  cases a24
  exact ⟨⟨r0, r1, m0, m1, l0, l1, d0, d1, ad, en, co, cl, ic, oc, ki, z0, z1, lo0, la0, lo1, la1, zo, lon, lat⟩, ⟨qr0, qr1, qm0, qm1, ql0, ql1, qd0, qd1, qad, qen, qco, qic, qoc, qki⟩, rfl⟩
end Go.Proofs.Ytkcbdidaahgfhaa
