/- How arguments of plain kinds read: what the reading of an argument tells of its value. No conditions. How a slice of numbers of 64 bits reads. No conditions. -/
import Derived.Test.YtbldhokgbcljjaaMem
import Derived.ProofKit
import Derived.OpenShut
import Derived.ShutString
import Derived.ChangeOld
import Derived.Lib.SmallJoins
namespace Go.Proofs.Ytbldhokgbcljjaa
open Go.RowKit Go.ChangeShapes Go.WideShapes Go.ChangeAt Go.Joins
open Go.ChangeMaps (open_string)
set_option linter.unusedVariables false
set_option linter.unusedSimpArgs false
section
variable {H : Type} {enc : TypeId × Value → H} {w : World} {base : Nat} {spare : Nat → Bool} {held : Bool}
theorem wf_i64 {x : Int} (h : (Lit.int .i64 x).wf = true) : -9223372036854775808 ≤ x ∧ x < 9223372036854775808 := by
  simp [Lit.wf, IntKind.min, IntKind.max, IntKind.signed, IntKind.bits] at h
  exact ⟨by omega, by omega⟩
theorem wf_u64 {x : Int} (h : (Lit.int .u64 x).wf = true) : 0 ≤ x ∧ x < 18446744073709551616 := by
  simp [Lit.wf, IntKind.min, IntKind.max, IntKind.signed, IntKind.bits] at h
  exact ⟨by omega, by omega⟩
theorem wf_u32 {x : Int} (h : (Lit.int .u32 x).wf = true) : 0 ≤ x ∧ x < 4294967296 := by
  simp [Lit.wf, IntKind.min, IntKind.max, IntKind.signed, IntKind.bits] at h
  exact ⟨by omega, by omega⟩
theorem wf_u16 {x : Int} (h : (Lit.int .u16 x).wf = true) : 0 ≤ x ∧ x < 65536 := by
  simp [Lit.wf, IntKind.min, IntKind.max, IntKind.signed, IntKind.bits] at h
  exact ⟨by omega, by omega⟩
theorem wf_u8 {x : Int} (h : (Lit.int .u8 x).wf = true) : 0 ≤ x ∧ x < 256 := by
  simp [Lit.wf, IntKind.min, IntKind.max, IntKind.signed, IntKind.bits] at h
  exact ⟨by omega, by omega⟩
theorem World.lt_of_cell {w : World} {a : Addr} {v : Value} (h : w.cell? a = some v) : a.block < w.heap.size := by
  rcases Nat.lt_or_ge a.block w.heap.size with h' | h'
  · exact h'
  · simp [World.cell?, Array.getElem?_eq_none h'] at h
theorem add_plain (a : Addr) (j : Nat) (h : a.spot = none) : a.add j = ⟨a.block, a.off + j, none⟩ := by
  obtain ⟨g, o, s⟩ := a
  simp only at h
  subst h
  unfold Addr.add
  split <;> simp_all
/-- A slice of numbers of one kind that came in. -/
theorem open_row {P : Program} {t e : TypeId} {k : IntKind} {b0 : Nat} {r : Reach} {v : Value} {d : DataW H} {p : List MemPlace} (ht : P.underlying t = some (.slice e)) (he : P.underlying e = some (.int k)) (hC : P.cellsOf e = 1)
    (hv : Value.okWide P w r b0 t v) (h : DataW.Trod enc P w 0 (fun _ => true) true t v d p) :
    ∃ A n c, ∃ zs : List Int, v = .slice A n c ∧ zs.length = n ∧ Rd w 1 A n (zs.map (Value.int k)) ∧ (A = none → c = 0) ∧ n ≤ maxLen ∧ ∀ z ∈ zs, (Lit.int k z).wf = true := by
  obtain ⟨a0, len0, cap0, rfl⟩ := okWide_slice ht hv
  obtain ⟨fuel, hf⟩ := h
  rcases open_ints ht he hC hf with ⟨hcs, _⟩ | ⟨x, l, c, zs, hcs, _, hl, hm, hz, _, hcell, hwz⟩
  · simp [Value.cells] at hcs
    obtain ⟨rfl, rfl, rfl⟩ := hcs
    exact ⟨none, 0, 0, [], rfl, rfl, Rd.nil w 1, fun _ => rfl, Nat.zero_le _, fun _ h => by cases h⟩
  · simp [Value.cells] at hcs
    obtain ⟨rfl, rfl, rfl⟩ := hcs
    have hz' : zs.length = cap0 := by simpa using hz
    refine ⟨some x, len0, cap0, zs.take len0, rfl, by simp; omega, ⟨by simp; omega, by simp, fun hn => ?_⟩, by simp, by omega, fun z hz2 => hwz z (List.mem_of_mem_take hz2)⟩
    have hc0 := hcell 0 (by omega)
    have hs : x.spot = none := by
      have := World.cell?_spot hc0
      unfold Addr.add at this
      simpa using this
    have hlt : x.block < w.heap.size := by
      have := World.lt_of_cell hc0
      unfold Addr.add at this
      simpa using this
    obtain ⟨g, o, s⟩ := x
    simp only at hs hlt
    subst hs
    refine ⟨g, o, rfl, hlt, fun j u hu => ?_⟩
    have hj : j < len0 := by
      have := (List.getElem?_eq_some_iff.1 hu).1
      simp at this
      omega
    have h1 := hcell j (by omega)
    rw [add_plain _ _ rfl] at h1
    simp only at h1
    rw [h1]
    have h2 : (zs.take len0)[j]? = some (zs.getD j 0) := by
      rw [List.getElem?_take_of_lt hj]
      simp [List.getD, show j < zs.length from by omega]
    rw [List.getElem?_map, h2] at hu
    simpa using hu
theorem open_bytes {P : Program} {t e : TypeId} {b0 : Nat} {r : Reach} {v : Value} {d : DataW H} {p : List MemPlace} (ht : P.underlying t = some (.slice e)) (he : P.underlying e = some (.int .u8)) (hC : P.cellsOf e = 1)
    (hv : Value.okWide P w r b0 t v) (h : DataW.Trod enc P w 0 (fun _ => true) true t v d p) :
    ∃ A c, ∃ l : List UInt8, v = .slice A l.length c ∧ Rd w 1 A l.length (bv l) ∧ (A = none → c = 0) ∧ l.length ≤ maxLen := by
  obtain ⟨A, n, c, zs, rfl, hl, hr, hc, hn, hw⟩ := open_row ht he hC hv h
  have e : bv (zs.map fun z => UInt8.ofNat z.toNat) = zs.map (Value.int .u8) := by
    unfold bv
    rw [List.map_map]
    apply List.map_congr_left
    intro z hz
    have := wf_u8 (hw z hz)
    simp
    omega
  refine ⟨A, c, zs.map fun z => UInt8.ofNat z.toNat, by simp [hl], by rw [e, List.length_map, hl]; exact hr, hc, by simp [hl]; exact hn⟩
end
end Go.Proofs.Ytbldhokgbcljjaa

namespace Go.Proofs.Ytbldhokgbcljjaa
open Go.RowKit Go.ChangeShapes Go.WideShapes Go.ChangeAt Go.Joins
set_option linter.unusedVariables false
set_option linter.unusedSimpArgs false
section
variable {H : Type} {enc : TypeId × Value → H} {w : World} {base : Nat} {spare : Nat → Bool} {held : Bool}
/-- Numbers of 64 bits as the model holds them. -/
def uv (l : List Nat) : List Value := l.map fun (x : Nat) => .int .u64 ((x : Nat) : Int)
theorem uv_at (l : List Nat) (k : Nat) (h : k < l.length) : (uv l)[k]? = some (.int .u64 (l[k] : Int)) := by simp [uv, h]
theorem open_u64s {P : Program} {t e : TypeId} {b0 : Nat} {r : Reach} {v : Value} {d : DataW H} {p : List MemPlace} (ht : P.underlying t = some (.slice e)) (he : P.underlying e = some (.int .u64)) (hC : P.cellsOf e = 1)
    (hv : Value.okWide P w r b0 t v) (h : DataW.Trod enc P w 0 (fun _ => true) true t v d p) :
    ∃ A c, ∃ l : List Nat, v = .slice A l.length c ∧ Rd w 1 A l.length (uv l) ∧ (A = none → c = 0) ∧ l.length ≤ maxLen ∧ ∀ x ∈ l, x < 18446744073709551616 := by
  obtain ⟨A, n, c, zs, rfl, hl, hr, hc, hn, hw⟩ := open_row ht he hC hv h
  have e : uv (zs.map Int.toNat) = zs.map (Value.int .u64) := by
    unfold uv
    rw [List.map_map]
    apply List.map_congr_left
    intro z hz
    have := wf_u64 (hw z hz)
    simp
    omega
  refine ⟨A, c, zs.map Int.toNat, by simp [hl], by rw [e, List.length_map, hl]; exact hr, hc, by simp [hl]; exact hn, fun x hx => ?_⟩
  obtain ⟨z, hz, rfl⟩ := List.mem_map.1 hx
  have := wf_u64 (hw z hz)
  omega
end
end Go.Proofs.Ytbldhokgbcljjaa
