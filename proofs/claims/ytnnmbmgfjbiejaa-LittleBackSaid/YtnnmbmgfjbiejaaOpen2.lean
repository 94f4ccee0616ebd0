/- How a slice of numbers of 64 bits reads. No conditions. -/
import Derived.Test.YtnnmbmgfjbiejaaOpen
namespace Go.Proofs.Ytnnmbmgfjbiejaa
open Go.RowKit Go.ChangeShapes Go.WideShapes Go.ChangeAt Go.Joins
set_option linter.unusedVariables false
set_option linter.unusedSimpArgs false
section
variable {H : Type} {enc : TypeId × Value → H} {w : World} {base : Nat} {spare : Nat → Bool} {held : Bool}
/-- Numbers of 64 bits as the model holds them. -/
def uv (l : List Nat) : List Value := l.map fun (x : Nat) => .int .u64 ((x : Nat) : Int)
theorem uv_at (l : List Nat) (k : Nat) (h : k < l.length) : (uv l)[k]? = some (.int .u64 (l[k] : Int)) := by simp [uv, h]
theorem open_u64s {P : Program} {t e : TypeId} {b0 : Nat} {r : Reach} {v : Value} {d : DataW H} {p : List MemPlace} (ht : P.underlying t = some (.slice e)) (he : P.underlying e = some (.int .u64)) (hC : P.cellsOf e = 1)
    (hv : Value.okWide P w r b0 t v) (h : DataW.Trod enc P w 0 (fun _ => true) true t v d p) :
    ∃ A c, ∃ l : List Nat, v = .slice A l.length c ∧ Rd w 1 A l.length (uv l) ∧ (A = none → c = 0) ∧ l.length ≤ maxLen ∧ ∀ x ∈ l, x < 18446744073709551616 := by
  obtain ⟨A, n, c, zs, rfl, hl, hr, hc, hn, hw⟩ := open_row ht he hC hv h
  have e : uv (zs.map Int.toNat) = zs.map (Value.int .u64) := by
    unfold uv
    rw [List.map_map]
    apply List.map_congr_left
    intro z hz
    have := wf_u64 (hw z hz)
    simp
    omega
  refine ⟨A, c, zs.map Int.toNat, by simp [hl], by rw [e, List.length_map, hl]; exact hr, hc, by simp [hl]; exact hn, fun x hx => ?_⟩
  obtain ⟨z, hz, rfl⟩ := List.mem_map.1 hx
  have := wf_u64 (hw z hz)
  omega
end
end Go.Proofs.Ytnnmbmgfjbiejaa
