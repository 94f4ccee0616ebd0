/- Plain: a row cut into a root and leaves. The walk of leaves.Split. Conditions: the lists are not too long. -/
import Derived.Test.YtodclhiggafkbaaLf3
import Derived.Test.YtodclhiggafkbaaSxS
namespace Go.Proofs.Ytodclhiggafkbaa
open Go.RowKit
set_option linter.unusedVariables false
set_option linter.unusedSimpArgs false
def pcs (L : List En) (z : Nat) : List (List En) := (List.range (cntP L.length z)).map (pcL L z)
def textP (ps : List (List En)) : List UInt8 := ps.flatMap fun P => (encQ P).1
def rootE (t : Nat) (P : List En) : En := ⟨(atE P 0).id, t, (encQ P).1.length, 0⟩
def rootR (t : Nat) : List (List En) → List En
  | [] => []
  | P :: r => rootE t P :: rootR (t + (encQ P).1.length) r
theorem rootR_len : ∀ (ps : List (List En)) (t : Nat), (rootR t ps).length = ps.length
  | [], _ => rfl
  | P :: r, t => by simp [rootR, rootR_len r]
theorem rootR_snoc : ∀ (ps : List (List En)) (t : Nat) (P : List En), rootR t (ps ++ [P]) = rootR t ps ++ [rootE (t + (textP ps).length) P]
  | [], t, P => by simp [rootR, textP]
  | Q :: r, t, P => by
    simp only [List.cons_append, rootR, rootR_snoc r, textP, List.flatMap_cons, List.length_append]
    rw [Nat.add_assoc]
theorem textP_snoc (ps : List (List En)) (P : List En) : textP (ps ++ [P]) = textP ps ++ (encQ P).1 := by simp [textP]
def okQ (L : List En) (b : Int) (z : Nat) : Bool := ((pcs L z).all fun P => decide ((encQ P).2 = 0)) && decide ((sizeQ (rootR 0 (pcs L z)) : Int) ≤ b)
def splitG (L : List En) (b : Int) : Nat → Nat → List En × List UInt8 × Nat × Nat
  | 0, _ => ([], [], 0, 15)
  | k + 1, z => if okQ L b z = true then (rootR 0 (pcs L z), textP (pcs L z), z, 0) else splitG L b k (2 * z)
def splitQ (L : List En) (b : Int) : List En × List UInt8 × Nat × Nat :=
  if b < 1 ∨ 16257 < b then ([], [], 0, 2) else if rowC L ≠ 0 then ([], [], 0, rowC L) else if hasPtr L = true then ([], [], 0, 14)
  else if (sizeQ L : Int) ≤ b then (L, [], 0, 0) else splitG L b 13 1
theorem encQ_len (P : List En) : (encQ P).1.length ≤ 65536 := by
  unfold encQ
  split
  · split
    · exact Nat.zero_le _
    · rename_i h
      show (allB (numsQ P)).length ≤ 65536
      unfold sumB at h
      omega
  · exact Nat.zero_le _
theorem textP_len : ∀ ps : List (List En), (textP ps).length ≤ 65536 * ps.length
  | [] => by simp [textP]
  | P :: r => by
    have h1 := encQ_len P
    have h2 := textP_len r
    simp only [textP, List.flatMap_cons, List.length_append, List.length_cons] at h2 ⊢
    omega
theorem pcs_len (L : List En) (z : Nat) : (pcs L z).length = cntP L.length z := by simp [pcs]
theorem pcs_mem {L P : List En} {z : Nat} (h : P ∈ pcs L z) : ∀ e ∈ P, e ∈ L := fun e he => by
  obtain ⟨q, _, rfl⟩ := List.mem_map.1 h
  exact List.mem_of_mem_drop (List.mem_of_mem_take he)
theorem pcs_pos {L P : List En} {z : Nat} (hz : 0 < z) (h : P ∈ pcs L z) : 0 < P.length := by
  obtain ⟨q, hq, rfl⟩ := List.mem_map.1 h
  have := (cntP_iff hz).1 (List.mem_range.1 hq)
  rw [pcL_len]
  omega
theorem rootR_ok : ∀ (ps : List (List En)) (t : Nat), (∀ P ∈ ps, EnsOk P) → t + 65536 * ps.length < 18446744073709551616 → EnsOk (rootR t ps)
  | [], _, _, _ => fun e he => by cases he
  | P :: r, t, hP, ht => fun e he => by
    have h1 := encQ_len P
    rw [List.length_cons] at ht
    rcases List.mem_cons.1 he with rfl | he
    · have := atE_ok (hP P List.mem_cons_self) 0
      exact ⟨this.1, by show t < _; omega, by show (encQ P).1.length < _; omega, by show 0 < _; omega⟩
    · exact rootR_ok r _ (fun Q hQ => hP Q (List.mem_cons_of_mem _ hQ)) (by omega) e he
def slA : Value → Option Addr
  | .slice A _ _ => A
  | _ => none
/-- Pieces that are only read. -/
def pcR (us : List (Value × List En)) : Heap := us.flatMap fun x => roE (slA x.1) (ecells x.2)
theorem pcR_ro (us : List (Value × List En)) : Ro (pcR us) := fun e he => by
  obtain ⟨x, _, hx⟩ := List.mem_flatMap.1 he
  exact Ro.roE _ _ e hx
theorem pcH_ro : ∀ (us : List (Value × List En)) (X Y : Heap), (∀ x ∈ us, RowOk x.1 x.2.length) → HLe (X ++ (pcR us ++ Y)) (X ++ (pcH us ++ Y))
  | [], X, Y, _ => HLe.refl _
  | x :: r, X, Y, h => by
    obtain ⟨A, c, hx, hA, hle⟩ := (h x List.mem_cons_self).ro
    have h1 := pcH_ro r (X ++ roE (slA x.1) (ecells x.2)) Y (fun y hy => h y (List.mem_cons_of_mem _ hy))
    have h2 := hle X (pcH r ++ Y) 52 4 (ecells x.2)
    rw [← hx] at h2
    have e1 : slA x.1 = A := by rw [hx]; rfl
    rw [← e1] at h2
    simp only [pcR, pcH, List.flatMap_cons, List.append_assoc] at h1 h2 ⊢
    exact h1.trans h2
theorem pcR_sub {us : List (Value × List En)} {x : Value × List En} (h : x ∈ us) : (roE (slA x.1) (ecells x.2)).Sublist (pcR us) := by
  rw [pcR, List.flatMap_def]
  exact List.sublist_flatten_of_mem (List.mem_map.2 ⟨x, h, rfl⟩)
end Go.Proofs.Ytodclhiggafkbaa
