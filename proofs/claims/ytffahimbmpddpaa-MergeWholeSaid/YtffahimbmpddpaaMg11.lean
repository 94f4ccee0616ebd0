/- Steps for the laws of merge: calls whose rows stand at the end of memory. Conditions: the lists are not too long. -/
import Derived.Test.YtffahimbmpddpaaMg10
namespace Go.Proofs.Ytffahimbmpddpaa.V
open Go.RowKit
set_option linter.unusedVariables false
set_option linter.unusedSimpArgs false
set_option linter.unusedSectionVars false
set_option maxRecDepth 100000
theorem mb_ok2 {L : List En} (hE : EnsOk L) (data : List UInt8) : ChOk (mbQ L data).2 := mb_ok hE data
section
variable {N : Frm} {w0 w : World} {Wr : List Nat} {ops : Array Oper} {rest : List Oper} {fr : Fr} {H : Heap} {Z : Fr → Heap → Prop} {d ty : Nat} {pos : String} {after : Array Edge} {xs : List Operand} {ts : Array TypeId} {A B : Option Addr} {c c2 : Nat}
theorem sx_mtoRo {l : List Oper} {v : Value} {n : Nat} {t : TypeId} {size : Nat} {ys : List Value} (frf : Value → Fr) (hv : RowOk v n) (h : ∀ A' c', SlIn A' n c' → sx Try.prog N w0 Wr ops l (frf (.slice A' n c')) (H ++ roE A' ys) Z) :
    sx Try.prog N w0 Wr ops l (frf v) (rowE v t size ys ++ H) Z := by
  obtain ⟨A1, c1, rfl, h1, hle⟩ := hv.ro
  refine sx_pure (fun w hw => Go.Proofs.Ytffahimbmpddpaa.row_cap hv (fun x hx => List.mem_append_left _ hx) hw) (fun hc => ?_)
  refine sx_heap (H ++ roE A1 ys) ((HLe.swap _ _).trans (hle [] H t size ys)) (h A1 c1 ⟨h1, hc.1, row_none hv⟩)
theorem sx_enownE (L : List En) (T : Heap) (hA : ArgOk A L.length) (hT : 0 < L.length → T = roE A (ecells L)) (hro : Ro T) (hS : T.Sublist H) (hL : L.length ≤ 100000) (hx : evs fr xs = some [.slice A L.length c]) (hN : Nat.ble (d + 1) N.n = true)
    (h : ∀ A' c', SlIn A' L.length c' → sx Try.prog N w0 Wr ops rest ((d, .slice A' L.length c') :: fr) (H ++ roE A' (ecells L)) Z) : sx Try.prog N w0 Wr ops ((⟨some d, .call { callee := .value (.func 8), args := xs.toArray, argTypes := ts }, ty, pos, after, none⟩ : Oper) :: rest) fr H Z :=
  sx_callI T (eown_fn A c L T hA hT hro hL) hx hS hro hN fun A' c' hA' => sx_heap _ (HLe.swap _ _) (h A' c' hA')
theorem sx_enbackE (L : List En) (hA : SlIn A L.length c) (hS : (roE A (ecells L)).Sublist H) (hL : L.length ≤ 100000) (hx : evs fr xs = some [.slice A L.length c]) (hN : Nat.ble (d + 1) N.n = true)
    (h : ∀ A' c', SlIn A' L.length c' → sx Try.prog N w0 Wr ops rest ((d, .slice A' L.length c') :: fr) (H ++ roE A' (ecells L)) Z) : sx Try.prog N w0 Wr ops ((⟨some d, .call { callee := .value (.func 26), args := xs.toArray, argTypes := ts }, ty, pos, after, none⟩ : Oper) :: rest) fr H Z :=
  sx_callI (roE A (ecells L)) (eback_fn A c L _ hA.arg (fun _ => rfl) (Ro.roE _ _) hL) hx hS (Ro.roE _ _) hN fun A' c' hA' => sx_heap _ (HLe.swap _ _) (h A' c' hA')
theorem sx_ensame (L M : List En) (hA : SlIn A L.length c) (hB : SlIn B M.length c2) (h1 : (roE A (ecells L)).Sublist H) (h2 : (roE B (ecells M)).Sublist H) (hL : L.length ≤ maxLen) (hM : M.length ≤ maxLen) (hx : evs fr xs = some [.slice A L.length c, .slice B M.length c2]) (hN : Nat.ble (d + 1) N.n = true)
    (h : sx Try.prog N w0 Wr ops rest ((d, .bool (sameL L M)) :: fr) H Z) : sx Try.prog N w0 Wr ops ((⟨some d, .call { callee := .value (.func 25), args := xs.toArray, argTypes := ts }, ty, pos, after, none⟩ : Oper) :: rest) fr H Z :=
  sx_callV (roE A (ecells L) ++ roE B (ecells M)) (rsame_fn A c L _ hA.arg (fun _ => rfl) hL B c2 M _ hB.arg (fun _ => rfl) hM) hx (HLe.two h1 h2 (Ro.roE _ _)) ((Ro.roE _ _).append (Ro.roE _ _)) hN h
theorem sx_mrowsE (L : List It) (hA : SlIn A L.length c) (hS : (roE A (icells L)).Sublist H) (hok : ChOk L) (hx : evs fr xs = some [chV A L.length c]) (hN : Nat.ble (d + 1) N.n = true)
    (h : ∀ A' c', SlIn A' (rowsS L).1.length c' → sx Try.prog N w0 Wr ops rest ((d, .tuple #[.slice A' (rowsS L).1.length c', .string (str (rowsS L).2.flatten)]) :: fr) (H ++ roE A' (ecells (rowsS L).1)) Z) : sx Try.prog N w0 Wr ops ((⟨some d, .call { callee := .value (.func 17), args := xs.toArray, argTypes := ts }, ty, pos, after, none⟩ : Oper) :: rest) fr H Z :=
  sx_callVU (roE A (icells L)) (mrows_fn A c L _ hA.arg (fun _ => rfl) (Ro.roE _ _) hok) hx (HLe.sub hS) (Ro.roE _ _) hN (by
    rintro v H' ⟨u, rfl, hu, rfl⟩
    rw [rowE_flt]
    exact sx_mtoRo (fun u => (d, .tuple #[u, .string (str (rowsS L).2.flatten)]) :: fr) hu h)
theorem sx_rrowsE (L : List It) (hA : SlIn A L.length c) (hS : (roE A (icells L)).Sublist H) (hok : ChOk L) (hx : evs fr xs = some [.slice A L.length c]) (hN : Nat.ble (d + 1) N.n = true)
    (h : ∀ A' c', SlIn A' (rowsS L).1.length c' → sx Try.prog N w0 Wr ops rest ((d, .tuple #[.slice A' (rowsS L).1.length c', .string (str (rowsS L).2.flatten)]) :: fr) (H ++ roE A' (ecells (rowsS L).1)) Z) : sx Try.prog N w0 Wr ops ((⟨some d, .call { callee := .value (.func 24), args := xs.toArray, argTypes := ts }, ty, pos, after, none⟩ : Oper) :: rest) fr H Z :=
  sx_callVU (roE A (icells L)) (rrows_fn A c L _ hA.arg (fun _ => rfl) (Ro.roE _ _) hok) hx (HLe.sub hS) (Ro.roE _ _) hN (by
    rintro v H' ⟨u, rfl, hu, rfl⟩
    rw [rowE_flt]
    exact sx_mtoRo (fun u => (d, .tuple #[u, .string (str (rowsS L).2.flatten)]) :: fr) hu h)
theorem sx_mbackE (L : List En) (data : List UInt8) (hA : SlIn A L.length c) (hS : (roE A (ecells L)).Sublist H) (hL : L.length ≤ maxLen) (hE : EnsOk L) (hd : data.length ≤ 1000000) (hx : evs fr xs = some [.slice A L.length c, .string (str data)]) (hN : Nat.ble (d + 1) N.n = true)
    (h : ∀ A' c', SlIn A' (mbQ L data).2.length c' → sx Try.prog N w0 Wr ops rest ((d, .tuple #[chV A' (mbQ L data).2.length c', iq (mbQ L data).1]) :: fr) (H ++ roE A' (icells (mbQ L data).2)) Z) : sx Try.prog N w0 Wr ops ((⟨some d, .call { callee := .value (.func 9), args := xs.toArray, argTypes := ts }, ty, pos, after, none⟩ : Oper) :: rest) fr H Z :=
  sx_callVU (roE A (ecells L)) (mback_fn A c L _ hA.arg (fun _ => rfl) (Ro.roE _ _) hL hE data hd) hx (HLe.sub hS) (Ro.roE _ _) hN (by
    rintro v H' ⟨u, rfl, hu, rfl⟩
    rw [rowE_flt]
    exact sx_mtoRo (fun u => (d, .tuple #[.agg #[u], iq (mbQ L data).1]) :: fr) hu h)
theorem sx_rmbackE (L : List En) (data : List UInt8) (T : Heap) (hA : ArgOk A L.length) (hT : 0 < L.length → T = roE A (ecells L)) (hro : Ro T) (hS : T.Sublist H) (hL : L.length ≤ maxLen) (hE : EnsOk L) (hd : data.length ≤ 1000000) (hx : evs fr xs = some [.slice A L.length c, .string (str data)]) (hN : Nat.ble (d + 1) N.n = true)
    (h : ∀ A' c', SlIn A' (mbQ L data).2.length c' → sx Try.prog N w0 Wr ops rest ((d, .tuple #[.slice A' (mbQ L data).2.length c', iq (mbQ L data).1]) :: fr) (H ++ roE A' (icells (mbQ L data).2)) Z) : sx Try.prog N w0 Wr ops ((⟨some d, .call { callee := .value (.func 10), args := xs.toArray, argTypes := ts }, ty, pos, after, none⟩ : Oper) :: rest) fr H Z :=
  sx_callVU T (rmback_fn A c L _ hA hT hro hL hE data hd) hx (HLe.sub hS) hro hN (by
    rintro v H' ⟨u, rfl, hu, rfl⟩
    rw [rowE_flt]
    exact sx_mtoRo (fun u => (d, .tuple #[u, iq (mbQ L data).1]) :: fr) hu h)
end
def mwL : List It := [⟨8, [97, 98, 99]⟩, ⟨5, [97, 98, 99]⟩, ⟨6, [97, 98, 99]⟩]
def mwC : List It := [⟨5, [97, 98, 99]⟩, ⟨6, [97, 98, 99]⟩, ⟨8, [97, 98, 99]⟩]
def mwE : List En := [⟨5, 0, 3, 2⟩, ⟨8, 0, 3, 1⟩]
def mwF : List En := [⟨1, 0, 1, 0⟩]
def mwG : List En := [⟨1, 0, 1, 1⟩, ⟨2, 0, 1, 1⟩]
theorem mw1 : ofQ mwL = 0 ∧ ofL mwL = mwC := ⟨by kernel_rfl, by kernel_rfl⟩
theorem mw_ok : ChOk mwC := by have := ofL_ok mwL; rwa [mw1.2] at this
theorem mw2 : rowsS mwC = (mwE, [[97, 98, 99]]) := by kernel_rfl
theorem mw3 : mbQ mwE [97, 98, 99] = (0, mwC) := by kernel_rfl
theorem mw4 : mbQ mwF [120] = (14, []) := by kernel_rfl
theorem mw5 : mbQ mwE [97, 98] = (8, []) := by kernel_rfl
theorem mw6 : leastQ mwE = true ∧ leastQ mwG = false := ⟨by kernel_rfl, by kernel_rfl⟩
end Go.Proofs.Ytffahimbmpddpaa.V
