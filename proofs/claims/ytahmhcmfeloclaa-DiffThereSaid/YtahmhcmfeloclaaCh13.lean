/- The walk of the document's Of for charts; what a put leaves, as a row. Conditions: the lists are not too long. -/
import Derived.Test.YtahmhcmfeloclaaCh10
import Derived.Test.YtahmhcmfeloclaaSxC
namespace Go.Proofs.Ytahmhcmfeloclaa
open Go.RowKit
set_option linter.unusedVariables false
set_option linter.unusedSimpArgs false
def putE (k : Nat) (s : List UInt8) (L : List It) : Nat := wrongQ k s (fullQ k L)
def putQ (k : Nat) (s : List UInt8) (L : List It) : List It := if putE k s L = 0 then cPut k s L else L
theorem rfull_eq {L : List It} (hr : Rise L) (k : Nat) : rfullQ k L = fullQ k L := by
  unfold rfullQ fullQ
  rw [(get_eq hr k).1]
theorem rput_fn2 (A : Option Addr) (c : Nat) (L : List It) (T : Heap) (hA : ArgOk A L.length) (hT : 0 < L.length → T = roE A (icells L)) (hro : Ro T) (hL : L.length ≤ 100000) (hr : Rise L) (k : Nat) (s : List UInt8) :
    Fn Try.prog 27 [.slice A L.length c, uq k, .string (str s)] T fun v H' => ∃ u, v = .tuple #[u, iq (putE k s L)] ∧ ((putE k s L = 0 ∧ RowOk u (cPut k s L).length ∧ H' = rowE u 58 2 (icells (cPut k s L))) ∨ (¬ putE k s L = 0 ∧ u = .slice A L.length c ∧ H' = [])) := by
  have h := rput_fn A c L T hA hT hro hL k s
  rw [rfull_eq hr, ← put_eq hr] at h
  exact h
theorem put_fn2 (A : Option Addr) (c : Nat) (L : List It) (T : Heap) (hA : SlIn A L.length c) (hT : 0 < L.length → T = roE A (icells L)) (hro : Ro T) (hL : L.length ≤ 100000) (hr : Rise L) (k : Nat) (s : List UInt8) :
    Fn Try.prog 26 [chV A L.length c, uq k, .string (str s)] T fun v H' => ∃ u, v = .tuple #[.agg #[u], iq (putE k s L)] ∧ ((putE k s L = 0 ∧ RowOk u (cPut k s L).length ∧ H' = rowE u 60 2 (icells (cPut k s L))) ∨ (¬ putE k s L = 0 ∧ u = .slice A L.length c ∧ H' = [])) :=
  put_fn A c L T hA hT hro hL hr k s
theorem del_fn2 (A : Option Addr) (c : Nat) (L : List It) (T : Heap) (hA : SlIn A L.length c) (hT : 0 < L.length → T = roE A (icells L)) (hro : Ro T) (hL : L.length ≤ 100000) (hr : Rise L) (k : Nat) :
    Fn Try.prog 40 [chV A L.length c, uq k] T fun v H' => ∃ u, v = .agg #[u] ∧ ((cHas k L = true ∧ RowOk u (cDel k L).length ∧ H' = rowE u 60 2 (icells (cDel k L))) ∨ (¬ cHas k L = true ∧ u = .slice A L.length c ∧ H' = [])) := by
  have h := del_fn A c L T hA hT hro hL hr k
  refine ⟨h.1, fun w hw => (h.2 w hw).mono ?_⟩
  rintro e w' ⟨v, H', he, ⟨u, hv, h1 | ⟨h1, h2⟩⟩, hS⟩
  · exact ⟨v, H', he, ⟨u, hv, .inl h1⟩, hS⟩
  · exact ⟨v, H', he, ⟨u, hv, .inr ⟨by rw [h1]; decide, h2⟩⟩, hS⟩
theorem del_same {k : Nat} {L : List It} (h : ¬ cHas k L = true) : cDel k L = L := by unfold cDel; rw [if_neg h]
theorem putQ_new {k : Nat} {s : List UInt8} {L : List It} (h : putE k s L = 0) : putQ k s L = cPut k s L := by unfold putQ; rw [if_pos h]
theorem putQ_old {k : Nat} {s : List UInt8} {L : List It} (h : ¬ putE k s L = 0) : putQ k s L = L := by unfold putQ; rw [if_neg h]
theorem ChOk.putQ {L : List It} (h : ChOk L) (k : Nat) (s : List UInt8) : ChOk (putQ k s L) := by
  unfold Go.Proofs.Ytahmhcmfeloclaa.putQ
  split
  · rename_i h1; exact h.put h1
  · exact h
section
variable {P : Program} {N : Frm} {w0 w : World} {Wr : List Nat} {ops : Array Oper} {rest : List Oper} {fr : Fr} {H : Heap} {Z : Fr → Heap → Prop} {d ty : Nat} {pos : String} {after : Array Edge}
theorem sx_put {xs : List Operand} {ts : Array TypeId} {A : Option Addr} {c : Nat} (L : List It) (k : Nat) (s : List UInt8) (hA : SlIn A L.length c) (hS : (roE A (icells L)).Sublist H) (hok : ChOk L) (hx : evs fr xs = some [chV A L.length c, uq k, .string (str s)]) (hN : Nat.ble (d + 1) N.n = true)
    (h : ∀ A' c', SlIn A' (putQ k s L).length c' → sx Try.prog N w0 Wr ops rest ((d, .tuple #[chV A' (putQ k s L).length c', iq (putE k s L)]) :: fr) (roE A' (icells (putQ k s L)) ++ H) Z) :
    sx Try.prog N w0 Wr ops (⟨some d, .call { callee := .value (.func 26), args := xs.toArray, argTypes := ts }, ty, pos, after, none⟩ :: rest) fr H Z :=
  sx_callRow (fun u => .tuple #[.agg #[u], iq (putE k s L)]) (roE A (icells L)) (put_fn2 A c L _ hA (fun _ => rfl) (Ro.roE _ _) (by have := hok.len; omega) hok.rise k s) hx hS (Ro.roE _ _) hN
    (fun hp => by rw [putQ_new hp]; exact ⟨rfl, rfl⟩) (fun hp => by rw [putQ_old hp]; exact ⟨rfl, hA, hS⟩) h
theorem sx_rput {xs : List Operand} {ts : Array TypeId} {A : Option Addr} {c : Nat} (L : List It) (k : Nat) (s : List UInt8) (hA : SlIn A L.length c) (hS : (roE A (icells L)).Sublist H) (hok : ChOk L) (hx : evs fr xs = some [.slice A L.length c, uq k, .string (str s)]) (hN : Nat.ble (d + 1) N.n = true)
    (h : ∀ A' c', SlIn A' (putQ k s L).length c' → sx Try.prog N w0 Wr ops rest ((d, .tuple #[.slice A' (putQ k s L).length c', iq (putE k s L)]) :: fr) (roE A' (icells (putQ k s L)) ++ H) Z) :
    sx Try.prog N w0 Wr ops (⟨some d, .call { callee := .value (.func 27), args := xs.toArray, argTypes := ts }, ty, pos, after, none⟩ :: rest) fr H Z :=
  sx_callRow (fun u => .tuple #[u, iq (putE k s L)]) (roE A (icells L)) (rput_fn2 A c L _ hA.arg (fun _ => rfl) (Ro.roE _ _) (by have := hok.len; omega) hok.rise k s) hx hS (Ro.roE _ _) hN
    (fun hp => by rw [putQ_new hp]; exact ⟨rfl, rfl⟩) (fun hp => by rw [putQ_old hp]; exact ⟨rfl, hA, hS⟩) h
theorem sx_del {xs : List Operand} {ts : Array TypeId} {A : Option Addr} {c : Nat} (L : List It) (k : Nat) (hA : SlIn A L.length c) (hS : (roE A (icells L)).Sublist H) (hok : ChOk L) (hx : evs fr xs = some [chV A L.length c, uq k]) (hN : Nat.ble (d + 1) N.n = true)
    (h : ∀ A' c', SlIn A' (cDel k L).length c' → sx Try.prog N w0 Wr ops rest ((d, chV A' (cDel k L).length c') :: fr) (roE A' (icells (cDel k L)) ++ H) Z) :
    sx Try.prog N w0 Wr ops (⟨some d, .call { callee := .value (.func 40), args := xs.toArray, argTypes := ts }, ty, pos, after, none⟩ :: rest) fr H Z :=
  sx_callRow (fun u => .agg #[u]) (roE A (icells L)) (del_fn2 A c L _ hA (fun _ => rfl) (Ro.roE _ _) (by have := hok.len; omega) hok.rise k) hx hS (Ro.roE _ _) hN
    (fun hp => ⟨rfl, rfl⟩) (fun hp => by rw [del_same hp]; exact ⟨rfl, hA, hS⟩) h
end
theorem rget_mem (k : Nat) (L : List It) : (rGet k L).isSome = decide (k ∈ idsI L) := by
  induction L with
  | nil => simp [rGet, idsI]
  | cons e r ih =>
    rw [rGet]
    by_cases h : e.id = k
    · simp [h, idsI]
    · have h' : ¬ k = e.id := fun hh => h hh.symm
      rw [if_neg h, ih]
      simp [idsI, h']
end Go.Proofs.Ytahmhcmfeloclaa
