/- Steps on slices for regions that draw their order and only read. No conditions. (Written by tools/mksq.py.) -/
import Derived.Test.YtfffhnefjaomnaaSxR
namespace Go.Proofs.Ytfffhnefjaomnaa
open Go.RowKit
set_option linter.unusedVariables false
set_option linter.unusedSimpArgs false
set_option linter.unusedSectionVars false
section
variable {P : Program} {N : Frm} {w0 : World} {Wr : List Nat} {ops : Array Oper} {rest : List Oper} {fr : Fr} {H : Heap} {Z : Fr → Heap → Prop}
variable {d ty : Nat} {pos : String} {after : Array Edge}
theorem sq_loadRd {t : TypeId} {x : Operand} {g o q n size m : Nat} {xs : List Value} {agg : Bool} {v : Value} (k : Nat) (hx : ev fr x = some (ptr g q)) (hq : q = o + k) (hr : ∀ w, Sat w0 Wr H w → Rd w size (some ⟨g, o, none⟩) n xs) (hn0 : 0 < n) (ht : tyAgg P t = some agg) (hn : tySize P t = some m) (hv : rdV agg m xs k = some v) (hN : Nat.ble (d + 1) N.n = true)
    (h : sq P N w0 Wr ops rest ((d, v) :: fr) H Z) : sq P N w0 Wr ops (⟨some d, .load t x, ty, pos, after, none⟩ :: rest) fr H Z :=
  sq_val v hN (fun a w ha hw => by
    subst hq
    obtain ⟨g', o', hA, hlt, hc⟩ := (hr w hw).2.2 hn0
    injection hA with hA
    injection hA with h1 h2 _
    subst h1; subst h2
    simp only [execOp, Instr.loadAt, ha.eval hx, ptr, Instr.sureAddr, Sem.run_bind, Sem.run_pure, Result.andThen_ok]
    have : (loadVar t ⟨g, o + k, none⟩).run P w = .ok v w := by
      unfold loadVar
      simp only [Sem.run_bind, run_isAgg ht, Result.andThen_ok]
      cases agg with
      | false => simp [load, Sem.run, hc k v hv]
      | true =>
        simp only [rdV, cond_true] at hv
        cases hb : Nat.ble (k + m) xs.length with
        | false => rw [hb] at hv; cases hv
        | true =>
          rw [hb] at hv
          obtain rfl := Option.some.inj hv
          have hle := Nat.le_of_ble_eq_true hb
          simp only [if_true, Sem.run_bind, run_sizeOf hn, Result.andThen_ok, loadCells]
          rw [run_loadCells (P := P) ⟨g, o + k, none⟩ m 0 #[] ((xs.drop k).take m) (by simp; omega) (fun j u hu => by
            have e : Addr.add ⟨g, o + k, none⟩ (0 + j) = ⟨g, o + (k + j), none⟩ := by rw [addr_add]; congr 1; omega
            rw [e]
            refine hc _ _ ?_
            rw [List.getElem?_take] at hu
            split at hu
            · rw [← hu, List.getElem?_drop]
            · cases hu)]
          simp
    rw [this]
    rfl) h
theorem sq_strB {s t : TypeId} {x : Operand} {A : Option Addr} {n c : Nat} {l : List UInt8} {e : TypeId} (hs : P.underlying s = some (.slice e)) (he : P.underlying e = some (.int .u8)) (ht : P.underlying t = some .string) (hx : ev fr x = some (.slice A n c))
    (hr : ∀ w, Sat w0 Wr H w → Rd w 1 A n (bv l)) (hN : Nat.ble (d + 1) N.n = true)
    (h : sq P N w0 Wr ops rest ((d, .string (str l)) :: fr) H Z) : sq P N w0 Wr ops (⟨some d, .convert s t x, ty, pos, after, none⟩ :: rest) fr H Z :=
  sq_val _ hN (fun a w ha hw => by
    simp only [execOp, ha.eval hx, Sem.run_bind, run_str (hr w hw) s e t hs he ht, Result.andThen_ok, Sem.run_pure]) h
end
end Go.Proofs.Ytfffhnefjaomnaa
