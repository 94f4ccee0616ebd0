/- What the laws of lru share: arguments, items that came of a call. No conditions. -/
import Derived.Test.YtoadkdlhbmmdlaaLr12
import Derived.Test.YtoadkdlhbmmdlaaOpen4
namespace Go.Proofs.Ytoadkdlhbmmdlaa
open Go.RowKit
set_option linter.unusedVariables false
set_option linter.unusedSimpArgs false
theorem stepL_len {s : CS} {most d : Nat} {L : List Item} {k : Ky} {v : List UInt8} (hR : Rep s L) (hm : L.length ≤ most) : (stepL most d L k v).length ≤ most := by
  have hdl := drop_len L k
  unfold stepL
  split
  · unfold rPutL
    split
    · assumption
    · simp; omega
  · split
    · unfold rGetL
      cases hk : hasK L k with
      | false => exact hm
      | true =>
        obtain ⟨i, v', hi⟩ := hasK_iff.1 hk
        have hlt : i < L.length := (List.getElem?_eq_some_iff.1 hi).1
        rw [hR.drop hi]
        simp [List.length_eraseIdx, hlt]
        omega
    · split
      · exact hm
      · omega
theorem fresh_le {g b : Nat} {most : Int} {s2 : CS} {A A2 : Option Addr} {L L2 : List Item} {T2 Y : Heap} (h : Fresh A A2 L L2 T2) :
    HLe (cacheH g b most s2 ++ (Y ++ roE A2 (icells L2))) ((T2 ++ cacheH g b most s2).filter Ent.wr ++ (Y ++ roE A (icells L))) := by
  rcases h with ⟨rfl, rfl, rfl⟩ | ⟨rfl, rfl⟩ | ⟨g', o', rfl, rfl⟩
  · exact HLe.refl _
  · exact HLe.sub (List.Sublist.append_left (List.Sublist.append_left (List.nil_sublist _) _) (cacheH g b most s2))
  · refine HLe.trans ?_ (read_ro (cacheH g b most s2 ++ (Y ++ roE A (icells L))))
    refine HLe.trans (b := (cacheH g b most s2 ++ (Y ++ roE A (icells L))) ++ [.ro g' o' (icells L2)]) (HLe.sub ?_) HLe.last
    rw [List.append_assoc, List.append_assoc]
    exact List.Sublist.append_left (List.Sublist.append_left (List.sublist_append_right _ _) _) _
theorem leaves_op : leaves Try.prog 5 34 = some [.int .u8, .int .u64, .int .u64, .string] := by kernel_rfl
theorem op_of (r : List Value) (h : Alike [.int .u8, .int .u64, .int .u64, .string] r) : ∃ x : Opn, x.d < 256 ∧ r = ocell x := by
  obtain ⟨d, c, rfl, hd, a1⟩ := alike_u8 h
  obtain ⟨k1, c, rfl, _, a2⟩ := alike_u64 a1
  obtain ⟨k2, c, rfl, _, a3⟩ := alike_u64 a2
  cases a3 with
  | cons hs ht =>
    cases ht
    obtain ⟨l, rfl, _⟩ := hs
    exact ⟨⟨d, (k1, k2), l⟩, hd, rfl⟩
theorem open_ops {H : Type} {enc : TypeId × Value → H} {w : World} {b0 : Nat} {r : Reach} {v : Value} {d : DataW H} {p : List MemPlace}
    (hv : Value.okWide Try.prog w r b0 22 v) (h : DataW.Trod enc Try.prog w 0 (fun _ => true) true 22 v d p) :
    ∃ A c, ∃ OL : List Opn, ∃ T : Heap, v = .slice A OL.length c ∧ ArgOk A OL.length ∧ OL.length ≤ maxLen ∧ (∀ x ∈ OL, x.d < 256) ∧ (0 < OL.length → T = roE A (ocells OL)) ∧ Ro T ∧ Sat w [] T w := by
  obtain ⟨A, n, c, rows, rfl, h1, h2, h3, h4⟩ := open_rows 5 Try.underlying22 leaves_op (by kernel_rfl) (by decide) hv h
  obtain ⟨OL, h5, h6, h7⟩ := rows_as (f := ocell) (ok := fun x => x.d < 256) op_of rows h3
  have hn : OL.length = n := by omega
  subst hn
  rw [h5] at h4
  by_cases h0 : 0 < OL.length
  · exact ⟨A, c, OL, roE A (ocells OL), rfl, arg_ok h4, h2, h7, fun _ => rfl, Ro.roE _ _, arg_sat h4 h0⟩
  · exact ⟨A, c, OL, [], rfl, arg_ok h4, h2, h7, fun h => absurd h h0, Ro.nil, Sat.nil w⟩
theorem tail_bel {f : FuncId} {vs : List Value} {v : Value} {T : Heap} {w : World} (hro : Ro T) (hS : Sat w [] T w) (h : Fn Try.prog f vs T fun u _ => u = v) : Calls Try.prog f vs.toArray w fun e w' => e = .returned v ∧ Bel w w' := by
  have h0 : wrs T = [] := by have := hro.wrs []; simpa [wrs] using this
  have := h.2 w (by rw [h0]; exact hS)
  rw [h0] at this
  exact this.mono fun e w' he => by
    obtain ⟨u, H', rfl, rfl, h3⟩ := he
    exact ⟨rfl, h3.only.bel⟩
section
variable {P : Program} {N : Nat} {w0 : World} {Wr : List Nat} {ops : Array Oper} {rest : List Oper} {fr : Fr} {H : Heap} {Z : Fr → Heap → Prop}
variable {d ty : Nat} {pos : String} {after : Array Edge}
theorem sx_nilNil {t t' e : TypeId} {x : Operand} (ht : P.underlying t = some (.pointer e)) (hx : ev fr x = some (.pointer none)) (hN : Nat.ble (d + 1) N = true)
    (h : sx P N w0 Wr ops rest ((d, .bool true) :: fr) H Z) : sx P N w0 Wr ops (⟨some d, .binOp .eql t x (.const (.pointer none)) t', ty, pos, after, none⟩ :: rest) fr H Z :=
  sx_val _ hN (fun a w ha _ => by
    have e' : a.eval (.const (.pointer none)) = .pointer none := rfl
    have hq : (Op.equal t (.pointer none) (.pointer none)).run P w = .ok true w := by
      unfold Op.equal Op.maxDepth Op.equalIn
      simp [Sem.run_bind, run_underlying ht]
    have hg : (eqGuard .eql t x (.const (.pointer none)) (.pointer none) (.pointer none)).run P w = .ok () w := by
      unfold eqGuard
      split <;> rfl
    simp only [execOp, ha.eval hx, e', Sem.run_bind, hg, Result.andThen_ok, binOp]
    simp [hq]) h
end
end Go.Proofs.Ytoadkdlhbmmdlaa
