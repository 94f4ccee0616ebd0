/- Steps on bytes made of a text. No conditions. -/
import Derived.Test.YtfffhnefjaomnaaSxR
import Derived.Test.YtfffhnefjaomnaaSxQ
import Derived.Laws.IdiomStrings
namespace Go.Proofs.Ytfffhnefjaomnaa
open Go.RowKit
set_option linter.unusedVariables false
set_option linter.unusedSimpArgs false
set_option linter.unusedSectionVars false
/-- A conversion's row of bytes: the mark stands behind its last cell. -/
def BrP (e : TypeId) (l : List UInt8) (o : Obj) : Prop := ∃ cur : Array Value, o = .cells cur e (cur.size, cur.size + 1) ∧ cur.toList.take l.length = bv l ∧ l.length ≤ cur.size
section
variable {w0 w : World} {Wr : List Nat} {H : Heap} {g i : Nat} {e : TypeId} {l : List UInt8}
theorem rd_brp (hH : H[i]? = some (.ob g (BrP e l))) (hw : Sat w0 Wr H w) : Rd w 1 (some ⟨g, 0, none⟩) l.length (bv l) := by
  obtain ⟨ob, h1, cur, rfl, h2, h3⟩ := hw.mem hH
  refine ⟨by rw [bv_length, Nat.mul_one], fun h => (by cases h), fun _ => ⟨g, 0, rfl, Ent.lt (hw.mem hH), fun j u hu => ?_⟩⟩
  rw [Nat.zero_add, cell_of_row w g j cur e _ h1]
  have hj : j < (bv l).length := (List.getElem?_eq_some_iff.1 hu).1
  rw [bv_length] at hj
  rw [← h2, List.getElem?_take_of_lt hj] at hu
  simpa using hu
end
section
variable {P : Program} {N : Frm} {w0 : World} {Wr : List Nat} {ops : Array Oper} {rest : List Oper} {fr : Fr} {H H1 : Heap} {Z : Fr → Heap → Prop}
variable {d ty : Nat} {pos : String} {after : Array Edge}
theorem sx_convS {s t e : TypeId} {x : Operand} {l : List UInt8} (hs : P.underlying s = some .string) (ht : P.underlying t = some (.slice e)) (he : P.underlying e = some (.int .u8)) (hx : ev fr x = some (.string (str l))) (hN : Nat.ble (d + 1) N.n = true)
    (h : ∀ g c, sx P N w0 Wr ops rest ((d, .slice (some ⟨g, 0, none⟩) l.length c) :: fr) (.ob g (BrP e l) :: H) Z) : sx P N w0 Wr ops (⟨some d, .convert s t x, ty, pos, after, none⟩ :: rest) fr H Z := by
  refine sx_make (R := fun v H' => ∃ g c, v = .slice (some ⟨g, 0, none⟩) l.length c ∧ H' = .ob g (BrP e l) :: H) hN (fun a w ha hw => ?_) (fun v H' hR => by obtain ⟨g, c, rfl, rfl⟩ := hR; exact h g c)
  have hrun := run_bytes_of_string w s t e (str l) hs ht he
  refine ⟨_, w.drew.alloc (.cells (bytesRow (str l) (grownCap w (str l).size 0 e)) e ((bytesRow (str l) (grownCap w (str l).size 0 e)).size, (bytesRow (str l) (grownCap w (str l).size 0 e)).size + 1)), .ob w.heap.size (BrP e l) :: H, ?_, ⟨w.heap.size, grownCap w (str l).size 0 e, rfl, rfl⟩, ?_⟩
  · simp only [execOp, ha.eval hx, Sem.run_bind, hrun, Result.andThen_ok, Sem.run_pure, str_size]
  · refine hw.fresh (w := w) ?_ (((Bel.refl w).drew).alloc _) (Nat.le_refl _)
    refine ⟨_, ?_, bytesRow (str l) (grownCap w (str l).size 0 e), rfl, ?_, ?_⟩
    · show (w.heap.push _)[w.heap.size]? = _
      simp
    · simp [bytesRow, str, bv]
    · simp [bytesRow, str]
theorem sx_storeB (i : Nat) {t : TypeId} {x y : Operand} {g o : Nat} {e : TypeId} {l : List UInt8} {c : UInt8} (hx : ev fr x = some (ptr g o)) (hy : ev fr y = some (.int .u8 (c.toNat : Int))) (hH : H[i]? = some (.ob g (BrP e l))) (hn : tySize P t = some 1)
    (hlen : o < l.length) {H2 : Heap} (hs : H.set i (.ob g (BrP e (l.set o c))) = H2)
    (h : sx P N w0 Wr ops rest fr H2 Z) : sx P N w0 Wr ops (⟨none, .store t x y, ty, pos, after, none⟩ :: rest) fr H Z :=
  sx_do (fun a w ha hw => by
    subst hs
    obtain ⟨ob, h1, cur, rfl, h2, h3⟩ := hw.mem hH
    have hc : w.cell? ⟨g, o, none⟩ = some cur[o] := by rw [cell_of_row w g o cur e _ h1]; simp
    have hf : w.frozen? ⟨g, o, none⟩ = false := by
      simp [World.frozen?, h1]
      omega
    have hst : (store ⟨g, o, none⟩ (.int .u8 (c.toNat : Int))).run P w = .ok () (w.setCell ⟨g, o, none⟩ (.int .u8 (c.toNat : Int))) := by simp [store, Sem.run, hc, hf]
    refine ⟨w.setCell ⟨g, o, none⟩ (.int .u8 (c.toNat : Int)), ?_, hw.turn hH rfl rfl (Only.setCell w g o _) ?_⟩
    · have hsz : (Value.int .u8 (c.toNat : Int)).cells = #[.int .u8 (c.toNat : Int)] := rfl
      have ha0 : Addr.add ⟨g, o, none⟩ 0 = ⟨g, o, none⟩ := rfl
      simp [execOp, Instr.storeAt, ha.eval hx, ha.eval hy, ptr, Instr.sureAddr, Sem.run_bind, Sem.run_pure, Result.andThen_ok, storeVar, run_sizeOf hn, hsz, storeCells, ha0, hst]
    · refine ⟨.cells (cur.set! o (.int .u8 (c.toNat : Int))) e (cur.size, cur.size + 1), ?_, cur.set! o (.int .u8 (c.toNat : Int)), by simp, ?_, by simpa using h3⟩
      · simp [World.setCell, Array.getElem?_modify, h1]
      · rw [List.length_set]
        have : (cur.set! o (.int .u8 (c.toNat : Int))).toList = cur.toList.set o (.int .u8 (c.toNat : Int)) := by simp
        rw [this, List.take_set, h2]
        simp [bv, List.map_set]) h
theorem sx_offU {op : Op} {j t : Nat} {b' : Bool} {oj : Oper} (hj : ops[j]? = some oj) (ht : oj.dst = some t) (hb : lk fr t = some undef) (hN : Nat.ble (d + 1) N.n = true)
    (h : sx P N w0 Wr ops rest ((d, undef) :: fr) H Z) : sx P N w0 Wr ops (⟨some d, op, ty, pos, after, some (j, b')⟩ :: rest) fr H Z :=
  fun Q hQ a w ha hw => by
    have hy : yielded ops a.tmps j = none := by
      have := ha.at_ t _ hb
      simp [yielded, hj, ht, this, undef]
    unfold wpList
    have h2 : Region.wanted (⟨some d, op, ty, pos, after, some (j, b')⟩ : Oper) (yielded ops a.tmps) = false := by simp [Region.wanted, hy]
    rw [if_neg (by simp [h2])]
    exact h Q hQ _ w (ha.put hN undef) hw
theorem sq_offU {op : Op} {j t : Nat} {b' : Bool} {oj : Oper} (hj : ops[j]? = some oj) (ht : oj.dst = some t) (hb : lk fr t = some undef) (hN : Nat.ble (d + 1) N.n = true)
    (h : sq P N w0 Wr ops rest ((d, undef) :: fr) H Z) : sq P N w0 Wr ops (⟨some d, op, ty, pos, after, some (j, b')⟩ :: rest) fr H Z :=
  fun Q hQ a ha => by
    have hy : yielded ops a.tmps j = none := by
      have := ha.at_ t _ hb
      simp [yielded, hj, ht, this, undef]
    unfold wpQuiet
    have h2 : Region.wanted (⟨some d, op, ty, pos, after, some (j, b')⟩ : Oper) (yielded ops a.tmps) = false := by simp [Region.wanted, hy]
    rw [if_neg (by simp [h2])]
    exact h Q hQ _ (ha.put hN undef)
theorem bits_u8 (x y : UInt8) : bitsV .xor .u8 (x.toNat : Int) (y.toNat : Int) = ((x ^^^ y).toNat : Int) := by
  have hb : ∀ z : UInt8, (BitVec.ofInt 8 (z.toNat : Int)).toNat = z.toNat := fun z => by
    have := z.toNat_lt
    rw [BitVec.toNat_ofInt]
    omega
  show IntKind.u8.wrap (((BitVec.ofInt 8 (x.toNat : Int)) ^^^ (BitVec.ofInt 8 (y.toNat : Int))).toNat : Int) = _
  rw [BitVec.toNat_xor, hb, hb, ← UInt8.toNat_xor]
  exact IntWalk.u8_in _ (by have := (x ^^^ y).toNat_lt; omega)
end
end Go.Proofs.Ytfffhnefjaomnaa
