/- Walks and plain laws for this claim (texts Nt3, Nt4, Mg4, Lf10, Lf11, Lf12, Lf13, Lf14, Lf15, joined). Each theorem states its own conditions. -/
import Derived.Test.YtkojkeabelckjaaGreatDoorJ09
import Derived.Test.YtkojkeabelckjaaGreatDoorJ16
import Derived.Test.YtkojkeabelckjaaGreatDoorJ13
import Derived.Test.YtkojkeabelckjaaGreatDoorJ17
import Derived.Test.YtkojkeabelckjaaGreatDoorJ20
import Derived.Test.YtkojkeabelckjaaGreatDoorJ21
import Derived.Test.YtkojkeabelckjaaGreatDoorJ24

section
set_option linter.all false
namespace Go.Proofs.YtkojkeabelckjaaGreatDoor
open Go.RowKit Go.Proofs.YtkojkeabelckjaaGreatDoor.V Go.Proofs.YtkojkeabelckjaaGreatDoor.Y
set_option maxRecDepth 100000
section
variable {P : Program} {N : Frm} {w0 : World} {Wr : List Nat} {ops : Array Oper} {rest : List Oper} {fr : Fr} {H : Heap} {Z : Fr → Heap → Prop}
variable {d ty : Nat} {pos : String} {after : Array Edge}
theorem sx_assertYes {t xT e : TypeId} {x : Operand} {v : Value} (ht : P.underlying t = some (.slice e)) (hx : ev fr x = some (.iface t v)) (hN : Nat.ble (d + 1) N.n = true)
    (h : sx P N w0 Wr ops rest ((d, .tuple #[v, .bool true]) :: fr) H Z) : sx P N w0 Wr ops (⟨some d, .typeAssert x xT t true, ty, pos, after, none⟩ :: rest) fr H Z :=
  jE2 _ hN (fun a w ha _ => by
    simp [execOp, Instr.typeAssert, ha.eval hx, Sem.run_bind, run_underlying ht]) h
end
structure Pn where
  b : Nat
  k : Nat
  note : List UInt8
abbrev Pn.cells (p : Pn) : List Value := [iq (p.b : Nat), .int .u8 (p.k : Nat), .string (str p.note)]
def NoteOk (note : List UInt8) : Prop := Fn Tryz.prog 45 [.string (str note)] [] fun u _ => ∃ x n, u = .tuple #[.iface 108 x, iq (n : Nat), iq 0]
theorem note0 : NoteOk [123, 125] := by
  obtain ⟨h1, h2⟩ := take0_fn [123, 125] (by decide) (by decide) (by decide) (by decide)
  exact ⟨h1, fun w hw => (h2 w hw).mono fun e w' he => by
    obtain ⟨v, H', e1, ⟨A, c, e2⟩, e3⟩ := he
    exact ⟨v, H', e1, ⟨_, _, e2⟩, e3⟩⟩
theorem pcheck_fn (p : Pn) (hb : 512 ≤ p.b ∧ p.b ≤ 16257) (hk : p.k ≤ 5) (hn : NoteOk p.note) : Fn Tryz.prog 21 [.agg p.cells.toArray] [] fun v _ => v = iq 0 := by
  refine Fn.enter (N := 38) Tryz.func21 rfl (by kernel_rfl) rfl (fun w0 => ?_)
  refine aR (fun Z hZ => ?_)
  refine jA5 rfl rfl rfl (fun g1 => ?_)
  refine sA rfl rfl <| sN (hZ _ _ ?_)
  refine aF [(1, _)] (Kn.cons rfl (Kn.nil)) ?_
  refine aS (aB ?_)
  refine jA1 [(1, ptr g1 0), (8, .bool false)] [.own g1 31 p.cells] (fun Z hZ => ?_) ?_
  · refine sFA rfl tyF31_0 (by simp only [Nat.add_zero]; rfl) rfl ?_
    first | refine sL 0 rfl rfl tyA3 tyS3 rfl rfl ?_
    refine jC3 rfl rfl rfl ?_
    refine sM rfl rfl ?_
    refine sx_force 12 rfl false (by simp; omega) ?_
    refine sOn rfl rfl rfl ?_
    refine sFA rfl tyF31_0 (by simp only [Nat.add_zero]; rfl) rfl ?_
    refine sOn rfl rfl rfl ?_
    first | refine sL 0 rfl rfl tyA3 tyS3 rfl rfl ?_
    refine sOn rfl rfl rfl ?_
    refine jE3 rfl rfl rfl ?_
    refine sP rfl rfl rfl <| sA rfl rfl ?_
    refine sN (hZ _ _ ?_ ?_)
    · exact Kn.cons rfl (Kn.cons (congrArg some (congrArg Value.bool (by simp; omega))) Kn.nil)
    · exact HLe.refl _
  refine aC rfl (fun h => ?_) (fun h => ?_)
  · cases h
  refine aR (fun Z hZ => ?_)
  refine sFA rfl tyF31_1 (by simp only [Nat.zero_add]; rfl) rfl ?_
  first | refine sL 0 rfl rfl tyA5 tyS5 rfl rfl ?_
  refine jE3 rfl rfl rfl ?_
  refine sA rfl rfl <| sN (hZ _ _ ?_)
  refine aF [(1, _), (17, _)] (Kn.cons rfl (Kn.cons rfl (Kn.nil))) ?_
  refine aC rfl (fun h => ?_) (fun h => ?_)
  · simp at h; omega
  refine aK ?_
  repeat (with_reducible refine nBN ?_)
  with_reducible refine nN ?_
  refine aR (fun Z hZ => ?_)
  refine sFA rfl tyF31_2 (by simp only [Nat.zero_add]; rfl) rfl ?_
  first | refine sL 0 rfl rfl tyA9 tyS9 rfl rfl ?_
  refine sx_callA [] [] [.own g1 31 p.cells] hn rfl (HLe.refl _) (List.nil_sublist _) Ro.nil rfl ?_
  rintro v H' ⟨x, m, rfl⟩
  refine jE0 [.own g1 31 p.cells] (HLe.sub (List.sublist_append_right _ _)) ?_
  refine sM rfl rfl <| sX rfl rfl rfl <| sX rfl rfl rfl <| sX rfl rfl rfl <| sA rfl rfl <| sA rfl rfl <| sA rfl rfl <| sN (hZ _ _ ?_)
  refine aF [(3, _), (5, _)] (Kn.cons rfl (Kn.cons rfl (Kn.nil))) ?_
  refine aS ?_
  refine aR fun Z hZ => sM rfl rfl ?_
  refine jC9 rfl rfl rfl ?_
  refine sN (hZ _ _ ?_)
  refine aF [(3, _), (5, _), (29, _)] (Kn.cons rfl (Kn.cons rfl (Kn.cons rfl (Kn.nil)))) ?_
  refine aC rfl (fun h => ?_) (fun h => ?_)
  · cases h
  refine aK ?_
  with_reducible refine nN ?_
  refine aS ?_
  refine aR fun Z hZ => sM rfl rfl ?_
  refine sx_assertYes Tryz.underlying108 rfl rfl ?_
  refine sM rfl rfl <| sX rfl rfl rfl <| sX rfl rfl rfl <| sA rfl rfl <| sA rfl rfl <| sN (hZ _ _ ?_)
  refine aF [(7, _)] (Kn.cons rfl (Kn.nil)) ?_
  refine aR fun Z hZ => sM rfl rfl ?_
  refine sx_not rfl rfl ?_
  refine sN (hZ _ _ ?_)
  refine aF [(37, _)] (Kn.cons rfl (Kn.nil)) ?_
  refine aC rfl (fun h => ?_) (fun h => ?_)
  · cases h
  refine aK ?_
  with_reducible refine nN ?_
  refine aR fun Z hZ => sA rfl rfl <| sN (hZ _ _ ?_)
  refine aF [(2, _)] (Kn.cons rfl (Kn.nil)) ?_
  refine aE ?_
  exact nR1 rfl rfl rfl
theorem cstM_le (L : List En) : (cstM L).length ≤ L.length := by
  obtain ⟨h1, h2⟩ := cst_keys L [] List.nodup_nil
  rw [← cst_len]
  have := len_le_sub (jD1 (cstM L)) (L.map fun e => (e.off, e.len)) h1 (fun k hk => by
    rcases (h2 k).1 hk with h3 | ⟨e, he, _, h3⟩
    · simp [jD1] at h3
    · exact List.mem_map.2 ⟨e, he, h3⟩)
  rwa [List.length_map] at this
def headQ (L : List It) (R : List En) (k : Nat) : Hdr :=
  ⟨0, 0, 0, 0, 0, 0, 0, 0, L.length, R.length, (cstM R).length, true, 1, 1, k, zLo L, zHi L, -1800000000, -850511287, 1800000000, 850511287, zLo L, 0, 0⟩
theorem phead_fn (A : Option Addr) (c : Nat) (L : List It) (T : Heap) (hA : ArgOk A L.length) (hT : 0 < L.length → T = roE A (jB0 L)) (hro : Ro T) (hL : L.length ≤ 100000) (hk : ItsOk L)
    (B : Option Addr) (d : Nat) (R : List En) (U : Heap) (hB : ArgOk B R.length) (hU : 0 < R.length → U = roE B (jA0 R)) (hroU : Ro U) (hR : R.length ≤ 100000) (hE : jD6 R) (k : Nat) :
    Fn Tryz.prog 26 [chV A L.length c, .slice B R.length d, .int .u8 (k : Nat)] (T ++ U) fun v _ => v = (headQ L R k).val := by
  refine Fn.enter (N := 35) Tryz.func26 rfl (by kernel_rfl) rfl (fun w0 => ?_)
  refine aR (fun Z hZ => ?_)
  refine jA5 rfl rfl rfl (fun g1 => ?_)
  refine sAl tyZ78 rfl (fun g2 => ?_)
  refine sN (hZ _ _ ?_)
  refine aF [(1, _), (2, _), (3, _), (6, _)] (Kn.cons rfl (Kn.cons rfl (Kn.cons rfl (Kn.cons rfl (Kn.nil))))) ?_
  have hlen : ∀ n : Nat, n ≤ 100000 → IntKind.u64.wrap ((n : Nat) : Int) = ((n : Nat) : Int) := fun n hn => IntWalk.u64_in _ ⟨by omega, by omega⟩
  have hcs := cstM_le R
  refine aR (fun Z hZ => ?_)
  refine sLA 1 rfl rfl tyA27 tyS27 rfl (by simp only [List.take_succ_cons, List.take_zero, List.drop_zero, Value.cells]; rfl) rfl ?_
  refine sCP (len_fn A L.length c) rfl rfl ?_
  refine jA6 Tryz.underlying3 Tryz.underlying45 rfl _ (hlen _ hL) rfl ?_
  refine sM rfl rfl ?_
  refine jE7 Tryz.underlying68 rfl rfl ?_
  refine jA6 Tryz.underlying3 Tryz.underlying45 rfl _ (hlen _ hR) rfl ?_
  refine sM rfl rfl ?_
  refine jF4 U (contents_fn B d R U hB hU hR hE) rfl ((List.sublist_append_right T U).trans (List.sublist_append_right [_, _] _)) hroU rfl ?_
  refine jA6 Tryz.underlying3 Tryz.underlying45 rfl _ (hlen _ (by omega)) rfl ?_
  refine sM rfl rfl ?_
  refine jB3 (cs := [uq 0, uq 0, uq 0, uq 0, uq 0, uq 0, uq 0, uq 0, uq L.length, uq R.length, uq (cstM R).length, .bool true, ub 1, ub 1, ub k, iq 0, iq 0, iq 0, iq 0, iq 0, iq 0, iq 0, iq 0, iq 0]) tyZ78 tyP78 rfl (by kernel_rfl) rfl rfl ?_
  refine sAl tyZ78 rfl (fun g3 => ?_)
  refine sS 0 rfl rfl rfl tyS78 (by simp only [Value.cells]; rfl) rfl rfl rfl (by simp only [List.take_zero, List.drop_succ_cons, List.drop_zero, List.nil_append, List.append_nil, List.length_cons, List.length_nil, Nat.reduceAdd, Nat.zero_add, wrV]; rfl) (by simp only [List.set_cons_zero]; rfl) ?_
  refine sN (hZ _ _ ?_)
  refine aF [(3, _), (6, _), (7, _)] (Kn.cons rfl (Kn.cons rfl (Kn.cons rfl (Kn.nil)))) ?_
  refine aR (fun Z hZ => ?_)
  refine sLA 2 rfl rfl tyA27 tyS27 rfl (by simp only [List.take_succ_cons, List.take_zero, List.drop_zero, Value.cells]; rfl) rfl ?_
  refine jF4 T (zooms_fn A c L T hA hT hro (by omega) hk) rfl ((List.sublist_append_left T U).trans (List.sublist_append_right [_, _, _] _)) hro rfl ?_
  refine sM rfl rfl <| sX rfl rfl rfl <| sX rfl rfl rfl <| sX rfl rfl rfl ?_
  refine sFA rfl tyF78_11 (by simp only [Nat.zero_add]; rfl) rfl ?_
  refine sS1 0 rfl rfl rfl tyS3 rfl rfl (by simp only [List.set_cons_succ, List.set_cons_zero]; rfl) (by simp only [List.set_cons_zero]; rfl) ?_
  refine sFA rfl tyF78_12 (by simp only [Nat.zero_add]; rfl) rfl ?_
  refine sS1 0 rfl rfl rfl tyS3 rfl rfl (by simp only [List.set_cons_succ, List.set_cons_zero]; rfl) (by simp only [List.set_cons_zero]; rfl) ?_
  refine sN (hZ _ _ ?_)
  refine aF [(6, _), (7, _)] (Kn.cons rfl (Kn.cons rfl (Kn.nil))) ?_
  refine aR (fun Z hZ => ?_)
  refine sFA rfl tyF78_11 (by simp only [Nat.zero_add]; rfl) rfl ?_
  refine sL 0 rfl rfl tyA3 tyS3 rfl rfl ?_
  refine sFA rfl tyF78_17 (by simp only [Nat.zero_add]; rfl) rfl ?_
  refine sS1 0 rfl rfl rfl tyS3 rfl rfl (by simp only [List.set_cons_succ, List.set_cons_zero]; rfl) (by simp only [List.set_cons_zero]; rfl) ?_
  refine sN (hZ _ _ ?_)
  refine aF [(6, _), (7, _)] (Kn.cons rfl (Kn.cons rfl (Kn.nil))) ?_
  refine aR (fun Z hZ => ?_)
  refine sFA rfl tyF78_13 (by simp only [Nat.zero_add]; rfl) rfl ?_
  refine sS1 0 rfl rfl rfl tyS3 rfl rfl (by simp only [List.set_cons_succ, List.set_cons_zero]; rfl) (by simp only [List.set_cons_zero]; rfl) ?_
  refine sFA rfl tyF78_15 (by simp only [Nat.zero_add]; rfl) rfl ?_
  refine sS1 0 rfl rfl rfl tyS3 rfl rfl (by simp only [List.set_cons_succ, List.set_cons_zero]; rfl) (by simp only [List.set_cons_zero]; rfl) ?_
  refine sFA rfl tyF78_14 (by simp only [Nat.zero_add]; rfl) rfl ?_
  refine sS1 0 rfl rfl rfl tyS3 rfl rfl (by simp only [List.set_cons_succ, List.set_cons_zero]; rfl) (by simp only [List.set_cons_zero]; rfl) ?_
  refine sFA rfl tyF78_16 (by simp only [Nat.zero_add]; rfl) rfl ?_
  refine sS1 0 rfl rfl rfl tyS3 rfl rfl (by simp only [List.set_cons_succ, List.set_cons_zero]; rfl) (by simp only [List.set_cons_zero]; rfl) ?_
  refine sN (hZ _ _ ?_)
  refine aF [(6, _), (7, _)] (Kn.cons rfl (Kn.cons rfl (Kn.nil))) ?_
  refine aR (fun Z hZ => ?_)
  refine sLA 0 rfl rfl tyA78 tyS78 rfl (by simp only [List.take_succ_cons, List.take_zero, List.drop_zero]; rfl) rfl ?_
  refine sS 1 rfl rfl rfl tyS78 (by simp only [Value.cells]; rfl) rfl rfl rfl (by simp only [List.take_zero, List.drop_succ_cons, List.drop_zero, List.nil_append, List.append_nil, List.length_cons, List.length_nil, Nat.reduceAdd, Nat.zero_add, wrV]; rfl) (by simp only [List.set_cons_succ, List.set_cons_zero]; rfl) ?_
  refine sN (hZ _ _ ?_)
  refine aF [(6, _)] (Kn.cons rfl (Kn.nil)) ?_
  refine aE ?_
  exact jD4 [] rfl (ResOk.cell 1 rfl rfl tyA78 tyS78 rfl) (HLe.sub (List.nil_sublist _)) rfl
abbrev errE (g : Nat) (e : Int) : Ent := .own g 32 [iq e]
abbrev strE (g : Nat) (s : List UInt8) : Ent := .own g 9 [.string (str s)]
theorem pdef_fn (ge gs : Nat) (e : Int) (s : List UInt8) : FnD Tryz.prog 20 [ptr ge 0, ptr gs 0] [errE ge e, strE gs s] fun v H' => v = .tuple #[] ∧ H' = [errE ge e, strE gs (if e = 0 then s else [])] := by
  refine FnD.enter (N := 4) Tryz.func20 rfl (by kernel_rfl) rfl (fun w0 => ?_)
  refine aR (fun Z hZ => ?_)
  refine sL 0 rfl rfl tyA32 tyS32 rfl rfl ?_
  refine jC9 rfl rfl rfl ?_
  refine sN (hZ _ _ ?_)
  refine aF [(1, _), (3, _)] (Kn.cons rfl (Kn.cons rfl (Kn.nil))) ?_
  refine aC rfl (fun h => ?_) (fun h => ?_)
  · have h' : e ≠ 0 := by simpa using h
    rw [if_neg h']
    refine aG (fun Z hZ => ?_)
    refine sS1 1 rfl rfl rfl tyS9 rfl rfl (by simp only [List.set_cons_zero]; rfl) (by simp only [List.set_cons_succ, List.set_cons_zero]; rfl) ?_
    refine sN (hZ _ _ ?_)
    refine nF [] (Kn.nil) ?_
    exact nx_end0h _ rfl (HLe.refl _) ⟨rfl, rfl⟩
  · have h' : e = 0 := by simpa using h
    subst h'
    refine aK ?_
    exact nx_end0h _ rfl (HLe.refl _) ⟨rfl, rfl⟩
def prR (L : List It) : List En := (rowsS L).1
def prD (L : List It) : List UInt8 := (rowsS L).2.flatten
def prS (L : List It) (b : Nat) : List En × List UInt8 × Nat × Nat := jH0 (prR L) (b : Nat)
def prP (L : List It) (p : Pn) : P4 := ⟨(encQ (prS L p.b).1).1, p.note, (prS L p.b).2.1, prD L⟩
def prH (L : List It) (p : Pn) : Hdr := headQ L (prR L) p.k
def prE (L : List It) (p : Pn) : Int := if (prS L p.b).2.2.2 ≠ 0 then ((prS L p.b).2.2.2 : Nat) else if (encQ (prS L p.b).1).2 ≠ 0 then ((encQ (prS L p.b).1).2 : Nat) else jE9 (glueH (prH L p) (prP L p))
def prT (L : List It) (p : Pn) : List UInt8 := if prE L p = 0 then glueS (prH L p) (prP L p) else []
structure PrOk (L : List It) (p : Pn) : Prop where
  ok : ChOk L
  b : 512 ≤ p.b ∧ p.b ≤ 16257
  k : p.k ≤ 5
  note : NoteOk p.note
  parts : (prP L p).Ok
  root : (prS L p.b).1.length ≤ 10000 ∧ jD6 (prS L p.b).1
  rows : (prR L).length ≤ 10000 ∧ jD6 (prR L)
theorem headQ_ok {L : List It} {R : List En} {k : Nat} (hL : L.length ≤ 100000) (hR : R.length ≤ 100000) (hk : k ≤ 5) : (headQ L R k).Ok := by
  have := cstM_le R
  refine ⟨?_, ?_, ?_, ?_, ?_, ?_, ?_, ?_, ?_, ?_, ?_, ?_, ?_, ?_⟩ <;> simp only [headQ] <;> omega
theorem le_in (S G R T : Heap) : HLe (S ++ (G ++ (R ++ T))) (R ++ (S ++ (G ++ T))) := fun _ _ _ hw => hw.perm (by
  have h1 := List.perm_append_comm_assoc R (S ++ G) T
  simp only [List.append_assoc] at h1 ⊢
  exact h1)
theorem SlOk.nil' {A : Option Addr} {n : Nat} (h : SlOk A n) : A = none → n = 0 := by
  rcases h with ⟨rfl, rfl⟩ | ⟨g, o, rfl⟩
  · exact fun _ => rfl
  · exact fun h => by cases h
theorem press_fn (A : Option Addr) (c : Nat) (L : List It) (T : Heap) (hA : ArgOk A L.length) (hT : 0 < L.length → T = roE A (jB0 L)) (hro : Ro T) (p : Pn) (h : PrOk L p) :
    Fn Tryz.prog 8 [chV A L.length c, .agg p.cells.toArray] T fun v _ => v = .tuple #[.string (str (prT L p)), iq (prE L p)] := by
  have hlen := h.ok.len
  have hrows := mrows_fn A c L T hA hT hro h.ok
  obtain ⟨R, hR⟩ : ∃ R, (rowsS L).1 = R := ⟨_, rfl⟩
  obtain ⟨D, hD⟩ : ∃ D, (rowsS L).2.flatten = D := ⟨_, rfl⟩
  have hRl := h.rows.1
  have hRo := h.rows.2
  rw [show prR L = R from hR] at hRl hRo
  rw [hR, hD] at hrows
  refine Fn.enterM (n := 56) Tryz.func8 rfl (by kernel_rfl) rfl (fun w0 => ?_)
  refine aR (fun Z hZ => ?_)
  refine jA5 rfl rfl rfl (fun g1 => ?_)
  refine jA5 rfl rfl rfl (fun g2 => ?_)
  refine sAl tyZ9 rfl (fun g3 => ?_)
  refine sAl tyZ32 rfl (fun g4 => ?_)
  refine sN (hZ _ _ ?_)
  refine aF [(2, _), (3, _), (4, _), (5, _)] (Kn.cons rfl (Kn.cons rfl (Kn.cons rfl (Kn.cons rfl (Kn.nil))))) ?_
  refine awp_defer (vs := [ptr g4 0, ptr g3 0]) rfl rfl ?_
  refine aS ?_
  refine aR (fun Z hZ => ?_)
  refine sLA 2 rfl rfl tyA31 tyS31 rfl (by simp only [List.take_succ_cons, List.take_zero, List.drop_zero, Value.cells]; rfl) rfl ?_
  refine sCP (pcheck_fn p h.b h.k h.note) rfl rfl ?_
  refine sS1 0 rfl rfl rfl tyS32 rfl rfl (by simp only [List.set_cons_zero]; rfl) (by simp only [List.set_cons_zero]; rfl) ?_
  refine sN (hZ _ _ ?_)
  refine aF [(2, _), (3, _), (4, _), (5, _)] (Kn.cons rfl (Kn.cons rfl (Kn.cons rfl (Kn.cons rfl (Kn.nil))))) ?_
  refine aR (fun Z hZ => ?_)
  refine sL 0 rfl rfl tyA32 tyS32 rfl rfl ?_
  refine jC9 rfl rfl rfl ?_
  refine sN (hZ _ _ ?_)
  refine aF [(2, _), (3, _), (4, _), (5, _), (16, _)] (Kn.cons rfl (Kn.cons rfl (Kn.cons rfl (Kn.cons rfl (Kn.cons rfl (Kn.nil)))))) ?_
  refine aC rfl (fun h1 => ?_) (fun h1 => ?_)
  · cases h1
  refine aK ?_
  with_reducible refine nN ?_
  refine jB5 ([errE g4 0, strE g3 []] ++ ([.own g2 31 p.cells, .own g1 27 [.slice A L.length c]] ++ T)) (HLe.refl _) ?_
  refine aR (fun Z hZ => ?_)
  refine sLA 3 rfl rfl tyA27 tyS27 rfl (by simp only [List.take_succ_cons, List.take_zero, List.drop_zero]; rfl) rfl ?_
  refine sx_callA [] T ([errE g4 0, strE g3 []] ++ ([.own g2 31 p.cells, .own g1 27 [.slice A L.length c]] ++ T)) hrows rfl (HLe.refl _) ((List.sublist_append_right [_, _] T).trans (List.sublist_append_right [_, _] _)) hro rfl ?_
  rintro v H' ⟨u, rfl, hu, rfl⟩
  rw [jF8]
  obtain ⟨B, d, rfl, hB, hle⟩ := hu.ro
  refine sx_pure (fun w hw => Go.Proofs.YtkojkeabelckjaaGreatDoor.row_cap hu (fun x hx => List.mem_append_left _ hx) hw) (fun hcap => ?_)
  refine jE0 ([errE g4 0, strE g3 []] ++ ([.own g2 31 p.cells, .own g1 27 [.slice A L.length c]] ++ (roE B (jA0 R) ++ T))) ((le_in [_, _] [_, _] _ T).trans (hle [] _ _ _ _)) ?_
  refine sM rfl rfl <| sX rfl rfl rfl <| sX rfl rfl rfl <| sA rfl rfl <| sA rfl rfl <| sN (hZ _ _ ?_)
  refine aF [(2, _), (3, _), (4, _), (5, _), (6, _), (7, _)] (Kn.cons rfl (Kn.cons rfl (Kn.cons rfl (Kn.cons rfl (Kn.cons rfl (Kn.cons rfl (Kn.nil))))))) ?_
  have hnil : B = none → R.length = 0 := hB.nil'
  have hsp := split_fn B d R (roE B (jA0 R)) (p.b : Nat) hB.arg (fun _ => rfl) (Ro.roE _ _) hRl hRo hnil hcap.1
  obtain ⟨sp, hsp'⟩ : ∃ sp, jH0 R (p.b : Nat) = sp := ⟨_, rfl⟩
  have hS : prS L p.b = sp := by rw [← hsp', ← hR]; rfl
  rw [hsp'] at hsp
  have hroot := h.root
  rw [hS] at hroot
  refine aR fun Z hZ => sM rfl rfl ?_
  refine sFA rfl tyF31_0 (by simp only [Nat.add_zero]; rfl) rfl ?_
  refine sL 2 rfl rfl tyA3 tyS3 rfl rfl ?_
  refine sx_callA [] (roE B (jA0 R)) ([errE g4 0, strE g3 []] ++ ([.own g2 31 p.cells, .own g1 27 [.slice A L.length c]] ++ (roE B (jA0 R) ++ T))) hsp rfl (HLe.refl _) (((List.sublist_append_left (roE B (jA0 R)) T).trans (List.sublist_append_right [_, _] _)).trans (List.sublist_append_right [_, _] _)) (Ro.roE _ _) rfl ?_
  rintro v H' ⟨u2, rfl, hu2, rfl⟩
  rw [jF8]
  obtain ⟨B2, d2, rfl, hB2, hle2⟩ := hu2.ro
  refine jE0 ([errE g4 0, strE g3 []] ++ ([.own g2 31 p.cells, .own g1 27 [.slice A L.length c]] ++ (roE B2 (jA0 sp.1) ++ (roE B (jA0 R) ++ T)))) ((le_in [_, _] [_, _] _ _).trans (hle2 [] _ _ _ _)) ?_
  refine sM rfl rfl <| sX rfl rfl rfl <| sX rfl rfl rfl <| sX rfl rfl rfl <| sX rfl rfl rfl <| sA rfl rfl <| sA rfl rfl <| sA rfl rfl ?_
  refine sS1 0 rfl rfl rfl tyS32 rfl rfl (by simp only [List.set_cons_zero]; rfl) rfl ?_
  refine sN (hZ _ _ ?_)
  refine aF [(2, _), (3, _), (4, _), (5, _), (6, _), (7, _), (8, _), (9, _)] (Kn.cons rfl (Kn.cons rfl (Kn.cons rfl (Kn.cons rfl (Kn.cons rfl (Kn.cons rfl (Kn.cons rfl (Kn.cons rfl (Kn.nil))))))))) ?_
  refine jB5 ([errE g4 (sp.2.2.2 : Nat), strE g3 []] ++ ([.own g2 31 p.cells, .own g1 27 [.slice A L.length c]] ++ (roE B2 (jA0 sp.1) ++ (roE B (jA0 R) ++ T)))) (HLe.refl _) ?_
  refine aS ?_
  refine aR (fun Z hZ => ?_)
  refine sL 0 rfl rfl tyA32 tyS32 rfl rfl ?_
  refine jC9 rfl rfl rfl ?_
  refine sN (hZ _ _ ?_)
  refine aF [(2, _), (3, _), (4, _), (5, _), (6, _), (7, _), (8, _), (9, _), (32, _)] (Kn.cons rfl (Kn.cons rfl (Kn.cons rfl (Kn.cons rfl (Kn.cons rfl (Kn.cons rfl (Kn.cons rfl (Kn.cons rfl (Kn.cons rfl (Kn.nil)))))))))) ?_
  refine aC rfl (fun h1 => ?_) (fun h1 => ?_)
  · have h1' : sp.2.2.2 ≠ 0 := by simpa using h1
    have hE : prE L p = (sp.2.2.2 : Nat) := by unfold prE; rw [hS, if_pos h1']
    have hT0 : prT L p = [] := by unfold prT; rw [hE, if_neg (by omega)]
    refine awr_seq_region (fun j : Unit => [(4, ptr g3 0), (5, ptr g4 0)]) (fun j => [errE g4 (sp.2.2.2 : Nat), strE g3 []] ++ ([.own g2 31 p.cells, .own g1 27 [.slice A L.length c]] ++ (roE B2 (jA0 sp.1) ++ (roE B (jA0 R) ++ T)))) (fun j => True) _ [0, 1, 2] (Tr.fork (Tr.step (0, false) (Tr.step (1, false) (Tr.step (2, false) Tr.nil))) (Tr.step (1, false) (Tr.step (0, false) (Tr.step (2, false) Tr.nil)))) mixed (by kernel_rfl) (HLe.pick [] (by simp) (by simp only [pick, List.filterMap_nil]; rfl)) ?_ ?_
    · refine tt_fork ?_ ?_
      · refine tt_g rfl ?_
        refine sL 0 rfl rfl tyA32 tyS32 rfl rfl ?_
        refine sN ⟨HLe.pick [] (by simp) rfl, ?_⟩
        refine tt_g rfl ?_
        refine sS1 1 rfl rfl rfl tyS9 rfl rfl (by simp only [List.set_cons_zero]; rfl) rfl ?_
        refine sN ⟨HLe.pick [] (by simp) rfl, ?_⟩
        refine tt_g rfl ?_
        refine sS1 0 rfl rfl rfl tyS32 rfl rfl (by simp only [List.set_cons_zero]; rfl) rfl ?_
        refine sN ⟨HLe.pick [] (by simp) rfl, ?_⟩
        refine tt_nil ?_
        exact ⟨(), trivial, Kn.cons rfl (Kn.cons rfl Kn.nil), HLe.refl _⟩
      · refine tt_g rfl ?_
        refine sS1 1 rfl rfl rfl tyS9 rfl rfl (by simp only [List.set_cons_zero]; rfl) rfl ?_
        refine sN ⟨HLe.pick [] (by simp) rfl, ?_⟩
        refine tt_g rfl ?_
        refine sL 0 rfl rfl tyA32 tyS32 rfl rfl ?_
        refine sN ⟨HLe.pick [] (by simp) rfl, ?_⟩
        refine tt_g rfl ?_
        refine sS1 0 rfl rfl rfl tyS32 rfl rfl (by simp only [List.set_cons_zero]; rfl) rfl ?_
        refine sN ⟨HLe.pick [] (by simp) rfl, ?_⟩
        refine tt_nil ?_
        exact ⟨(), trivial, Kn.cons rfl (Kn.cons rfl Kn.nil), HLe.refl _⟩
    rintro - -
    refine aE ?_
    repeat (with_reducible refine nTR ?_)
    refine nx_undefer [errE g4 (sp.2.2.2 : Nat), strE g3 []] [] (pdef_fn g4 g3 (sp.2.2.2 : Nat) []) (HLe.sub (List.sublist_append_left [errE g4 (sp.2.2.2 : Nat), strE g3 []] _)) ?_
    rintro v H' ⟨rfl, rfl⟩
    refine nx_unmark [] trivial (jD2 [errE g4 (sp.2.2.2 : Nat), strE g3 (if ((sp.2.2.2 : Nat) : Int) = 0 then [] else [])] rfl (ResOk.cell 1 rfl rfl tyA9 tyS9 rfl) (ResOk.cell 0 rfl rfl tyA32 tyS32 rfl) (HLe.refl _) ?_)
    exact by rw [hE, hT0]; split <;> rfl
  have h1' : sp.2.2.2 = 0 := by simpa using h1
  rw [h1']
  refine aK ?_
  with_reducible refine nN ?_
  have hen := dencode_fn B2 d2 sp.1 (roE B2 (jA0 sp.1)) hB2.arg (fun _ => rfl) (Ro.roE _ _) hroot.1 hroot.2
  obtain ⟨en, hen'⟩ : ∃ en, encQ sp.1 = en := ⟨_, rfl⟩
  rw [hen'] at hen
  refine aR fun Z hZ => sM rfl rfl ?_
  refine jF4 (roE B2 (jA0 sp.1)) hen rfl (((List.sublist_append_left (roE B2 (jA0 sp.1)) _).trans (List.sublist_append_right [_, _] _)).trans (List.sublist_append_right [_, _] _)) (Ro.roE _ _) rfl ?_
  refine sM rfl rfl <| sX rfl rfl rfl <| sX rfl rfl rfl <| sA rfl rfl ?_
  refine sS1 0 rfl rfl rfl tyS32 rfl rfl (by simp only [List.set_cons_zero]; rfl) rfl ?_
  refine sN (hZ _ _ ?_)
  refine aF [(2, _), (3, _), (4, _), (5, _), (6, _), (7, _), (9, _), (11, _)] (Kn.cons rfl (Kn.cons rfl (Kn.cons rfl (Kn.cons rfl (Kn.cons rfl (Kn.cons rfl (Kn.cons rfl (Kn.cons rfl (Kn.nil))))))))) ?_
  refine jB5 ([errE g4 (en.2 : Nat), strE g3 []] ++ ([.own g2 31 p.cells, .own g1 27 [.slice A L.length c]] ++ (roE B2 (jA0 sp.1) ++ (roE B (jA0 R) ++ T)))) (HLe.refl _) ?_
  refine aS ?_
  refine aR (fun Z hZ => ?_)
  refine sL 0 rfl rfl tyA32 tyS32 rfl rfl ?_
  refine jC9 rfl rfl rfl ?_
  refine sN (hZ _ _ ?_)
  refine aF [(2, _), (3, _), (4, _), (5, _), (6, _), (7, _), (9, _), (11, _), (40, _)] (Kn.cons rfl (Kn.cons rfl (Kn.cons rfl (Kn.cons rfl (Kn.cons rfl (Kn.cons rfl (Kn.cons rfl (Kn.cons rfl (Kn.cons rfl (Kn.nil)))))))))) ?_
  refine aC rfl (fun h2 => ?_) (fun h2 => ?_)
  · have h2' : en.2 ≠ 0 := by simpa using h2
    have hE : prE L p = (en.2 : Nat) := by unfold prE; rw [hS, if_neg (by simpa using h1'), hen', if_pos h2']
    have hT0 : prT L p = [] := by unfold prT; rw [hE, if_neg (by omega)]
    refine awr_seq_region (fun j : Unit => [(4, ptr g3 0), (5, ptr g4 0)]) (fun j => [errE g4 (en.2 : Nat), strE g3 []] ++ ([.own g2 31 p.cells, .own g1 27 [.slice A L.length c]] ++ (roE B2 (jA0 sp.1) ++ (roE B (jA0 R) ++ T)))) (fun j => True) _ [0, 1, 2] (Tr.fork (Tr.step (0, false) (Tr.step (1, false) (Tr.step (2, false) Tr.nil))) (Tr.step (1, false) (Tr.step (0, false) (Tr.step (2, false) Tr.nil)))) mixed (by kernel_rfl) (HLe.pick [] (by simp) (by simp only [pick, List.filterMap_nil]; rfl)) ?_ ?_
    · refine tt_fork ?_ ?_
      · refine tt_g rfl ?_
        refine sL 0 rfl rfl tyA32 tyS32 rfl rfl ?_
        refine sN ⟨HLe.pick [] (by simp) rfl, ?_⟩
        refine tt_g rfl ?_
        refine sS1 1 rfl rfl rfl tyS9 rfl rfl (by simp only [List.set_cons_zero]; rfl) rfl ?_
        refine sN ⟨HLe.pick [] (by simp) rfl, ?_⟩
        refine tt_g rfl ?_
        refine sS1 0 rfl rfl rfl tyS32 rfl rfl (by simp only [List.set_cons_zero]; rfl) rfl ?_
        refine sN ⟨HLe.pick [] (by simp) rfl, ?_⟩
        refine tt_nil ?_
        exact ⟨(), trivial, Kn.cons rfl (Kn.cons rfl Kn.nil), HLe.refl _⟩
      · refine tt_g rfl ?_
        refine sS1 1 rfl rfl rfl tyS9 rfl rfl (by simp only [List.set_cons_zero]; rfl) rfl ?_
        refine sN ⟨HLe.pick [] (by simp) rfl, ?_⟩
        refine tt_g rfl ?_
        refine sL 0 rfl rfl tyA32 tyS32 rfl rfl ?_
        refine sN ⟨HLe.pick [] (by simp) rfl, ?_⟩
        refine tt_g rfl ?_
        refine sS1 0 rfl rfl rfl tyS32 rfl rfl (by simp only [List.set_cons_zero]; rfl) rfl ?_
        refine sN ⟨HLe.pick [] (by simp) rfl, ?_⟩
        refine tt_nil ?_
        exact ⟨(), trivial, Kn.cons rfl (Kn.cons rfl Kn.nil), HLe.refl _⟩
    rintro - -
    refine aE ?_
    repeat (with_reducible refine nTR ?_)
    refine nx_undefer [errE g4 (en.2 : Nat), strE g3 []] [] (pdef_fn g4 g3 (en.2 : Nat) []) (HLe.sub (List.sublist_append_left [errE g4 (en.2 : Nat), strE g3 []] _)) ?_
    rintro v H' ⟨rfl, rfl⟩
    refine nx_unmark [] trivial (jD2 [errE g4 (en.2 : Nat), strE g3 (if ((en.2 : Nat) : Int) = 0 then [] else [])] rfl (ResOk.cell 1 rfl rfl tyA9 tyS9 rfl) (ResOk.cell 0 rfl rfl tyA32 tyS32 rfl) (HLe.refl _) ?_)
    exact by rw [hE, hT0]; split <;> rfl
  have h2' : en.2 = 0 := by simpa using h2
  rw [h2']
  refine aK ?_
  with_reducible refine nN ?_
  have hq : prP L p = ⟨en.1, p.note, sp.2.1, D⟩ := by unfold prP prD; rw [hS, hen', hD]
  have hqo := h.parts
  have hh : prH L p = headQ L R p.k := by unfold prH prR; rw [hR]
  have hho : (headQ L R p.k).Ok := headQ_ok (by omega) (by omega) h.k
  have hE : prE L p = jE9 (glueH (headQ L R p.k) ⟨en.1, p.note, sp.2.1, D⟩) := by unfold prE; rw [hS, if_neg (by simpa using h1'), hen', if_neg (by simpa using h2'), hh, hq]
  have hTx : glueS (headQ L R p.k) ⟨en.1, p.note, sp.2.1, D⟩ = if prE L p = 0 then glueS (headQ L R p.k) ⟨en.1, p.note, sp.2.1, D⟩ else [] := by
    rw [hE]
    unfold glueS
    split <;> rfl
  have hTT : prT L p = glueS (headQ L R p.k) ⟨en.1, p.note, sp.2.1, D⟩ := by rw [hTx]; unfold prT; rw [hh, hq]
  rw [hq] at hqo
  have hgl := glue_fn (headQ L R p.k) hho ⟨en.1, p.note, sp.2.1, D⟩ hqo
  rw [← hE, ← hTT] at hgl
  have hhd := phead_fn A c L T hA hT hro (by omega) h.ok.its B d R (roE B (jA0 R)) hB.arg (fun _ => rfl) (Ro.roE _ _) (by omega) hRo p.k
  obtain ⟨E, hEd⟩ : ∃ E, prE L p = E := ⟨_, rfl⟩
  obtain ⟨S, hSd⟩ : ∃ S, prT L p = S := ⟨_, rfl⟩
  have hfin : (if E = 0 then S else []) = S := by
    rw [← hSd, ← hEd]
    unfold prT
    split <;> rfl
  rw [hEd, hSd] at hgl ⊢
  refine jG0 _ [(0, true), (1, true), (2, true), (3, true), (4, false), (5, true), (6, true), (7, true), (8, true), (9, true), (10, true), (11, false), (12, true), (13, true), (14, false), (15, false)] mixed (by kernel_rfl) (HLe.pick [2, 3] (by simp) (by simp only [pick, List.filterMap_cons, List.filterMap_nil]; rfl)) (fun Z hZ => ?_)
  refine tw_p rfl ?_
  refine sv_loadA 1 rfl rfl tyA27 tyS27 rfl (by simp only [List.take_succ_cons, List.take_zero, List.drop_zero]; rfl) rfl ?_
  refine vN ?_
  refine tw_p rfl ?_
  refine jC8 rfl rfl ?_
  refine vN ?_
  refine tw_p rfl ?_
  refine jC6 rfl tyF31_1 (by simp only [Nat.zero_add]; rfl) rfl ?_
  refine vN ?_
  refine tw_p rfl ?_
  refine jG7 0 rfl rfl tyA5 tyS5 rfl rfl ?_
  refine vN ?_
  refine tw_g rfl ?_
  refine sx_callV (T ++ roE B (jA0 R)) hhd rfl ((HLe.swap (roE B (jA0 R)) T).trans (HLe.sub (((List.sublist_append_right _ _).trans (List.sublist_append_right [_, _] _)).trans (List.sublist_append_right [_, _] _)))) (hro.append (Ro.roE _ _)) rfl ?_
  refine sN ⟨HLe.pick [2, 3] (by simp) rfl, ?_⟩
  refine tw_p rfl ?_
  refine jC8 rfl rfl ?_
  refine vN ?_
  refine tw_p rfl ?_
  refine jC6 rfl tyF31_2 (by simp only [Nat.zero_add]; rfl) rfl ?_
  refine vN ?_
  refine tw_p rfl ?_
  refine jG7 0 rfl rfl tyA9 tyS9 rfl rfl ?_
  refine vN ?_
  refine tw_p rfl ?_
  refine jC8 rfl rfl ?_
  refine vN ?_
  refine tw_p rfl ?_
  refine jC8 rfl rfl ?_
  refine vN ?_
  refine tw_p rfl ?_
  refine sv_buildA tyZ80 Tryz.underlying80 tyS9 rfl rfl (by simp only [List.take_succ_cons, List.take_zero, List.drop_succ_cons, List.drop_zero, List.cons_append, List.nil_append, List.append_nil, List.length_cons, List.length_nil, Nat.reduceAdd, Nat.zero_add, Value.cells, wrV, Nat.reduceMul, Nat.zero_mul]; rfl) rfl ?_
  refine vN ?_
  refine tw_g rfl ?_
  refine sCP hgl rfl rfl ?_
  refine sN ⟨HLe.pick [2, 3] (by simp) rfl, ?_⟩
  refine tw_p rfl ?_
  refine sv_extract rfl rfl rfl ?_
  refine vN ?_
  refine tw_p rfl ?_
  refine sv_extract rfl rfl rfl ?_
  refine vN ?_
  refine tw_g rfl ?_
  refine sS1 1 rfl rfl rfl tyS9 rfl rfl (by simp only [List.set_cons_zero]; rfl) rfl ?_
  refine sN ⟨HLe.pick [2, 3] (by simp) rfl, ?_⟩
  refine tw_g rfl ?_
  refine sS1 0 rfl rfl rfl tyS32 rfl rfl (by simp only [List.set_cons_zero]; rfl) rfl ?_
  refine sN ⟨HLe.pick [2, 3] (by simp) rfl, ?_⟩
  refine tw_nil (hZ _ _ ?_)
  refine aF [(4, _), (5, _)] (Kn.cons rfl (Kn.cons rfl (Kn.nil))) ?_
  refine jB5 ([errE g4 E, strE g3 S] ++ ([.own g2 31 p.cells, .own g1 27 [.slice A L.length c]] ++ (roE B2 (jA0 sp.1) ++ (roE B (jA0 R) ++ T)))) (HLe.refl _) ?_
  refine aE ?_
  refine nx_undefer [errE g4 E, strE g3 S] [] (pdef_fn g4 g3 E S) (HLe.sub (List.sublist_append_left [errE g4 E, strE g3 S] _)) ?_
  rintro v H' ⟨rfl, rfl⟩
  rw [hfin]
  refine nx_unmark [] trivial (jD2 [errE g4 E, strE g3 S] rfl (ResOk.cell 1 rfl rfl tyA9 tyS9 rfl) (ResOk.cell 0 rfl rfl tyA32 tyS32 rfl) (HLe.refl _) rfl)
end Go.Proofs.YtkojkeabelckjaaGreatDoor
end

section
set_option linter.all false
namespace Go.Proofs.YtkojkeabelckjaaGreatDoor.V
open Go.RowKit
set_option maxRecDepth 100000
theorem cutP_len (s : List UInt8) : (Y.cutP s).a.length ≤ s.length ∧ (Y.cutP s).c.length ≤ s.length ∧ (Y.cutP s).d.length ≤ s.length := by
  have hp : ∀ k, (Y.piece s k).length ≤ s.length := fun k => by
    unfold Y.piece
    rw [List.length_take, List.length_drop]
    omega
  unfold Y.cutP
  split
  · exact ⟨hp 0, hp 2, hp 3⟩
  · exact ⟨Nat.zero_le _, Nat.zero_le _, Nat.zero_le _⟩
def nrE (s : List UInt8) : Int := if Y.cutE s = 0 then (if (decQ (Y.cutP s).a).2.2 = 0 then ((jH4 (decQ (Y.cutP s).a).1 (Y.cutP s).c).2 : Int) else ((decQ (Y.cutP s).a).2.2 : Int)) else Y.cutE s
def nrL (s : List UInt8) : List En := if nrE s = 0 then (jH4 (decQ (Y.cutP s).a).1 (Y.cutP s).c).1 else []
def nrT (s : List UInt8) : List UInt8 := if nrE s = 0 then (Y.cutP s).d else []
theorem nrT_len (s : List UInt8) : (nrT s).length ≤ s.length := by
  unfold nrT
  split
  · exact (cutP_len s).2.2
  · exact Nat.zero_le _
theorem joinG_ok (t : List UInt8) : ∀ (L out : List En), jD6 out → jD6 L → jD6 (joinG t out L).1
  | [], out, h, _ => by
    rw [joinG]
    split
    · exact fun e he => by cases he
    · exact h
  | x :: r, out, h, hL => by
    rw [joinG]
    have hr : jD6 r := fun e he => hL e (List.mem_cons_of_mem _ he)
    split
    · split
      · exact fun e he => by cases he
      · refine joinG_ok t r _ (fun e he => ?_) hr
        rcases List.mem_append.1 he with he | he
        · exact h e he
        · exact (pieceQ_ok x t).2 e he
    · refine joinG_ok t r _ (fun e he => ?_) hr
      rcases List.mem_append.1 he with he | he
      · exact h e he
      · rw [List.mem_singleton.1 he]; exact hL x List.mem_cons_self
theorem joinG_len (t : List UInt8) : ∀ (L out : List En), (joinG t out L).1.length ≤ out.length + L.length * 4097
  | [], out => by
    rw [joinG]
    split <;> simp
  | x :: r, out => by
    rw [joinG, List.length_cons]
    split
    · split
      · simp
      · have h1 := joinG_len t r (out ++ (jH9 x t).1)
        have h2 := (pieceQ_ok x t).1
        rw [List.length_append] at h1
        omega
    · have h1 := joinG_len t r (out ++ [x])
      rw [List.length_append] at h1
      simp at h1
      omega
theorem nrL_ok (s : List UInt8) : jD6 (nrL s) ∧ (nrL s).length ≤ maxLen := by
  obtain ⟨d1, d2, _, _⟩ := decQ_ok (Y.cutP s).a
  unfold nrL
  split
  · unfold jH4
    split
    · exact ⟨fun e he => (by cases he), Nat.zero_le _⟩
    · refine ⟨joinG_ok _ _ [] (fun e he => by cases he) d2, ?_⟩
      have := joinG_len (Y.cutP s).c (decQ (Y.cutP s).a).1 []
      show _ ≤ 9223372036854775807
      simp at this
      omega
  · exact ⟨fun e he => (by cases he), Nat.zero_le _⟩
theorem nrows_fn (s : List UInt8) (hs : s.length ≤ 100000) : Fn Tryz.prog 28 [.string (str s)] [] fun v H' => ∃ u, v = .tuple #[u, .string (str (nrT s)), iq (nrE s)] ∧ RowOk u (nrL s).length ∧ H' = rowE u 114 4 (jA0 (nrL s)) := by
  have hcut := Y.cut_fn s hs
  obtain ⟨hp0, hp2, _⟩ := cutP_len s
  obtain ⟨h0, hh0⟩ : ∃ h0, Y.cutH s = h0 := ⟨_, rfl⟩
  obtain ⟨p0, hpp⟩ : ∃ p0, Y.cutP s = p0 := ⟨_, rfl⟩
  obtain ⟨e0, he0⟩ : ∃ e0, Y.cutE s = e0 := ⟨_, rfl⟩
  have hE : nrE s = if e0 = 0 then (if (decQ p0.a).2.2 = 0 then ((jH4 (decQ p0.a).1 p0.c).2 : Int) else ((decQ p0.a).2.2 : Int)) else e0 := by unfold nrE; rw [he0, hpp]
  have hLL : nrL s = if nrE s = 0 then (jH4 (decQ p0.a).1 p0.c).1 else [] := by unfold nrL; rw [hpp]
  have hTT : nrT s = if nrE s = 0 then p0.d else [] := by unfold nrT; rw [hpp]
  rw [hh0, hpp, he0] at hcut
  rw [hpp] at hp0 hp2
  obtain ⟨d1, d2, d3, d4⟩ := decQ_ok p0.a
  have hdec := ddecode_fn p0.a (by omega)
  refine Fn.enter (N := 43) Tryz.func28 rfl (by kernel_rfl) rfl (fun w0 => ?_)
  refine aR fun Z hZ => sA rfl rfl <| sA rfl rfl <| sA rfl rfl <| sN (hZ _ _ ?_)
  refine aF [(0, _)] (Kn.cons rfl (Kn.nil)) ?_
  refine aR fun Z hZ => sM rfl rfl ?_
  refine sCP hcut rfl rfl ?_
  refine sM rfl rfl <| sX rfl rfl rfl <| sX rfl rfl rfl <| sX rfl rfl rfl ?_
  refine sAl tyZ78 rfl (fun g1 => ?_)
  refine sAl tyZ80 rfl (fun g2 => ?_)
  refine sS 1 rfl rfl rfl tyS78 (by simp only [Value.cells]; rfl) rfl rfl rfl (by simp only [List.take_zero, List.drop_succ_cons, List.drop_zero, List.nil_append, List.append_nil, List.length_cons, List.length_nil, Nat.reduceAdd, Nat.zero_add, wrV]; rfl) (by simp only [List.set_cons_succ, List.set_cons_zero]; rfl) ?_
  refine sS 0 rfl rfl rfl tyS80 (by simp only [Value.cells]; rfl) rfl rfl rfl (by simp only [List.take_zero, List.drop_succ_cons, List.drop_zero, List.nil_append, List.append_nil, List.length_cons, List.length_nil, Nat.reduceAdd, Nat.zero_add, wrV]; rfl) (by simp only [List.set_cons_zero]; rfl) ?_
  refine sA rfl rfl <| sN (hZ _ _ ?_)
  refine aF [(6, _), (7, _)] (Kn.cons rfl (Kn.cons rfl (Kn.nil))) ?_
  refine aS ?_
  refine aR fun Z hZ => sM rfl rfl ?_
  refine jC9 rfl rfl rfl ?_
  refine sN (hZ _ _ ?_)
  refine aF [(6, _), (7, _), (18, _)] (Kn.cons rfl (Kn.cons rfl (Kn.cons rfl (Kn.nil)))) ?_
  refine aC rfl (fun h => ?_) (fun h => ?_)
  · have h' : ¬ e0 = 0 := by simpa using h
    have hx : nrE s = e0 := by rw [hE, if_neg h']
    rw [hLL, hTT, hx, if_neg h', if_neg h']
    refine aR fun Z hZ => sM rfl rfl <| sA rfl rfl <| sA rfl rfl <| sA rfl rfl <| sN (hZ _ _ ?_)
    refine aF [(2, _), (3, _), (4, _)] (Kn.cons rfl (Kn.cons rfl (Kn.cons rfl (Kn.nil)))) ?_
    refine aE ?_
    repeat (with_reducible refine nTR ?_)
    exact jG9 [] rfl rfl rfl rfl (HLe.sub (List.nil_sublist _)) ⟨_, rfl, RowOk.nil, rfl⟩
  have h' : e0 = 0 := by simpa using h
  rw [if_pos h'] at hE
  refine aK ?_
  with_reducible refine nN ?_
  obtain ⟨Q, hQ⟩ : ∃ Q, (decQ p0.a).1 = Q := ⟨_, rfl⟩
  obtain ⟨ed, hed⟩ : ∃ ed, (decQ p0.a).2.2 = ed := ⟨_, rfl⟩
  rw [hQ, hed] at hdec hE d4
  rw [hQ] at d1 d2 hLL
  refine aR (fun Z hZ => ?_)
  refine jC4 0 Tryz.underlying80 tyS9 rfl rfl (by omega) rfl rfl ?_
  refine sL 0 rfl rfl tyA9 tyS9 rfl rfl ?_
  refine jD9 [] [_, _] hdec rfl (HLe.refl _) rfl ?_
  rintro v H' ⟨u, rfl, hu, rfl⟩
  rw [jF8]
  obtain ⟨A1, c1, rfl, hA1, hle1⟩ := hu.ro
  refine jE0 ([_, _] ++ roE A1 (jA0 Q)) ((HLe.swap _ _).trans (hle1 [] [_, _] 114 4 (jA0 Q))) ?_
  refine sM rfl rfl <| sX rfl rfl rfl <| sX rfl rfl rfl <| sX rfl rfl rfl <| sA rfl rfl <| sA rfl rfl <| sA rfl rfl <| sN (hZ _ _ ?_)
  refine aF [(6, _), (7, _), (8, _)] (Kn.cons rfl (Kn.cons rfl (Kn.cons rfl (Kn.nil)))) ?_
  refine aS ?_
  refine aR fun Z hZ => sM rfl rfl ?_
  refine jC9 rfl rfl rfl ?_
  refine sN (hZ _ _ ?_)
  refine aF [(6, _), (7, _), (8, _), (28, _)] (Kn.cons rfl (Kn.cons rfl (Kn.cons rfl (Kn.cons rfl (Kn.nil))))) ?_
  refine aC rfl (fun h2 => ?_) (fun h2 => ?_)
  · have h2' : ¬ ed = 0 := by simp at h2; omega
    rw [if_neg h2'] at hE
    have hx : ¬ nrE s = 0 := by rw [hE]; omega
    rw [hLL, hTT, if_neg hx, if_neg hx, hE]
    refine aR fun Z hZ => sM rfl rfl <| sA rfl rfl <| sA rfl rfl <| sA rfl rfl <| sN (hZ _ _ ?_)
    refine aF [(2, _), (3, _), (4, _)] (Kn.cons rfl (Kn.cons rfl (Kn.cons rfl (Kn.nil)))) ?_
    refine aE ?_
    repeat (with_reducible refine nTR ?_)
    exact jG9 [] rfl rfl rfl rfl (HLe.sub (List.nil_sublist _)) ⟨_, rfl, RowOk.nil, rfl⟩
  have h2' : ed = 0 := by simp at h2; omega
  rw [if_pos h2'] at hE
  have hjoin := join_fn A1 c1 Q (roE A1 (jA0 Q)) hA1.arg (fun _ => rfl) (Ro.roE _ _) (by show _ ≤ 9223372036854775807; omega) d2 p0.c (by omega)
  obtain ⟨J, hJ⟩ : ∃ J, (jH4 Q p0.c).1 = J := ⟨_, rfl⟩
  obtain ⟨ej, hej⟩ : ∃ ej, (jH4 Q p0.c).2 = ej := ⟨_, rfl⟩
  rw [hJ, hej] at hjoin
  rw [hej] at hE
  rw [hJ] at hLL
  refine aK ?_
  with_reducible refine nN ?_
  refine aR fun Z hZ => sM rfl rfl ?_
  refine jC4 2 Tryz.underlying80 tyS9 rfl rfl (by omega) rfl rfl ?_
  refine sL 0 rfl rfl tyA9 tyS9 rfl rfl ?_
  refine sx_callVU (roE A1 (jA0 Q)) hjoin rfl (HLe.sub (.cons _ (.cons _ (List.Sublist.refl _)))) (Ro.roE _ _) rfl ?_
  rintro v H' ⟨u, rfl, hu2, rfl⟩
  rw [jF8]
  refine jE0 ([_, _] ++ rowE u 114 4 (jA0 J)) ((HLe.swap _ _).trans (HLe.sub (List.Sublist.append_left (.cons_cons _ (.cons_cons _ (List.nil_sublist _))) _))) ?_
  refine sM rfl rfl <| sX rfl rfl rfl <| sX rfl rfl rfl <| sA rfl rfl <| sA rfl rfl <| sN (hZ _ _ ?_)
  refine aF [(6, _), (7, _), (10, _)] (Kn.cons rfl (Kn.cons rfl (Kn.cons rfl (Kn.nil)))) ?_
  refine aS ?_
  refine aR fun Z hZ => sM rfl rfl ?_
  refine jC9 rfl rfl rfl ?_
  refine sN (hZ _ _ ?_)
  refine aF [(6, _), (7, _), (10, _), (38, _)] (Kn.cons rfl (Kn.cons rfl (Kn.cons rfl (Kn.cons rfl (Kn.nil))))) ?_
  refine aC rfl (fun h3 => ?_) (fun h3 => ?_)
  · have h3' : ¬ ej = 0 := by simp at h3; omega
    have hx : ¬ nrE s = 0 := by rw [hE]; omega
    rw [hLL, hTT, if_neg hx, if_neg hx, hE]
    refine aR fun Z hZ => sM rfl rfl <| sA rfl rfl <| sA rfl rfl <| sA rfl rfl <| sN (hZ _ _ ?_)
    refine aF [(2, _), (3, _), (4, _)] (Kn.cons rfl (Kn.cons rfl (Kn.cons rfl (Kn.nil)))) ?_
    refine aE ?_
    repeat (with_reducible refine nTR ?_)
    exact jG9 [] rfl rfl rfl rfl (HLe.sub (List.nil_sublist _)) ⟨_, rfl, RowOk.nil, rfl⟩
  have h3' : ej = 0 := by simp at h3; omega
  have hx : nrE s = 0 := by rw [hE]; omega
  rw [hLL, hTT, hx, if_pos rfl, if_pos rfl]
  refine aK ?_
  with_reducible refine nN ?_
  refine jC1 mixed (by kernel_rfl) (fun Z hZ => ?_)
  refine qM rfl rfl ?_
  refine sq_indexAddrA 3 Tryz.underlying80 tyS9 rfl rfl (by omega) rfl rfl ?_
  refine jA2 0 rfl rfl tyA9 tyS9 rfl rfl ?_
  refine jA3 rfl rfl ?_
  refine jA3 rfl rfl ?_
  refine jA3 rfl rfl ?_
  refine jD0 (hZ _ _ ?_)
  refine aF [(2, _), (3, _), (4, _)] (Kn.cons rfl (Kn.cons rfl (Kn.cons rfl (Kn.nil)))) ?_
  refine aE ?_
  exact jG9 _ rfl rfl rfl rfl (HLe.sub (List.sublist_append_right _ _)) ⟨_, rfl, hu2, rfl⟩
def rdE (s : List UInt8) : Int := if nrE s = 0 then ((mbQ (nrL s) (nrT s)).1 : Int) else nrE s
def rdO (s : List UInt8) : List It := if nrE s = 0 then (mbQ (nrL s) (nrT s)).2 else []
theorem nread_fn (s : List UInt8) (hs : s.length ≤ 100000) : Fn Tryz.prog 10 [.string (str s)] [] fun v H' => ∃ u, v = .tuple #[.agg #[u], iq (rdE s)] ∧ RowOk u (rdO s).length ∧ H' = rowE u 62 2 (jB0 (rdO s)) := by
  have hrw := nrows_fn s hs
  obtain ⟨l1, l2⟩ := nrL_ok s
  have l3 := nrT_len s
  refine Fn.enter (N := 22) Tryz.func10 rfl (by kernel_rfl) rfl (fun w0 => ?_)
  refine aR (fun Z hZ => ?_)
  refine sAl tyZ27 rfl (fun g1 => ?_)
  refine sA rfl rfl <| sN (hZ _ _ ?_)
  refine aF [(0, _), (2, _)] (Kn.cons rfl (Kn.cons rfl (Kn.nil))) ?_
  refine aR fun Z hZ => sM rfl rfl ?_
  refine jD9 [] [_] hrw rfl (HLe.refl _) rfl ?_
  rintro v H' ⟨u, rfl, hu, rfl⟩
  rw [jF8]
  obtain ⟨A1, c1, rfl, hA1, hle1⟩ := hu.ro
  refine jE0 ([_] ++ roE A1 (jA0 (nrL s))) ((HLe.swap _ _).trans (hle1 [] [_] 114 4 (jA0 (nrL s)))) ?_
  refine sM rfl rfl <| sX rfl rfl rfl <| sX rfl rfl rfl <| sX rfl rfl rfl <| sA rfl rfl <| sA rfl rfl <| sA rfl rfl <| sN (hZ _ _ ?_)
  refine aF [(2, _), (4, _), (5, _), (6, _)] (Kn.cons rfl (Kn.cons rfl (Kn.cons rfl (Kn.cons rfl (Kn.nil))))) ?_
  refine aS ?_
  refine aR fun Z hZ => sM rfl rfl ?_
  refine jC9 rfl rfl rfl ?_
  refine sN (hZ _ _ ?_)
  refine aF [(2, _), (4, _), (5, _), (6, _), (14, _)] (Kn.cons rfl (Kn.cons rfl (Kn.cons rfl (Kn.cons rfl (Kn.cons rfl (Kn.nil)))))) ?_
  refine aC rfl (fun h => ?_) (fun h => ?_)
  · have h' : ¬ nrE s = 0 := by simpa using h
    rw [show rdE s = nrE s by unfold rdE; rw [if_neg h'], show rdO s = [] by unfold rdO; rw [if_neg h']]
    refine aR (fun Z hZ => ?_)
    refine jB3 tyZ27 tyP27 rfl rfl rfl rfl ?_
    refine sM rfl rfl ?_
    first | refine sS 0 rfl rfl rfl tyS27 (by simp only [Value.cells]; rfl) rfl rfl rfl (by simp only [List.take_zero, List.drop_succ_cons, List.drop_zero, List.nil_append, List.append_nil, List.length_cons, List.length_nil, Nat.zero_add, wrV]; rfl) rfl ?_
    refine sA rfl rfl <| sN (hZ _ _ ?_)
    refine aF [(2, _), (3, _)] (Kn.cons rfl (Kn.cons rfl (Kn.nil))) ?_
    refine aE ?_
    repeat (with_reducible refine nTR ?_)
    exact jD2 [] rfl (ResOk.cell 0 rfl rfl tyA27 tyS27 rfl) rfl (HLe.sub (List.nil_sublist _)) ⟨_, rfl, RowOk.nil, rfl⟩
  have h' : nrE s = 0 := by simpa using h
  rw [show rdE s = ((mbQ (nrL s) (nrT s)).1 : Int) by unfold rdE; rw [if_pos h'], show rdO s = (mbQ (nrL s) (nrT s)).2 by unfold rdO; rw [if_pos h']]
  have hb := mback_fn A1 c1 (nrL s) (roE A1 (jA0 (nrL s))) hA1.arg (fun _ => rfl) (Ro.roE _ _) l2 l1 (nrT s) (by omega)
  refine aK ?_
  with_reducible refine nN ?_
  refine aR fun Z hZ => sM rfl rfl <| sM rfl rfl ?_
  refine sx_callVU (roE A1 (jA0 (nrL s))) hb rfl (HLe.sub (.cons _ (List.Sublist.refl _))) (Ro.roE _ _) rfl ?_
  rintro v H' ⟨u, rfl, hu2, rfl⟩
  rw [jF8]
  refine jE0 ([_] ++ rowE u 62 2 (jB0 (mbQ (nrL s) (nrT s)).2)) ((HLe.swap _ _).trans (HLe.sub (List.Sublist.append_left (.cons_cons _ (List.nil_sublist _)) _))) ?_
  obtain ⟨A2, c2, rfl, _⟩ := hu2.form
  refine sX rfl rfl rfl <| sX rfl rfl rfl ?_
  first | refine sS 0 rfl rfl rfl tyS27 (by simp only [Value.cells]; rfl) rfl rfl rfl (by simp only [List.take_zero, List.drop_succ_cons, List.drop_zero, List.nil_append, List.append_nil, List.length_cons, List.length_nil, Nat.zero_add, wrV]; rfl) rfl ?_
  refine sA rfl rfl <| sN (hZ _ _ ?_)
  refine aF [(2, _), (3, _)] (Kn.cons rfl (Kn.cons rfl (Kn.nil))) ?_
  refine aE ?_
  exact jD2 _ rfl (ResOk.cell 0 rfl rfl tyA27 tyS27 rfl) rfl (HLe.sub (List.sublist_append_right [_] _)) ⟨_, rfl, hu2, rfl⟩
end Go.Proofs.YtkojkeabelckjaaGreatDoor.V
end

section
set_option linter.all false
namespace Go.Proofs.YtkojkeabelckjaaGreatDoor.V
open Go.RowKit
theorem cntP_le {n z : Nat} (hz : 0 < z) : cntP n z ≤ n := by
  rcases Nat.lt_or_ge n (cntP n z) with h | h
  · have h1 := (cntP_iff hz).1 h
    have := Nat.le_mul_of_pos_right n hz
    omega
  · exact h
end Go.Proofs.YtkojkeabelckjaaGreatDoor.V
end

section
set_option linter.all false
namespace Go.Proofs.YtkojkeabelckjaaGreatDoor.V
open Go.RowKit
set_option maxRecDepth 100000
end Go.Proofs.YtkojkeabelckjaaGreatDoor.V
end

section
set_option linter.all false
namespace Go.Proofs.YtkojkeabelckjaaGreatDoor.V.L
open Go.RowKit
theorem rowQ_cons {f : Nat} {e : En} {r : List En} : rowQ f (e :: r) = 0 ↔ chkE e = 0 ∧ f ≤ e.id ∧ rowQ (lastE e + 1) r = 0 := by
  rw [rowQ]
  by_cases h1 : chkE e = 0
  · rw [if_pos h1]
    by_cases h2 : e.id < f
    · rw [if_pos h2]
      exact ⟨(fun h => absurd h (by decide)), fun h => by omega⟩
    · rw [if_neg h2]
      exact ⟨fun h => ⟨h1, by omega, h⟩, fun h => h.2.2⟩
  · rw [if_neg h1]
    exact ⟨fun h => absurd h h1, fun h => absurd h.1 h1⟩
theorem last_ge {e : En} (h : e.ok) (hc : chkE e = 0) : e.id ≤ lastE e := by
  have := h.wide
  unfold lastE
  rw [if_pos hc]
  omega
theorem rowQ_mono : ∀ {f g : Nat} {Q : List En}, f ≤ g → rowQ g Q = 0 → rowQ f Q = 0
  | _, _, [], _, _ => rfl
  | f, g, e :: r, h, hr => by
    obtain ⟨h1, h2, h3⟩ := rowQ_cons.1 hr
    exact rowQ_cons.2 ⟨h1, by omega, h3⟩
theorem rowQ_drop : ∀ {P Q : List En} {f : Nat}, jD6 P → rowQ f (P ++ Q) = 0 → rowQ f Q = 0
  | [], Q, f, _, h => h
  | e :: P, Q, f, hE, h => by
    obtain ⟨h1, h2, h3⟩ := rowQ_cons.1 h
    have h4 := rowQ_drop (fun x hx => hE x (List.mem_cons_of_mem _ hx)) h3
    have := last_ge (hE e List.mem_cons_self) h1
    exact rowQ_mono (by omega) h4
theorem pcs_flat {L : List En} {z : Nat} (hz : 0 < z) : (pcs L z).flatten = L := by
  have key : ∀ k, ((List.range k).map (pcL L z)).flatten = L.take (k * z) := fun k => by
    induction k with
    | zero => simp
    | succ k ih =>
      rw [List.range_succ, List.map_append, List.flatten_append, ih, Nat.succ_mul, List.take_add]
      simp [pcL]
  rw [pcs, key]
  refine List.take_of_length_le ?_
  have h : ¬ cntP L.length z * z < L.length := fun h => by have := (cntP_iff hz).2 h; omega
  omega
theorem enc_pos {P : List En} (h : (encQ P).2 = 0) : 0 < (encQ P).1.length := by
  rw [(encQ_ok h).2.2]
  exact allB_pos P
theorem root_row : ∀ (ps : List (List En)) (t f : Nat), (∀ P ∈ ps, 0 < P.length ∧ jD6 P ∧ (encQ P).2 = 0) → rowQ f ps.flatten = 0 → t + 65536 * ps.length ≤ 1099511627776 → rowQ f (jF9 t ps) = 0
  | [], _, _, _, _, _ => rfl
  | [] :: r, t, f, hP, _, _ => by have := (hP [] List.mem_cons_self).1; simp at this
  | (e :: P) :: r, t, f, hP, h, ht => by
    obtain ⟨_, hE, he⟩ := hP (e :: P) List.mem_cons_self
    have heo : e.ok := hE e List.mem_cons_self
    have hl := encQ_len (e :: P)
    have hp := enc_pos he
    rw [List.length_cons] at ht
    rw [List.flatten_cons, List.cons_append] at h
    obtain ⟨h1, h2, h3⟩ := rowQ_cons.1 h
    have hid := (chk_ok heo h1).2.1
    have hw := heo.wide
    have hat : atE (e :: P) 0 = e := rfl
    have hc : chkE (rootE t (e :: P)) = 0 := by
      unfold chkE
      have hwide : (rootE t (e :: P)).wide = 1 := rfl
      have hnx : (rootE t (e :: P)).next = t + (encQ (e :: P)).1.length := by
        show (t + (encQ (e :: P)).1.length) % 18446744073709551616 = _
        omega
      rw [if_neg (by show ¬ (encQ (e :: P)).1.length = 0; omega), hwide, if_neg (by show ¬ _ < (atE (e :: P) 0).id; rw [hat]; omega), hnx, if_neg (by show ¬ (1099511627776 < t ∨ _); omega)]
    refine rowQ_cons.2 ⟨hc, by show f ≤ (atE (e :: P) 0).id; rw [hat]; exact h2, ?_⟩
    have hlast : lastE (rootE t (e :: P)) = e.id := by
      unfold lastE
      rw [if_pos hc]
      show (atE (e :: P) 0).id + 1 - 1 = e.id
      rw [hat]
      omega
    rw [hlast]
    have h4 := rowQ_drop (fun x hx => hE x (List.mem_cons_of_mem _ hx)) h3
    have := last_ge heo h1
    exact root_row r _ _ (fun Q hQ => hP Q (List.mem_cons_of_mem _ hQ)) (rowQ_mono (by omega) h4) (by omega)
theorem root_ptr : ∀ (ps : List (List En)) (t : Nat), (jF9 t ps).filter isPtr = jF9 t ps
  | [], _ => rfl
  | P :: r, t => by
    rw [jF9, List.filter_cons, if_pos (by rfl), root_ptr r]
def endQ : Nat → List En → Nat
  | n, [] => n
  | n, e :: r => endQ (if chkE e = 0 then max n e.next else n) r
theorem root_end : ∀ (ps : List (List En)) (t n : Nat), n ≤ t → (∀ P ∈ ps, 0 < P.length ∧ jD6 P ∧ (encQ P).2 = 0) → (∀ f, rowQ f (jF9 t ps) = 0 → True) → (∀ e ∈ jF9 t ps, chkE e = 0) → t + 65536 * ps.length ≤ 1099511627776 → (ps = [] → n = t) → endQ n (jF9 t ps) = t + (jF7 ps).length
  | [], t, n, _, _, _, _, _, h0 => by rw [h0 rfl]; rfl
  | P :: r, t, n, hn, hP, _, hc, ht, _ => by
    have hl := encQ_len P
    rw [List.length_cons] at ht
    rw [jF9, endQ, if_pos (hc _ (by rw [jF9]; exact List.mem_cons_self))]
    have hnx : (rootE t P).next = t + (encQ P).1.length := by
      show (t + (encQ P).1.length) % 18446744073709551616 = _
      omega
    rw [hnx, show max n (t + (encQ P).1.length) = t + (encQ P).1.length by omega, root_end r _ _ (Nat.le_refl _) (fun Q hQ => hP Q (List.mem_cons_of_mem _ hQ)) (fun _ _ => trivial) (fun e he => hc e (by rw [jF9]; exact List.mem_cons_of_mem _ he)) (by omega) (fun _ => rfl)]
    simp only [jF7, List.flatMap_cons, List.length_append]
    omega
theorem rowQ_chk : ∀ {f : Nat} {L : List En}, rowQ f L = 0 → ∀ e ∈ L, chkE e = 0
  | _, [], _, e, h => by cases h
  | f, x :: r, hr, e, h => by
    obtain ⟨h1, _, h3⟩ := rowQ_cons.1 hr
    rcases List.mem_cons.1 h with rfl | h
    · exact h1
    · exact rowQ_chk h3 e h
theorem join_root : ∀ (ps : List (List En)) (out : List En) (pre : List UInt8), (∀ P ∈ ps, 0 < P.length ∧ jD6 P ∧ (encQ P).2 = 0 ∧ jG1 P = false) → rowC (out ++ ps.flatten) = 0 →
    joinG (pre ++ jF7 ps) out (jF9 pre.length ps) = (out ++ ps.flatten, 0)
  | [], out, pre, _, hr => by
    rw [jF9, joinG]
    rw [List.flatten_nil, List.append_nil] at hr ⊢
    rw [if_neg (by simpa using hr)]
  | P :: r, out, pre, hP, hr => by
    obtain ⟨h0, hE, he, hh⟩ := hP P List.mem_cons_self
    obtain ⟨hrc, hsz, henc⟩ := encQ_ok he
    obtain ⟨S, hS⟩ : ∃ S, (encQ P).1 = S := ⟨_, rfl⟩
    have hSe : S = allB (jD3 P) := by rw [← hS, henc]
    have hd := decQ_enc hE hrc [] (by simpa using hsz)
    rw [List.append_nil, if_neg (by decide), ← hSe] at hd
    have htx : jF7 (P :: r) = S ++ jF7 r := by rw [jF7, List.flatMap_cons, hS]; rfl
    have hsl : ((pre ++ jF7 (P :: r)).drop pre.length).take S.length = S := by rw [htx, List.drop_left, List.take_left]
    have hpc : jH9 (rootE pre.length P) (pre ++ jF7 (P :: r)) = (P, 0) := by
      have e1 : (rootE pre.length P).off = pre.length := rfl
      have e2 : (rootE pre.length P).len = S.length := hS ▸ rfl
      have e3 : (rootE pre.length P).id = (atE P 0).id := rfl
      unfold jH9
      rw [e1, e2, e3, hsl, hd, if_neg (by rw [htx, List.length_append, List.length_append]; omega), if_neg (by simp), if_neg (by rw [hh]; decide), if_neg (fun h => h.elim (fun h => absurd h (Nat.ne_of_gt h0)) (fun h => h rfl))]
    rw [jF9, joinG, if_pos (by rfl), hpc, if_neg (by simp)]
    have ih := join_root r (out ++ P) (pre ++ S) (fun Q hQ => hP Q (List.mem_cons_of_mem _ hQ)) (by rw [List.append_assoc, ← List.flatten_cons]; exact hr)
    rw [List.length_append, List.append_assoc, ← htx, List.append_assoc, ← List.flatten_cons, ← hS] at ih
    exact ih
theorem join_plain {t : List UInt8} : ∀ (L out : List En), jG1 L = false → rowC (out ++ L) = 0 → joinG t out L = (out ++ L, 0)
  | [], out, _, hr => by
    rw [joinG]
    rw [List.append_nil] at hr ⊢
    rw [if_neg (by simpa using hr)]
  | x :: r, out, hh, hr => by
    rw [jG1, List.any_cons, Bool.or_eq_false_iff] at hh
    rw [joinG, if_neg (by rw [hh.1]; decide), join_plain r (out ++ [x]) hh.2 (by rw [List.append_assoc]; exact hr), List.append_assoc]
    rfl
theorem rowC_q {L : List En} (h : rowC L = 0) : rowQ 0 L = 0 ∧ L.length ≤ 4096 := by
  unfold rowC at h
  split at h
  · cases h
  · exact ⟨h, by omega⟩
theorem q_rowC {L : List En} (h : rowQ 0 L = 0) (hl : L.length ≤ 4096) : rowC L = 0 := by
  unfold rowC
  rw [if_neg (by omega), h]
theorem splitG_cases {L : List En} {b : Int} : ∀ (k z : Nat), 0 < z → splitG L b k z = ([], [], 0, 15) ∨ ∃ y, 0 < y ∧ okQ L b y = true ∧ splitG L b k z = (jF9 0 (pcs L y), jF7 (pcs L y), y, 0)
  | 0, _, _ => .inl rfl
  | k + 1, z, hz => by
    rw [splitG]
    by_cases h : okQ L b z = true
    · rw [if_pos h]
      exact .inr ⟨z, hz, h, rfl⟩
    · rw [if_neg h]
      exact splitG_cases k (2 * z) (by omega)
theorem splitQ_cases (L : List En) (b : Int) : (∃ e, e ≠ 0 ∧ jH0 L b = ([], [], 0, e)) ∨
    (rowC L = 0 ∧ jG1 L = false ∧ 1 ≤ b ∧ b ≤ 16257 ∧ ((jH0 L b = (L, [], 0, 0) ∧ (sizeQ L : Int) ≤ b) ∨ ∃ y, 0 < y ∧ okQ L b y = true ∧ jH0 L b = (jF9 0 (pcs L y), jF7 (pcs L y), y, 0))) := by
  unfold jH0
  by_cases h1 : b < 1 ∨ 16257 < b
  · rw [if_pos h1]; exact .inl ⟨2, by decide, rfl⟩
  rw [if_neg h1]
  by_cases h2 : rowC L ≠ 0
  · rw [if_pos h2]; exact .inl ⟨_, h2, rfl⟩
  rw [if_neg h2]
  by_cases h3 : jG1 L = true
  · rw [if_pos h3]; exact .inl ⟨14, by decide, rfl⟩
  rw [if_neg h3]
  have h2' : rowC L = 0 := by omega
  have h3' : jG1 L = false := by simpa using h3
  by_cases h4 : (sizeQ L : Int) ≤ b
  · rw [if_pos h4]
    exact .inr ⟨h2', h3', by omega, by omega, .inl ⟨rfl, h4⟩⟩
  rw [if_neg h4]
  rcases splitG_cases (L := L) (b := b) 13 1 (by omega) with h | ⟨y, hy, ho, h⟩
  · rw [h]; exact .inl ⟨15, by decide, rfl⟩
  · exact .inr ⟨h2', h3', by omega, by omega, .inr ⟨y, hy, ho, h⟩⟩
theorem okQ_facts {L : List En} {b : Int} {y : Nat} (hy : 0 < y) (hE : jD6 L) (hh : jG1 L = false) (h : okQ L b y = true) : (∀ P ∈ pcs L y, 0 < P.length ∧ jD6 P ∧ (encQ P).2 = 0 ∧ jG1 P = false) ∧ (sizeQ (jF9 0 (pcs L y)) : Int) ≤ b := by
  unfold okQ at h
  rw [Bool.and_eq_true, List.all_eq_true, decide_eq_true_eq] at h
  refine ⟨fun P hP => ⟨pcs_pos hy hP, fun e he => hE e (pcs_mem hP e he), by simpa using h.1 P hP, ?_⟩, h.2⟩
  rw [jG1, List.any_eq_false] at hh ⊢
  exact fun e he => hh e (pcs_mem hP e he)
end Go.Proofs.YtkojkeabelckjaaGreatDoor.V.L
end
