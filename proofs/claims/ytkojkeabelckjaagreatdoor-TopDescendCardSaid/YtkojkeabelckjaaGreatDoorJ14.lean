/- Walks and plain laws for this claim (texts Pl1, Pl2, Pl3, LayCl, Pl4, joined). Each theorem states its own conditions. -/
import Derived.Test.YtkojkeabelckjaaGreatDoorJ12
import Derived.Test.YtkojkeabelckjaaGreatDoorJ13
import Derived.Test.YtkojkeabelckjaaGreatDoorJ11
import Derived.Test.YtkojkeabelckjaaGreatDoorJ05
import Derived.Test.YtkojkeabelckjaaGreatDoorJ06
import Derived.Shelf.Pu.Clone

section
set_option linter.all false
namespace Go.Proofs.YtkojkeabelckjaaGreatDoor.V
open Go.RowKit
section
variable {P : Program} {N : Frm} {w0 : World} {Wr : List Nat} {ops : Array Oper} {rest : List Oper} {fr : Fr} {H : Heap} {Z : Fr → Heap → Prop} {d ty : Nat} {pos : String} {after : Array Edge}
theorem sx_xor {t t' : TypeId} {x y : Operand} {k : IntKind} {m n : Int} (hx : ev fr x = some (.int k m)) (hy : ev fr y = some (.int k n)) (r : Int) (hr : k.wrap (BitVec.ofInt k.bits m ^^^ BitVec.ofInt k.bits n).toNat = r) (hN : Nat.ble (d + 1) N.n = true)
    (h : sx P N w0 Wr ops rest ((d, .int k r) :: fr) H Z) : sx P N w0 Wr ops (⟨some d, .binOp .xor t x y t', ty, pos, after, none⟩ :: rest) fr H Z :=
  sx_int2 _ hx hy (fun w => by subst hr; simp [binOp, Op.intBits]) hN h
end
def fnvI (h : Nat) (b : UInt8) : Int := IntKind.u64.wrap (BitVec.ofInt IntKind.u64.bits ((h : Nat) : Int) ^^^ BitVec.ofInt IntKind.u64.bits ((b.toNat : Nat) : Int)).toNat
def fnvS (h : Nat) (b : UInt8) : Nat := (IntKind.u64.wrap (fnvI h b * 1099511628211)).toNat
theorem fnvS_is (h : Nat) (b : UInt8) : IntKind.u64.wrap (fnvI h b * 1099511628211) = ((fnvS h b : Nat) : Int) := by
  unfold fnvS
  rw [Int.toNat_of_nonneg]
  simp only [IntKind.wrap, IntKind.bits, IntKind.signed]
  exact Int.emod_nonneg _ (by decide)
def fnvQ (s : List UInt8) : Nat := s.foldl fnvS 14695981039346656037
theorem fnv_step (h : Nat) (b : UInt8) : Fn Tryz.prog 177 [uq h, .int .u8 (b.toNat : Nat)] [] fun v _ => v = uq (fnvS h b) := by
  have hb := b.toNat_lt
  refine Fn.enter (N := 10) Tryz.func177 rfl (by kernel_rfl) rfl (fun w0 => ?_)
  refine aR fun Z hZ => sA rfl rfl <| sN (hZ _ _ ?_)
  refine aF [(0, _), (1, _)] (Kn.cons rfl (Kn.cons rfl (Kn.nil))) ?_
  refine aR fun Z hZ => sM rfl rfl <| sM rfl rfl ?_
  refine jA6 Tryz.underlying5 Tryz.underlying45 rfl ((b.toNat : Nat) : Int) (by rw [IntWalk.u64_in _ (by omega)]) rfl ?_
  refine sx_xor rfl rfl (fnvI h b) rfl rfl ?_
  refine sx_mul rfl rfl ((fnvS h b : Nat) : Int) (fnvS_is h b) rfl ?_
  refine sA rfl rfl <| sN (hZ _ _ ?_)
  refine aF [(4, _)] (Kn.cons rfl (Kn.nil)) ?_
  refine aE ?_
  repeat (with_reducible (first | refine nTR ?_ | refine nBR ?_ | refine jC0 ?_))
  exact nR1 rfl rfl rfl
theorem fnvQ_step {s : List UInt8} {i : Nat} {c : UInt8} (h : s[i]? = some c) : fnvQ (s.take (i + 1)) = fnvS (fnvQ (s.take i)) c := by
  obtain ⟨hlt, rfl⟩ := List.getElem?_eq_some_iff.1 h
  unfold fnvQ
  rw [List.take_succ_eq_append_getElem hlt, List.foldl_append, List.foldl_cons, List.foldl_nil]
theorem fnvQ_nil : fnvQ [] = 14695981039346656037 := rfl
attribute [irreducible] fnvQ fnvS fnvI
theorem fnv_fold (s : List UInt8) (hs : s.length ≤ 9223372036854775807) : Fn Tryz.prog 178 [.agg #[.int .u64 14695981039346656037, .func (.func 177) #[] #[]], .string (str s)] [] fun v _ => v = uq (fnvQ s) := by
  refine Fn.enter (N := 23) Tryz.func178 rfl (by kernel_rfl) rfl (fun w0 => ?_)
  refine aR (fun Z hZ => ?_)
  refine jA5 rfl rfl rfl (fun g1 => ?_)
  refine sA rfl rfl <| sN (hZ _ _ ?_)
  refine aF [(1, _), (2, _)] (Kn.cons rfl (Kn.cons rfl (Kn.nil))) ?_
  refine aS ?_
  refine aR fun Z hZ => sM rfl rfl ?_
  first | refine jE7 Tryz.underlying9 rfl rfl ?_ | refine jF3 Tryz.underlying9 rfl rfl ?_
  refine sM rfl rfl <| sN (hZ _ _ ?_)
  refine aF [(1, _), (2, _), (7, _), (8, _)] (Kn.cons rfl (Kn.cons rfl (Kn.cons rfl (Kn.cons rfl (Kn.nil))))) ?_
  refine aB ?_
  refine jC2 (ι := Nat) (fun i => [(1, .string (str s)), (2, ptr g1 0), (7, iq (s.length : Nat)), (8, iq (i : Nat))]) (fun i => [.own g1 287 [uq (fnvQ (s.take i)), .func (.func 177) #[] #[]]])
    (fun i => i ≤ s.length) (fun i => s.length - i) 0 (by simp) (Kn.cons rfl (Kn.cons rfl (Kn.cons rfl (Kn.cons rfl Kn.nil)))) (by simp only [List.take_zero, fnvQ_nil]; exact HLe.refl _) ?_
  rintro i hi
  refine aR (fun Z hZ => ?_)
  first | refine jC3 rfl rfl rfl ?_ | refine sx_slss rfl rfl rfl ?_
  refine sN (hZ _ _ ?_)
  refine aF [(1, _), (2, _), (7, _), (8, _), (9, _)] (Kn.cons rfl (Kn.cons rfl (Kn.cons rfl (Kn.cons rfl (Kn.cons rfl (Kn.nil)))))) ?_
  first | refine aC rfl (fun h => ?_) (fun h => ?_) | refine aS (aC rfl (fun h => ?_) (fun h => ?_))
  · have hlt : i < s.length := by simpa using h
    obtain ⟨ch, hch⟩ : ∃ c, s[i]? = some c := ⟨_, List.getElem?_eq_getElem hlt⟩
    have hsn := fnvQ_step hch
    refine aK ?_
    repeat (with_reducible (first | refine nBN ?_ | refine nx_scope_normal ?_))
    with_reducible first | refine nN ?_ | refine nx_normalM ?_
    refine aS (aB ?_)
    refine aR fun Z hZ => sM rfl rfl <| sA rfl rfl <| sN (hZ _ _ ?_)
    refine aF [(1, _), (2, _), (5, _), (7, _), (8, _)] (Kn.cons rfl (Kn.cons rfl (Kn.cons rfl (Kn.cons rfl (Kn.cons rfl (Kn.nil)))))) ?_
    refine awf_region _ [(0, true), (1, true), (2, true), (3, true), (4, true), (5, true), (6, true), (7, false), (8, true)] 9 rfl mixed (by kernel_rfl) (HLe.pick [0] (by simp) (by simp only [pick, List.filterMap_cons, List.filterMap_nil, List.getElem?_cons_zero]; rfl)) (fun Z hZ => ?_)
    refine tw_p rfl ?_
    refine jC6 rfl tyF287_1 (by simp only [Nat.zero_add]; rfl) rfl ?_
    refine vN ?_
    refine tw_p rfl ?_
    first | refine jG7 0 rfl rfl tyA285 tyS285 rfl rfl ?_
    refine vN ?_
    refine tw_p rfl ?_
    refine jC6 rfl tyF287_0 (by simp only [Nat.add_zero]; rfl) rfl ?_
    refine vN ?_
    refine tw_p rfl ?_
    first | refine jG7 0 rfl rfl tyA45 tyS45 rfl rfl ?_
    refine vN ?_
    refine tw_p rfl ?_
    refine jC8 rfl rfl ?_
    refine vN ?_
    refine tw_p rfl ?_
    refine jC8 rfl rfl ?_
    refine vN ?_
    refine tw_p rfl ?_
    refine sv_indexS  Tryz.underlying9 rfl rfl (Int.natCast_nonneg i) (by rw [Int.toNat_natCast]; exact hch) rfl ?_
    refine vN ?_
    refine tw_g rfl ?_
    refine sx_callFV (caps := []) (vs := [uq (fnvQ (s.take i)), .int .u8 (ch.toNat : Nat)]) [] (fnv_step (fnvQ (s.take i)) ch) rfl rfl (HLe.sub (List.nil_sublist _)) Ro.nil rfl ?_
    refine sN ⟨HLe.pick [0] (by simp) rfl, ?_⟩
    refine tw_p rfl ?_
    refine jC6 rfl tyF287_0 (by simp only [Nat.add_zero]; rfl) rfl ?_
    refine vN ?_
    refine tw_nil ?_
    first | refine sS1 0 rfl rfl rfl tyS45 rfl rfl (by simp only [List.set_cons_zero]; rfl) (by simp only [List.set_cons_zero]; rfl) ?_
    refine sN (hZ _ _ ?_)
    refine nF [(1, _), (2, _), (7, _), (8, _)] (Kn.cons rfl (Kn.cons rfl (Kn.cons rfl (Kn.cons rfl (Kn.nil))))) ?_
    repeat (with_reducible (first | refine nBN ?_ | refine nx_scope_normal ?_))
    with_reducible first | refine nN ?_ | refine nx_normalM ?_
    refine aG (fun Z hZ => ?_)
    refine jA7 rfl rfl ((i + 1 : Nat) : Int) (by rw [IntWalk.i64_in _ (by omega)]; omega) rfl ?_
    refine sM rfl rfl <| sN (hZ _ _ ?_)
    refine nF [(1, _), (2, _), (7, _), (8, _)] (Kn.cons rfl (Kn.cons rfl (Kn.cons rfl (Kn.cons rfl (Kn.nil))))) ?_
    exact jB4 (i + 1) hlt (by omega) (Kn.cons rfl (Kn.cons rfl (Kn.cons rfl (Kn.cons rfl Kn.nil)))) (by rw [hsn]; exact HLe.refl _)
  · refine jA8 ?_
    repeat (with_reducible (first | refine nTE ?_ | refine nx_block_other (by decide) ?_ | refine nx_scope_exit ?_))
    with_reducible refine nBE ?_
    repeat (with_reducible (first | refine nBN ?_ | refine nx_scope_normal ?_))
    with_reducible first | refine nN ?_ | refine nx_normalM ?_
    have hke : i = s.length := by simp at h; omega
    subst hke
    rw [List.take_length]
    refine aR (fun Z hZ => ?_)
    refine sFA rfl tyF287_0 (by simp only [Nat.add_zero]; rfl) rfl ?_
    first | refine sL 0 rfl rfl tyA45 tyS45 rfl rfl ?_
    refine sA rfl rfl <| sN (hZ _ _ ?_)
    refine aF [(4, _)] (Kn.cons rfl (Kn.nil)) ?_
    refine aE ?_
    repeat (with_reducible (first | refine nTR ?_ | refine nBR ?_ | refine jC0 ?_))
    exact nR1 rfl rfl rfl
theorem fnv_sum (s : List UInt8) (hs : s.length ≤ 9223372036854775807) : Fn Tryz.prog 139 [.string (str s)] [] fun v _ => v = uq (fnvQ s) := by
  refine Fn.enter (N := 6) Tryz.func139 rfl (by kernel_rfl) rfl (fun w0 => ?_)
  refine aR fun Z hZ => sA rfl rfl <| sN (hZ _ _ ?_)
  refine aF [(0, _)] (Kn.cons rfl (Kn.nil)) ?_
  refine aR (fun Z hZ => ?_)
  refine jB3 tyZ287 tyP287 rfl rfl (by simp only [List.take_succ_cons, List.take_zero, List.drop_succ_cons, List.drop_zero, List.cons_append, List.nil_append, List.append_nil, List.length_cons, List.length_nil, Nat.reduceAdd, Nat.zero_add, Value.cells, wrV]; rfl) rfl ?_
  refine sM rfl rfl ?_
  refine sCP (fnv_fold s hs) rfl rfl ?_
  refine sA rfl rfl <| sN (hZ _ _ ?_)
  refine aF [(2, _)] (Kn.cons rfl (Kn.nil)) ?_
  refine aE ?_
  repeat (with_reducible (first | refine nTR ?_ | refine nBR ?_ | refine jC0 ?_))
  exact nR1 rfl rfl rfl
end Go.Proofs.YtkojkeabelckjaaGreatDoor.V
end

section
set_option linter.all false
namespace Go.Proofs.YtkojkeabelckjaaGreatDoor.V
open Go.RowKit
set_option maxRecDepth 100000
abbrev Tx := List UInt8
def ctsF : Nat → List Tx → List (Nat × Nat)
  | _, [] => []
  | o, t :: r => (o, t.length) :: ctsF (o + t.length) r
abbrev ctC (c : Nat × Nat) : List Value := [uq c.1, wq4 c.2]
abbrev ctV (c : Nat × Nat) : Value := .agg (ctC c).toArray
abbrev jH5 (L : List (Nat × Nat)) : List Value := L.flatMap ctC
theorem ct_len (c : Nat × Nat) : (ctC c).length = 2 := rfl
theorem ctcells_len (L : List (Nat × Nat)) : (jH5 L).length = L.length * 2 := fm_len ct_len L
theorem ctcells_all {L : List (Nat × Nat)} {i : Nat} {x : Nat × Nat} (h : L[i]? = some x) : rdV true 2 (jH5 L) (i * 2) = some (ctV x) := fm_rd ct_len h
theorem ctcells_app (X Y : List (Nat × Nat)) : jH5 (X ++ Y) = jH5 X ++ jH5 Y := by simp [jH5]
theorem elemCt : ElemOk Tryz.prog 182 123 2 16 := ElemOk.mk_ (z := .agg #[uq 0, wq4 0]) Tryz.underlying182 (by kernel_rfl) rfl (by omega)
theorem elemInt : ElemOk Tryz.prog 247 3 1 8 := ElemOk.mk_ (z := iq (0 : Nat)) Tryz.underlying247 (by kernel_rfl) rfl (by omega)
theorem ctsF_len : ∀ (ts : List Tx) (o : Nat), (ctsF o ts).length = ts.length
  | [], _ => rfl
  | t :: r, o => by rw [ctsF, List.length_cons, ctsF_len r, List.length_cons]
theorem ctsF_at : ∀ (ts : List Tx) (o k : Nat) (t : Tx), ts[k]? = some t → (ctsF o ts)[k]? = some (o + (ts.take k).flatten.length, t.length)
  | [], _, _, _, h => by simp at h
  | x :: r, o, 0, t, h => by
    simp only [List.getElem?_cons_zero, Option.some.injEq] at h
    subst h
    simp [ctsF]
  | x :: r, o, k + 1, t, h => by
    rw [List.getElem?_cons_succ] at h
    rw [ctsF, List.getElem?_cons_succ, ctsF_at r _ k t h]
    simp only [List.take_succ_cons, List.flatten_cons, List.length_append]
    rw [Nat.add_assoc]
theorem ctsF_snoc : ∀ (ts : List Tx) (o : Nat) (s : Tx), ctsF o (ts ++ [s]) = ctsF o ts ++ [(o + ts.flatten.length, s.length)]
  | [], o, s => by simp [ctsF]
  | x :: r, o, s => by
    rw [List.cons_append, ctsF, ctsF_snoc r, ctsF, List.cons_append, List.flatten_cons, List.length_append, Nat.add_assoc]
theorem flat_at : ∀ (ts : List Tx) (k : Nat) (t : Tx), ts[k]? = some t → (ts.take k).flatten.length + t.length ≤ ts.flatten.length ∧ (ts.flatten.drop (ts.take k).flatten.length).take t.length = t
  | [], _, _, h => by simp at h
  | x :: r, 0, t, h => by
    simp only [List.getElem?_cons_zero, Option.some.injEq] at h
    subst h
    simp
  | x :: r, k + 1, t, h => by
    rw [List.getElem?_cons_succ] at h
    obtain ⟨h1, h2⟩ := flat_at r k t h
    simp only [List.take_succ_cons, List.flatten_cons, List.length_append]
    refine ⟨by omega, ?_⟩
    rw [← List.drop_drop, List.drop_left]
    exact h2
def fdQ : Nat → List Tx → Tx → Option (Nat × Nat)
  | _, [], _ => none
  | o, t :: r, s => if t = s then some (o, s.length) else fdQ (o + t.length) r s
theorem fdQ_none : ∀ (ts : List Tx) (o : Nat) (s : Tx), fdQ o ts s = none ↔ s ∉ ts
  | [], _, _ => by simp [fdQ]
  | t :: r, o, s => by
    rw [fdQ]
    split
    · rename_i h; simp [h]
    · rename_i h
      rw [fdQ_none r]
      simp only [List.mem_cons, not_or]
      exact ⟨fun x => ⟨fun e => h e.symm, x⟩, fun x => x.2⟩
theorem fdQ_at : ∀ (ts : List Tx) (o k : Nat) (s : Tx), ts.Nodup → ts[k]? = some s → fdQ o ts s = some (o + (ts.take k).flatten.length, s.length)
  | [], _, _, _, _, h => by simp at h
  | x :: r, o, 0, t, _, h => by
    simp only [List.getElem?_cons_zero, Option.some.injEq] at h
    subst h
    simp [fdQ]
  | x :: r, o, k + 1, t, hn, h => by
    rw [List.getElem?_cons_succ] at h
    have hne : x ≠ t := fun e => (List.nodup_cons.1 hn).1 (e ▸ List.mem_of_getElem? h)
    rw [fdQ, if_neg hne, fdQ_at r _ k t (List.nodup_cons.1 hn).2 h]
    simp only [List.take_succ_cons, List.flatten_cons, List.length_append]
    rw [Nat.add_assoc]
structure Bk where
  key : Nat
  g : Nat
  c : Nat
  ks : List Nat
abbrev Bk.v (b : Bk) : Value := .slice (some ⟨b.g, 0, none⟩) b.ks.length b.c
abbrev iqL (l : List Nat) : List Value := l.map fun k => iq (k : Nat)
abbrev Bk.e (b : Bk) : Ent := .ob b.g (RowP 3 1 b.ks.length b.c (iqL b.ks))
abbrev bkM (B : List Bk) : List (Nat × Value) := B.map fun b => (b.key, b.v)
abbrev bkH (B : List Bk) : Heap := B.map Bk.e
def bkOf (B : List Bk) (key : Nat) : Option Bk := B.find? fun b => b.key == key
theorem bk_get : ∀ (B : List Bk) (key : Nat), aget (bkM B) key = (bkOf B key).map Bk.v
  | [], _ => rfl
  | b :: r, key => by
    show (if b.key = key then some b.v else aget (bkM r) key) = _
    unfold bkOf
    rw [List.find?_cons]
    by_cases h : b.key = key
    · rw [if_pos h, beq_iff_eq.2 h]; rfl
    · rw [if_neg h, bk_get r key, beq_eq_false_iff_ne.2 h]; rfl
structure BkOk (ts : List Tx) (B : List Bk) : Prop where
  nd : (B.map Bk.key).Nodup
  lt : ∀ b ∈ B, b.ks.length ≤ ts.length ∧ ∀ k ∈ b.ks, k < ts.length
  all : ∀ k t, ts[k]? = some t → ∃ b ∈ B, b.key = fnvQ t ∧ k ∈ b.ks
theorem bk_of_mem : ∀ {B : List Bk} {b : Bk}, (B.map Bk.key).Nodup → b ∈ B → bkOf B b.key = some b
  | [], _, _, h => by cases h
  | x :: r, b, hn, h => by
    unfold bkOf
    rw [List.find?_cons]
    rcases List.mem_cons.1 h with rfl | h
    · simp
    · have : x.key ≠ b.key := fun e => (List.nodup_cons.1 hn).1 (e ▸ List.mem_map.2 ⟨b, h, rfl⟩)
      rw [beq_eq_false_iff_ne.2 this]
      exact bk_of_mem (List.nodup_cons.1 hn).2 h
def bkK (B : List Bk) (key : Nat) : List Nat := match bkOf B key with | some b => b.ks | none => []
def bkV (B : List Bk) (key : Nat) : Value := match bkOf B key with | some b => b.v | none => .slice none 0 0
theorem bkV_ok (B : List Bk) (key : Nat) : RowOk (bkV B key) (bkK B key).length := by
  unfold bkV bkK
  cases bkOf B key with
  | none => exact RowOk.nil
  | some b => exact RowOk.mk _ _ _
theorem bkV_get (B : List Bk) (key : Nat) : ((aget (bkM B) key).map fun v => v).getD (.slice none 0 0) = bkV B key := by
  rw [bk_get]
  unfold bkV
  cases bkOf B key <;> rfl
theorem bkK_lt {ts : List Tx} {B : List Bk} (h : BkOk ts B) (key : Nat) : (bkK B key).length ≤ ts.length ∧ ∀ k ∈ bkK B key, k < ts.length := by
  unfold bkK
  cases hb : bkOf B key with
  | none => exact ⟨Nat.zero_le _, fun k hk => by cases hk⟩
  | some b => exact h.lt b (List.mem_of_find?_eq_some hb)
theorem bkK_all {ts : List Tx} {B : List Bk} (h : BkOk ts B) {k : Nat} {t : Tx} (hk : ts[k]? = some t) : k ∈ bkK B (fnvQ t) := by
  obtain ⟨b, hb, h1, h2⟩ := h.all k t hk
  unfold bkK
  rw [← h1, bk_of_mem h.nd hb]
  exact h2
theorem rd_sub {w : World} {g o n off len : Nat} {xs : List Value} (h : Rd w 1 (some ⟨g, o, none⟩) n xs) (hl : off + len ≤ n) : Rd w 1 (some ⟨g, o + off, none⟩) len ((xs.drop off).take len) := by
  obtain ⟨h1, h2, h3⟩ := h
  refine ⟨by rw [List.length_take, List.length_drop]; omega, fun h => absurd h (by simp), fun h0 => ?_⟩
  obtain ⟨g', o', he, hlt, hc⟩ := h3 (by omega)
  injection he with he
  injection he with he1 he2 _
  subst he1; subst he2
  refine ⟨g, o + off, rfl, hlt, fun j u hu => ?_⟩
  rw [List.getElem?_take] at hu
  split at hu
  · rw [List.getElem?_drop] at hu
    rw [Nat.add_assoc]
    exact hc _ _ hu
  · cases hu
theorem at_rd {w : World} {gt n o o' len m : Nat} {l : Tx} (h : Rd w 1 (some ⟨gt, 0, none⟩) n (bv l)) (ho' : (o : Int) < ((o + len : Nat) : Int) → o' = 0 + (o : Int).toNat * 1) (hol : o + len ≤ n) (hl : l.length = n) (hm : m = len) : Rd w 1 (some ⟨gt, o', none⟩) m (bv ((l.drop o).take len)) := by
  subst hm
  rcases Nat.eq_zero_or_pos m with h0 | h0
  · subst h0
    exact ⟨by simp [bv], fun h => absurd h (by simp), fun h => absurd h (by omega)⟩
  · have := ho' (by omega)
    simp only [Int.toNat_natCast, Nat.mul_one] at this
    subst this
    have := rd_sub h hol
    unfold bv
    rw [List.map_take, List.map_drop]
    exact this
theorem ctend_fn (o l : Nat) (ho : o ≤ 1000000000) (hl : l ≤ 1000000000) : Fn Tryz.prog 179 [ctV (o, l)] [] fun v _ => v = uq (o + l) := by
  refine Fn.enter (N := 9) Tryz.func179 rfl (by kernel_rfl) rfl (fun w0 => ?_)
  refine aR (fun Z hZ => ?_)
  refine jA5 rfl rfl rfl (fun g1 => ?_)
  refine sA rfl rfl <| sN (hZ _ _ ?_)
  refine aF [(1, _)] (Kn.cons rfl (Kn.nil)) ?_
  refine aR (fun Z hZ => ?_)
  refine sFA rfl tyF123_0 (by simp only [Nat.add_zero]; rfl) rfl ?_
  first | refine sL 0 rfl rfl tyA45 tyS45 rfl rfl ?_
  refine sFA rfl tyF123_1 (by simp only [Nat.zero_add]; rfl) rfl ?_
  first | refine sL 0 rfl rfl tyA112 tyS112 rfl rfl ?_
  refine jA6 Tryz.underlying112 Tryz.underlying45 rfl ((l : Nat) : Int) (by rw [IntWalk.u64_in _ (by omega)]) rfl ?_
  refine jA7 rfl rfl ((o + l : Nat) : Int) (by rw [IntWalk.u64_in _ (by omega)]; omega) rfl ?_
  refine sA rfl rfl <| sN (hZ _ _ ?_)
  refine aF [(2, _)] (Kn.cons rfl (Kn.nil)) ?_
  refine aE ?_
  repeat (with_reducible (first | refine nTR ?_ | refine nBR ?_ | refine jC0 ?_))
  exact nR1 rfl rfl rfl
theorem at_fn (gp gt n c : Nat) (pv mv : Value) (l : Tx) (o len : Nat) (hlen : l.length = n) (hnc : n ≤ c) (hn : n ≤ 1000000000) (ho : o + len ≤ n) :
    Fn Tryz.prog 140 [ptr gp 0, ctV (o, len)] [.ro gp 0 [.slice (some ⟨gt, 0, none⟩) n c, pv, mv], .ro gt 0 (bv l)] fun v _ => v = .string (str ((l.drop o).take len)) := by
  refine Fn.enter (N := 15) Tryz.func140 rfl (by kernel_rfl) rfl (fun w0 => ?_)
  refine aR (fun Z hZ => ?_)
  refine jA5 rfl rfl rfl (fun g1 => ?_)
  refine sA rfl rfl <| sN (hZ _ _ ?_)
  refine aF [(0, _), (3, _)] (Kn.cons rfl (Kn.cons rfl (Kn.nil))) ?_
  refine jC1 mixed (by kernel_rfl) (fun Z hZ => ?_)
  refine qM rfl rfl ?_
  refine jB2 rfl rfl ?_
  refine qFA rfl tyF185_0 (by simp only [Nat.add_zero]; rfl) rfl ?_
  refine sq_loadRo 1 rfl rfl 0 rfl tyA132 tyS132 rfl rfl ?_
  refine qFA rfl tyF123_0 (by simp only [Nat.add_zero]; rfl) rfl ?_
  first | refine jA2 0 rfl rfl tyA45 tyS45 rfl rfl ?_ | refine jA2 1 rfl rfl tyA45 tyS45 rfl rfl ?_ | refine jA2 2 rfl rfl tyA45 tyS45 rfl rfl ?_
  first | refine sq_loadA 0 rfl rfl tyA123 tyS123 rfl (by simp only [List.take_succ_cons, List.take_zero, List.drop_zero, Value.cells]; rfl) rfl ?_ | refine sq_loadA 1 rfl rfl tyA123 tyS123 (by first | (simp only [List.length_cons, List.length_nil, Nat.reduceAdd, Nat.zero_add, Nat.add_zero]; first | done | rfl) | rfl) (by first | (simp only [List.take_succ_cons, List.take_zero, List.drop_succ_cons, List.drop_zero, List.cons_append, List.nil_append, List.append_nil, List.length_cons, List.length_nil, Nat.reduceAdd, Nat.zero_add, Nat.add_zero, Value.cells, wrV]; first | done | rfl) | rfl) rfl ?_ | refine sq_loadA 2 rfl rfl tyA123 tyS123 (by first | (simp only [List.length_cons, List.length_nil, Nat.reduceAdd, Nat.zero_add, Nat.add_zero]; first | done | rfl) | rfl) (by first | (simp only [List.take_succ_cons, List.take_zero, List.drop_succ_cons, List.drop_zero, List.cons_append, List.nil_append, List.append_nil, List.length_cons, List.length_nil, Nat.reduceAdd, Nat.zero_add, Nat.add_zero, Value.cells, wrV]; first | done | rfl) | rfl) rfl ?_
  refine jH7 (ctend_fn o len (by omega) (by omega)) rfl rfl ?_
  refine sq_slice (i := (o : Int)) (j := ((o + len : Nat) : Int)) Tryz.underlying132 tyS5 rfl rfl rfl (by omega) (by omega) (by omega) rfl (fun o' ho' => ?_)
  refine sq_strB (l := (l.drop o).take len) Tryz.underlying132 Tryz.underlying5 Tryz.underlying9 rfl (fun w hw => at_rd (rd_ro (i := 2) rfl (by rw [bv_length]; omega) hw) ho' ho hlen (by simp; omega)) rfl ?_
  refine jA3 rfl rfl ?_
  refine jD0 (hZ _ _ ?_)
  refine aF [(4, _)] (Kn.cons rfl (Kn.nil)) ?_
  refine aE ?_
  repeat (with_reducible (first | refine nTR ?_ | refine nBR ?_ | refine jC0 ?_))
  exact nR1 rfl rfl rfl
theorem awp_fact {P : Program} {N : Frm} {w0 : World} {Wr : List Nat} {fr : Fr} {H : Heap} {Q : Exit → Act → World → Prop} {c : Code} {p : Prop} (hp : ∀ w, Sat w0 Wr H w → p) (h : p → awp P N w0 Wr c fr H Q) : awp P N w0 Wr c fr H Q :=
  fun a w ha hw => h (hp w hw) a w ha hw
theorem row_cap {w0 w : World} {Wr : List Nat} {H : Heap} {i g n c size : Nat} {e : TypeId} {xs : List Value} (hH : H[i]? = some (.ob g (RowP e size n c xs))) (hw : Sat w0 Wr H w) : n ≤ c ∧ c ≤ maxLen := by
  obtain ⟨ob, _, cur, _, h2, h3, _⟩ := hw.mem hH
  exact ⟨h2, h3⟩
abbrev bkE (gm : Nat) (B : List Bk) : Ent := mapE (fun k : Nat => uq k) (fun v : Value => v) gm (bkM B)
def fdV : Option (Nat × Nat) → Value
  | some c => .tuple #[ctV c, .bool true]
  | none => .tuple #[ctV (0, 0), .bool false]
theorem zeroIs (w : World) : (zeroValue 247).run Tryz.prog w = .ok (.slice none 0 0) w := by kernel_rfl
theorem iqL_at {l : List Nat} {i k : Nat} (h : l[i]? = some k) : rdV false 1 (iqL l) (i * 1) = some (iq (k : Nat)) := by
  rw [Nat.mul_one]
  unfold rdV
  simp [h]
theorem find_fn (gp gm : Nat) (ts : List Tx) (B : List Bk) (tv pv : Value) (s : Tx) (hok : BkOk ts B) (hn : ts.Nodup) (hne : ∀ t ∈ ts, t ≠ []) (htv : RowOk tv ts.flatten.length) (hpv : RowOk pv ts.length)
    (hfl : ts.flatten.length ≤ 1000000000) (hts : ts.length ≤ 1000000) (hs : s.length ≤ 9223372036854775807) :
    Fn Tryz.prog 90 [ptr gp 0, .string (str s)] (.own gp 185 [tv, pv, .map (some gm)] :: bkE gm B :: (rowE tv 5 1 (bv ts.flatten) ++ (rowE pv 123 2 (jH5 (ctsF 0 ts)) ++ rowE (bkV B (fnvQ s)) 3 1 (iqL (bkK B (fnvQ s))))))
      fun v H' => v = fdV (fdQ 0 ts s) ∧ H' = .own gp 185 [tv, pv, .map (some gm)] :: bkE gm B :: (rowE tv 5 1 (bv ts.flatten) ++ (rowE pv 123 2 (jH5 (ctsF 0 ts)) ++ rowE (bkV B (fnvQ s)) 3 1 (iqL (bkK B (fnvQ s))))) := by
  have hget := bkV_get B (fnvQ s)
  have hbo := bkV_ok B (fnvQ s)
  obtain ⟨hkl, hkt⟩ := bkK_lt hok (fnvQ s)
  have hall := fun k => bkK_all (k := k) (t := s) hok
  have hfs := fnv_sum s hs
  obtain ⟨q, hq⟩ : ∃ q, fnvQ s = q := ⟨_, rfl⟩
  rw [hq] at hget hbo hkl hkt hall hfs ⊢
  obtain ⟨ks, hks⟩ : ∃ ks, bkK B q = ks := ⟨_, rfl⟩
  obtain ⟨vb, hvb⟩ : ∃ v, bkV B q = v := ⟨_, rfl⟩
  rw [hks] at hbo hkl hkt hall
  rw [hvb] at hget hbo
  rw [hks, hvb]
  clear hvb
  obtain ⟨Ab, cb, rfl, hAb⟩ := hbo.form
  refine Fn.enter (N := 39) Tryz.func90 rfl (by kernel_rfl) rfl (fun w0 => ?_)
  refine aR (fun Z hZ => ?_)
  refine sAl tyZ123 rfl (fun g1 => ?_)
  refine sA rfl rfl <| sN (hZ _ _ ?_)
  refine aF [(0, _), (1, _), (4, _)] (Kn.cons rfl (Kn.cons rfl (Kn.cons rfl (Kn.nil)))) ?_
  refine aS ?_
  refine aR fun Z hZ => sM rfl rfl ?_
  refine sx_ptrNil Tryz.underlying117 rfl rfl ?_
  refine sN (hZ _ _ ?_)
  refine aF [(0, _), (1, _), (4, _), (10, _)] (Kn.cons rfl (Kn.cons rfl (Kn.cons rfl (Kn.cons rfl (Kn.nil))))) ?_
  refine aC rfl (fun h => ?_) (fun h => ?_)
  · cases h
  refine aK ?_
  with_reducible refine nN ?_
  refine aS ?_
  refine jG0 _ [(0, true), (1, true), (2, true), (3, true), (4, true), (5, false), (6, true), (7, true), (8, true)] mixed (by kernel_rfl) (HLe.pick [1, 2] (by simp) (by simp only [pick, List.filterMap_cons, List.filterMap_nil, List.getElem?_cons_succ, List.getElem?_cons_zero]; rfl)) (fun Z hZ => ?_)
  refine tw_p rfl ?_
  refine jC8 rfl rfl ?_
  refine vN ?_
  refine tw_p rfl ?_
  refine sv_nilCheck rfl rfl ?_
  refine vN ?_
  refine tw_p rfl ?_
  refine jC6 rfl tyF185_2 (by simp only [Nat.zero_add]; rfl) rfl ?_
  refine vN ?_
  refine tw_p rfl ?_
  refine jG7 0 rfl rfl tyA183 tyS183 rfl rfl ?_
  refine vN ?_
  refine tw_p rfl ?_
  refine jC8 rfl rfl ?_
  refine vN ?_
  refine tw_g rfl ?_
  refine sCP hfs rfl rfl ?_
  refine sN ⟨HLe.pick [1, 2] (by simp) rfl, ?_⟩
  refine tw_p rfl ?_
  refine sv_lookup 1 keyU Tryz.underlying183 zeroIs q _ rfl rfl rfl hget rfl ?_
  refine vN ?_
  refine tw_p rfl ?_
  refine sv_len Tryz.underlying247 rfl rfl ?_
  refine vN ?_
  refine tw_p rfl ?_
  refine jC8 rfl rfl ?_
  refine vN ?_
  refine tw_nil (hZ _ _ ?_)
  refine aF [(0, _), (1, _), (4, _), (18, _), (19, _), (20, _)] (Kn.cons rfl (Kn.cons rfl (Kn.cons rfl (Kn.cons rfl (Kn.cons rfl (Kn.cons rfl (Kn.nil))))))) ?_
  have hnf : ∀ k, k ∈ ks → ∀ t, ts[k]? = some t → t = s → fdQ 0 ts s = some ((ts.take k).flatten.length, s.length) := fun k _ t ht he => by
    subst he
    rw [fdQ_at ts 0 k t hn ht, Nat.zero_add]
  refine aB ?_
  refine jC2 (ι := Nat) (fun i => [(0, ptr gp 0), (1, .string (str s)), (4, ptr g1 0), (18, .slice Ab ks.length cb), (19, iq (ks.length : Nat)), (20, iq (i : Nat))])
    (fun _ => .own g1 123 [uq 0, wq4 0] :: .own gp 185 [tv, pv, .map (some gm)] :: bkE gm B :: (rowE tv 5 1 (bv ts.flatten) ++ (rowE pv 123 2 (jH5 (ctsF 0 ts)) ++ rowE (.slice Ab ks.length cb) 3 1 (iqL ks))))
    (fun i => i ≤ ks.length ∧ ∀ j k t, j < i → ks[j]? = some k → ts[k]? = some t → t ≠ s) (fun i => ks.length - i) 0 ⟨by simp, fun j k t hj => by omega⟩ (Kn.cons rfl (Kn.cons rfl (Kn.cons rfl (Kn.cons rfl (Kn.cons rfl (Kn.cons rfl Kn.nil)))))) (HLe.refl _) ?_
  rintro i ⟨hi, hbef⟩
  refine aR (fun Z hZ => ?_)
  refine jC3 rfl rfl rfl ?_
  refine sN (hZ _ _ ?_)
  refine aF [(0, _), (1, _), (4, _), (18, _), (19, _), (20, _), (21, _)] (Kn.cons rfl (Kn.cons rfl (Kn.cons rfl (Kn.cons rfl (Kn.cons rfl (Kn.cons rfl (Kn.cons rfl (Kn.nil)))))))) ?_
  refine aS (aC rfl (fun h1 => ?_) (fun h1 => ?_))
  · have hlt : i < ks.length := by simpa using h1
    obtain ⟨k, hk⟩ : ∃ k, ks[i]? = some k := ⟨_, List.getElem?_eq_getElem hlt⟩
    have hkm := List.mem_of_getElem? hk
    have hkts := hkt k hkm
    obtain ⟨t, ht⟩ : ∃ t, ts[k]? = some t := ⟨_, List.getElem?_eq_getElem hkts⟩
    obtain ⟨hf1, hf2⟩ := flat_at ts k t ht
    have htp : 0 < t.length := List.length_pos_iff.2 (hne t (List.mem_of_getElem? ht))
    have hct := ctsF_at ts 0 k t ht
    rw [Nat.zero_add] at hct
    obtain ⟨o, ho⟩ : ∃ o, (ts.take k).flatten.length = o := ⟨_, rfl⟩
    have hnf1 := hnf k hkm t ht
    rw [ho] at hf1 hf2 hct hnf1
    obtain ⟨gt, ct, rfl⟩ := htv.some (by omega)
    obtain ⟨gl, cl, rfl⟩ := hpv.some (by omega)
    obtain ⟨gb, cb', heb⟩ := hbo.some (by omega)
    injection heb with he1 _ he2
    subst he1; subst he2
    refine jB5 [.own g1 123 [uq 0, wq4 0], .own gp 185 [.slice (some ⟨gt, 0, none⟩) ts.flatten.length ct, .slice (some ⟨gl, 0, none⟩) ts.length cl, .map (some gm)], bkE gm B, .ob gt (RowP 5 1 ts.flatten.length ct (bv ts.flatten)), .ob gl (RowP 123 2 ts.length cl (jH5 (ctsF 0 ts))), .ob gb (RowP 3 1 ks.length cb (iqL ks))] (HLe.refl _) ?_
    refine awp_fact (fun w hw => row_cap (i := 3) rfl hw) (fun hcap => ?_)
    have hat := at_fn gp gt ts.flatten.length ct (.slice (some ⟨gl, 0, none⟩) ts.length cl) (.map (some gm)) ts.flatten o t.length rfl hcap.1 hfl hf1
    rw [hf2] at hat
    refine aK ?_
    with_reducible refine nN ?_
    refine aS (aB ?_)
    refine aR (fun Z hZ => ?_)
    refine jB9 (0 + i * 1) Tryz.underlying247 tyS3 rfl rfl (by omega) (by simp) rfl ?_
    refine sx_loadRd (i * 1) rfl rfl (fun w hw => rd_row (i := 5) rfl hw) (by omega) tyA3 tyS3 (iqL_at hk) rfl ?_
    refine sA rfl rfl <| sN (hZ _ _ ?_)
    refine aF [(0, _), (1, _), (4, _), (7, _), (18, _), (19, _), (20, _)] (Kn.cons rfl (Kn.cons rfl (Kn.cons rfl (Kn.cons rfl (Kn.cons rfl (Kn.cons rfl (Kn.cons rfl (Kn.nil)))))))) ?_
    refine aR fun Z hZ => sM rfl rfl ?_
    refine jB1 rfl rfl ?_
    refine sFA rfl tyF185_1 (by simp only [Nat.zero_add]; rfl) rfl ?_
    refine sL 1 rfl rfl tyA182 tyS182 rfl rfl ?_
    refine sM rfl rfl ?_
    refine jB9 (0 + k * 2) Tryz.underlying182 tyS123 rfl rfl (by omega) (by simp) rfl ?_
    refine sx_loadRd (k * 2) rfl rfl (fun w hw => rd_row (i := 4) rfl hw) (by omega) tyA123 tyS123 (ctcells_all hct) rfl ?_
    refine sAl tyZ123 rfl (fun g2 => ?_)
    refine sS 0 rfl rfl rfl tyS123 (by simp only [Value.cells]; rfl) rfl rfl rfl (by simp only [List.take_zero, List.drop_succ_cons, List.drop_zero, List.nil_append, List.append_nil, List.length_cons, List.length_nil, Nat.reduceAdd, Nat.zero_add, wrV]; rfl) (by simp only [List.set_cons_zero]; rfl) ?_
    refine sN (hZ _ _ ?_)
    refine aF [(0, _), (1, _), (4, _), (8, _), (18, _), (19, _), (20, _)] (Kn.cons rfl (Kn.cons rfl (Kn.cons rfl (Kn.cons rfl (Kn.cons rfl (Kn.cons rfl (Kn.cons rfl (Kn.nil)))))))) ?_
    refine aR fun Z hZ => sM rfl rfl ?_
    refine sLA 0 rfl rfl tyA123 tyS123 rfl (by simp only [List.take_succ_cons, List.take_zero, List.drop_zero]; rfl) rfl ?_
    refine sx_callV [.ro gp 0 _, .ro gt 0 _] hat rfl ((HLe.toRo [] [_]).trans ((HLe.rowRo [_] []).trans (HLe.pick [2, 4] (by simp) rfl))) (by intro x hx; simp at hx; rcases hx with rfl | rfl <;> rfl) rfl ?_
    refine sM rfl rfl ?_
    refine sx_seql rfl rfl rfl ?_
    refine sN (hZ _ _ ?_)
    refine aF [(0, _), (1, _), (4, _), (8, _), (18, _), (19, _), (20, _), (35, _)] (Kn.cons rfl (Kn.cons rfl (Kn.cons rfl (Kn.cons rfl (Kn.cons rfl (Kn.cons rfl (Kn.cons rfl (Kn.cons rfl (Kn.nil))))))))) ?_
    refine aC rfl (fun h2 => ?_) (fun h2 => ?_)
    · have h2' : t = s := by simpa using h2
      rw [hnf1 h2', ← h2']
      refine aR (fun Z hZ => ?_)
      refine sLA 0 rfl rfl tyA123 tyS123 rfl (by simp only [List.take_succ_cons, List.take_zero, List.drop_zero]; rfl) rfl ?_
      refine sS 1 rfl rfl rfl tyS123 (by simp only [Value.cells]; rfl) rfl rfl rfl (by simp only [List.take_zero, List.drop_succ_cons, List.drop_zero, List.nil_append, List.append_nil, List.length_cons, List.length_nil, Nat.reduceAdd, Nat.zero_add, wrV]; rfl) (by simp only [List.set_cons_succ, List.set_cons_zero]; rfl) ?_
      refine sA rfl rfl <| sN (hZ _ _ ?_)
      refine aF [(4, _), (5, _)] (Kn.cons rfl (Kn.cons rfl (Kn.nil))) ?_
      refine aE ?_
      repeat (with_reducible (first | refine nTR ?_ | refine nBR ?_))
      exact jD2 _ rfl (ResOk.cell 1 rfl rfl tyA123 tyS123 rfl) rfl (HLe.drop 2 rfl) ⟨rfl, rfl⟩
    have h2' : ¬ t = s := by simpa using h2
    refine aK ?_
    repeat (with_reducible refine nBN ?_)
    with_reducible refine nN ?_
    refine aG (fun Z hZ => ?_)
    refine jA7 rfl rfl ((i + 1 : Nat) : Int) (by rw [IntWalk.i64_in _ (by omega)]; omega) rfl ?_
    refine sM rfl rfl <| sN (hZ _ _ ?_)
    refine nF [(0, _), (1, _), (4, _), (18, _), (19, _), (20, _)] (Kn.cons rfl (Kn.cons rfl (Kn.cons rfl (Kn.cons rfl (Kn.cons rfl (Kn.cons rfl (Kn.nil))))))) ?_
    refine jB4 (i + 1) ⟨hlt, fun j k' t' hj hk' ht' => ?_⟩ (by omega) (Kn.cons rfl (Kn.cons rfl (Kn.cons rfl (Kn.cons rfl (Kn.cons rfl (Kn.cons rfl Kn.nil)))))) (HLe.drop 1 rfl)
    rcases Nat.lt_or_ge j i with h5 | h5
    · exact hbef j k' t' h5 hk' ht'
    · obtain rfl : j = i := by omega
      rw [hk] at hk'
      injection hk' with hk'
      subst hk'
      rw [ht] at ht'
      injection ht' with ht'
      subst ht'
      exact h2'
  · refine jA8 ?_
    repeat (with_reducible refine nTE ?_)
    with_reducible refine nBE ?_
    with_reducible refine nN ?_
    have hke : i = ks.length := by simp at h1; omega
    subst hke
    have hno : fdQ 0 ts s = none := by
      rw [fdQ_none]
      intro hm
      obtain ⟨k, hkl', hks'⟩ := List.getElem_of_mem hm
      have hk1 : ts[k]? = some s := by rw [List.getElem?_eq_getElem hkl', hks']
      have := hall k hk1
      obtain ⟨j, hj, hj'⟩ := List.getElem_of_mem this
      exact hbef j k s hj (by rw [List.getElem?_eq_getElem hj, hj']) hk1 rfl
    rw [hno]
    refine aR (fun Z hZ => ?_)
    refine jB3 tyZ123 tyP123 rfl rfl rfl rfl ?_
    refine sS 0 rfl rfl rfl tyS123 (by simp only [Value.cells]; rfl) rfl rfl rfl (by simp only [List.take_zero, List.drop_succ_cons, List.drop_zero, List.nil_append, List.append_nil, List.length_cons, List.length_nil, Nat.reduceAdd, Nat.zero_add, wrV]; rfl) (by simp only [List.set_cons_zero]; rfl) ?_
    refine sA rfl rfl <| sN (hZ _ _ ?_)
    refine aF [(4, _), (5, _)] (Kn.cons rfl (Kn.cons rfl (Kn.nil))) ?_
    refine aE ?_
    exact jD2 _ rfl (ResOk.cell 0 rfl rfl tyA123 tyS123 rfl) rfl (HLe.drop 1 rfl) ⟨rfl, rfl⟩
end Go.Proofs.YtkojkeabelckjaaGreatDoor.V
end

section
set_option linter.all false
namespace Go.Proofs.YtkojkeabelckjaaGreatDoor
open Go.RowKit
def scl_rho : Go.Shelf.Ren := ⟨fun n => match n with | 25 => 141 | _ => 0, fun n => match n with | 0 => 0 | 3 => 3 | 4 => 4 | 5 => 5 | 9 => 9 | 37 => 132 | 47 => 254 | _ => 0, fun n => match n with | _ => 0⟩
theorem scl0 : LaysPu.n25 Tryz.prog scl_rho where
  mixed := by kernel_rfl
  f25 := by kernel_rfl
  t0 := by kernel_rfl
  a0 := fun w => by kernel_rfl
  z0 := fun w => by kernel_rfl
  v0 := fun w => by kernel_rfl
  i0 := by kernel_rfl
  t3 := by kernel_rfl
  a3 := fun w => by kernel_rfl
  z3 := fun w => by kernel_rfl
  v3 := fun w => by kernel_rfl
  i3 := by kernel_rfl
  t4 := by kernel_rfl
  a4 := fun w => by kernel_rfl
  z4 := fun w => by kernel_rfl
  v4 := fun w => by kernel_rfl
  i4 := by kernel_rfl
  t5 := by kernel_rfl
  a5 := fun w => by kernel_rfl
  z5 := fun w => by kernel_rfl
  v5 := fun w => by kernel_rfl
  i5 := by kernel_rfl
  t9 := by kernel_rfl
  a9 := fun w => by kernel_rfl
  z9 := fun w => by kernel_rfl
  v9 := fun w => by kernel_rfl
  i9 := by kernel_rfl
  t37 := by kernel_rfl
  a37 := fun w => by kernel_rfl
  z37 := fun w => by kernel_rfl
  v37 := fun w => by kernel_rfl
  i37 := by kernel_rfl
  t47 := by kernel_rfl
  a47 := fun w => by kernel_rfl
  z47 := fun w => by kernel_rfl
  v47 := fun w => by kernel_rfl
  i47 := by kernel_rfl
theorem enter_scl : Enters Tryz.prog 141 := Enters.mk Tryz.func141 (by kernel_rfl) (by kernel_rfl)
theorem scl_fn (s : List UInt8) (h : s.length ≤ 281474976710656) : Fn Tryz.prog 141 [.string (str s)] [] fun v _ => v = .string (str s) :=
  Fn.of_bel enter_scl fun w => (AnyPu.stringslite_Clone scl0 (str s) w (by rw [str_size]; exact h)).mono fun e w' ⟨he, a, b, c, d, f⟩ => ⟨he, a, b, c, d, f⟩
theorem clone_fn (s : List UInt8) (h : s.length ≤ 281474976710656) : Fn Tryz.prog 92 [.string (str s)] [] fun v _ => v = .string (str s) := by
  refine Fn.enter (N := 5) Tryz.func92 rfl (by kernel_rfl) rfl (fun w0 => ?_)
  refine aR fun Z hZ => sA rfl rfl <| sN (hZ _ _ ?_)
  refine aF [(0, _)] (Kn.cons rfl (Kn.nil)) ?_
  refine aR fun Z hZ => sM rfl rfl ?_
  refine sCP (scl_fn s h) rfl rfl ?_
  refine sA rfl rfl <| sN (hZ _ _ ?_)
  refine aF [(2, _)] (Kn.cons rfl (Kn.nil)) ?_
  refine aE ?_
  repeat (with_reducible (first | refine nTR ?_ | refine nBR ?_ | refine jC0 ?_))
  exact nR1 rfl rfl rfl
end Go.Proofs.YtkojkeabelckjaaGreatDoor
end

section
set_option linter.all false
namespace Go.Proofs.YtkojkeabelckjaaGreatDoor.V
open Go.RowKit
set_option maxRecDepth 100000
section
variable {P : Program} {N : Frm} {w0 : World} {Wr : List Nat} {ops : Array Oper} {rest : List Oper} {fr : Fr} {H : Heap} {Z : Fr → Heap → Prop} {d ty : Nat} {pos : String} {after : Array Edge}
theorem sx_makeFuncB {f : FuncId} {xs : List Operand} {vs : List Value} (hx : evs fr xs = some vs) (hN : Nat.ble (d + 1) N.n = true)
    (h : sx P N w0 Wr ops rest ((d, .func (.func f) vs.toArray #[]) :: fr) H Z) : sx P N w0 Wr ops (⟨some d, .makeFunc (.func f) xs.toArray #[], ty, pos, after, none⟩ :: rest) fr H Z :=
  jE2 _ hN (fun a w ha hw => by
    have := ha.evals hx
    subst this
    simp [execOp, Instr.makeFunc, Sem.run_pure]) h
theorem run_callFB {f : FuncId} {bs : List Value} {vs : List Value} (hE : Enters P f) {x : Operand} {xs : List Operand} {ts : Array TypeId} {ρ : Operand → Value} (hx : xs.map ρ = vs) (hf : ρ x = .func (.func f) bs.toArray #[]) {dst : Option Nat} {w : World} :
    (execOp ρ ⟨dst, .call { callee := .value x, args := xs.toArray, argTypes := ts }, ty, pos, after, none⟩).run P w = .ok (.enter f (bs ++ vs).toArray) w := by
  obtain ⟨fn, h1, h2, h3⟩ := hE
  subst hx
  have h2' : ¬ (fn.name = "runtime.NumGoroutine") := by simpa using h2
  have h3' : ¬ (fn.body = none) := by intro e; rw [e] at h3; cases h3
  simp [execOp, resolve, hf, Deferred.ofValue, invoke, callFunc, h1, h2', h3', program, Sem.run_bind, Sem.run_pure, Sem.run]
theorem sx_callFB {f : FuncId} {bs : List Value} {x : Operand} {xs : List Operand} {vs : List Value} {ts : Array TypeId} {dst : Option Nat} {Hc : Heap} {R : Value → Heap → Prop} (K : Heap) (hc : Fn P f (bs ++ vs) Hc R) (hf : ev fr x = some (.func (.func f) bs.toArray #[])) (hx : evs fr xs = some vs) (hH : HLe (Hc ++ K) H) (hN : dstB N dst = true)
    (h : ∀ v H', R v H' → sx P N w0 Wr ops rest (match dst with | some d => (d, v) :: fr | none => fr) (H'.filter Ent.wr ++ K) Z) :
    sx P N w0 Wr ops (⟨dst, .call { callee := .value x, args := xs.toArray, argTypes := ts }, ty, pos, after, none⟩ :: rest) fr H Z :=
  sx_op rfl fun a w K' Q ha hw hK => by
    unfold Oper.wp
    rw [run_callFB hc.1 (ha.evals hx) (ha.eval hf)]
    have hw' := hH _ _ _ hw
    have hpre : Sat w (wrs Hc) Hc w := ⟨Only.refl _ _, fun e he => ⟨(hw'.ents e (List.mem_append_left _ he)).1, fun h => .inl (mem_wrs.2 ⟨e, he, h, rfl⟩)⟩, (List.pairwise_append.1 hw'.sep).1⟩
    refine (hc.2 w hpre).mono fun e w' he => ?_
    obtain ⟨v, H', rfl, hR, hS⟩ := he
    have hS' := Sat.callA (U := []) hw' Ro.nil (by rw [List.append_nil]; exact hS)
    cases dst with
    | none => exact hK v w' fr _ (h v H' hR) (ha.skip _) hS'
    | some d => exact hK v w' _ _ (h v H' hR) (ha.put hN v) hS'
end
theorem Fn.frame {P : Program} {f : FuncId} {vs : List Value} {x : Value} {Hc K H : Heap} (hc : Fn P f vs Hc fun v H' => v = x ∧ H' = Hc) (hw : Wrs Hc) (hp : H.Perm (Hc ++ K)) : Fn P f vs H fun v H' => v = x ∧ H' = H :=
  ⟨hc.1, fun w hS => by
    have hS2 : Sat w (wrs H) (Hc ++ K) w := hS.perm hp
    have hpre : Sat w (wrs Hc) Hc w := ⟨Only.refl _ _, fun e he => ⟨(hS2.ents e (List.mem_append_left _ he)).1, fun h => .inl (mem_wrs.2 ⟨e, he, h, rfl⟩)⟩, (List.pairwise_append.1 hS2.sep).1⟩
    refine (hc.2 w hpre).mono fun e w' he => ?_
    obtain ⟨v, H', h1, ⟨h2, h3⟩, h4⟩ := he
    subst h3
    have h5 := Sat.callA (U := []) hS2 Ro.nil (by rw [List.append_nil]; exact h4)
    rw [hw.filter] at h5
    exact ⟨v, H, h1, ⟨h2, rfl⟩, h5.perm hp.symm⟩⟩
def bkDel : List Bk → Nat → List Bk
  | [], _ => []
  | b :: r, q => if b.key = q then r else b :: bkDel r q
def bkPut : List Bk → Bk → List Bk
  | [], x => [x]
  | b :: r, x => if b.key = x.key then x :: r else b :: bkPut r x
theorem bkM_put : ∀ (B : List Bk) (x : Bk), bkM (bkPut B x) = aput (bkM B) x.key x.v
  | [], _ => rfl
  | b :: r, x => by
    show bkM (if b.key = x.key then x :: r else b :: bkPut r x) = if b.key = x.key then (x.key, x.v) :: bkM r else (b.key, b.v) :: aput (bkM r) x.key x.v
    split
    · rfl
    · rw [← bkM_put r x]; rfl
theorem bkH_put : ∀ (B : List Bk) (x : Bk), (bkH (bkPut B x)).Perm (bkH (bkDel B x.key) ++ [x.e])
  | [], x => List.Perm.refl _
  | b :: r, x => by
    unfold bkPut bkDel
    split
    · exact (List.perm_append_singleton x.e (bkH r)).symm
    · exact List.Perm.cons _ (bkH_put r x)
theorem bkH_del : ∀ (B : List Bk) (q : Nat), (bkH B).Perm (bkH (bkDel B q) ++ rowE (bkV B q) 3 1 (iqL (bkK B q)))
  | [], q => List.Perm.refl _
  | b :: r, q => by
    by_cases h : b.key = q
    · have hf : bkOf (b :: r) q = some b := by unfold bkOf; rw [List.find?_cons, beq_iff_eq.2 h]
      have h1 : bkV (b :: r) q = b.v := by unfold bkV; rw [hf]
      have h2 : bkK (b :: r) q = b.ks := by unfold bkK; rw [hf]
      rw [h1, h2, bkDel, if_pos h]
      exact (List.perm_append_singleton b.e (bkH r)).symm
    · have hf : bkOf (b :: r) q = bkOf r q := by unfold bkOf; rw [List.find?_cons, beq_eq_false_iff_ne.2 h]
      have h1 : bkV (b :: r) q = bkV r q := by unfold bkV; rw [hf]
      have h2 : bkK (b :: r) q = bkK r q := by unfold bkK; rw [hf]
      rw [h1, h2, bkDel, if_neg h]
      exact List.Perm.cons _ (bkH_del r q)
theorem bkPut_keys : ∀ (B : List Bk) (x : Bk), (∀ k, k ∈ (bkPut B x).map Bk.key ↔ k = x.key ∨ k ∈ B.map Bk.key) ∧ ((B.map Bk.key).Nodup → ((bkPut B x).map Bk.key).Nodup) ∧ (∀ b ∈ bkPut B x, b = x ∨ b ∈ B) ∧ (∀ b ∈ B, b.key ≠ x.key → b ∈ bkPut B x) ∧ x ∈ bkPut B x
  | [], x => by simp [bkPut]
  | b :: r, x => by
    obtain ⟨h1, h2, h3, h4, h5⟩ := bkPut_keys r x
    unfold bkPut
    split
    · rename_i h
      refine ⟨fun k => by simp [h], fun hn => by simpa [h] using hn, fun y hy => ?_, fun y hy hk => ?_, List.mem_cons_self⟩
      · rcases List.mem_cons.1 hy with rfl | hy
        · exact .inl rfl
        · exact .inr (List.mem_cons_of_mem _ hy)
      · rcases List.mem_cons.1 hy with rfl | hy
        · exact absurd h hk
        · exact List.mem_cons_of_mem _ hy
    · rename_i h
      refine ⟨fun k => ?_, fun hn => ?_, fun y hy => ?_, fun y hy hk => ?_, List.mem_cons_of_mem _ h5⟩
      · rw [List.map_cons, List.mem_cons, h1, List.map_cons, List.mem_cons]
        constructor
        · rintro (h | h | h)
          · exact .inr (.inl h)
          · exact .inl h
          · exact .inr (.inr h)
        · rintro (h | h | h)
          · exact .inr (.inl h)
          · exact .inl h
          · exact .inr (.inr h)
      · rw [List.map_cons, List.nodup_cons] at hn ⊢
        refine ⟨fun hm => ?_, h2 hn.2⟩
        rcases (h1 _).1 hm with hm | hm
        · exact h hm
        · exact hn.1 hm
      · rcases List.mem_cons.1 hy with rfl | hy
        · exact .inr List.mem_cons_self
        · exact (h3 y hy).imp id (List.mem_cons_of_mem _)
      · rcases List.mem_cons.1 hy with rfl | hy
        · exact List.mem_cons_self
        · exact List.mem_cons_of_mem _ (h4 y hy hk)
theorem BkOk.put {ts : List Tx} {B : List Bk} (h : BkOk ts B) (s : Tx) (g c : Nat) : BkOk (ts ++ [s]) (bkPut B ⟨fnvQ s, g, c, bkK B (fnvQ s) ++ [ts.length]⟩) := by
  obtain ⟨h1, h2, h3, h4, h5⟩ := bkPut_keys B ⟨fnvQ s, g, c, bkK B (fnvQ s) ++ [ts.length]⟩
  obtain ⟨k1, k2⟩ := bkK_lt h (fnvQ s)
  refine ⟨h2 h.nd, fun b hb => ?_, fun k t ht => ?_⟩
  · rw [List.length_append, List.length_singleton]
    rcases h3 b hb with rfl | hb
    · refine ⟨by simp only [List.length_append, List.length_singleton]; omega, fun k hk => ?_⟩
      rcases List.mem_append.1 hk with hk | hk
      · have := k2 k hk; omega
      · have := List.mem_singleton.1 hk; omega
    · obtain ⟨b1, b2⟩ := h.lt b hb
      exact ⟨by omega, fun k hk => by have := b2 k hk; omega⟩
  · by_cases hk : k < ts.length
    · rw [List.getElem?_append_left hk] at ht
      by_cases hq : fnvQ t = fnvQ s
      · exact ⟨_, h5, hq.symm, List.mem_append_left _ (hq ▸ bkK_all h ht)⟩
      · obtain ⟨b, hb, b1, b2⟩ := h.all k t ht
        exact ⟨b, h4 b hb (by rw [b1]; exact hq), b1, b2⟩
    · rw [List.getElem?_append_right (by omega)] at ht
      have hlt := (List.getElem?_eq_some_iff.1 ht).1
      simp only [List.length_singleton] at hlt
      have hk0 : k - ts.length = 0 := by omega
      rw [hk0] at ht
      injection ht with ht
      subst ht
      exact ⟨_, h5, rfl, List.mem_append_right _ (List.mem_singleton.2 (by omega))⟩
abbrev nilS : Value := .slice none 0 0
abbrev plK (gm : Nat) (ts : List Tx) (B : List Bk) (tv pv : Value) : Heap := bkE gm B :: (rowE tv 5 1 (bv ts.flatten) ++ (rowE pv 123 2 (jH5 (ctsF 0 ts)) ++ bkH B))
def PlOk (gm : Nat) (ts : List Tx) (B : List Bk) (tv pv : Value) : Prop := BkOk ts B ∧ RowOk tv ts.flatten.length ∧ RowOk pv ts.length
def PoolIs (gp : Nat) (ts : List Tx) (H : Heap) : Prop :=
  (ts = [] ∧ H = [.own gp 185 [nilS, nilS, .map none]]) ∨ ∃ gm B tv pv, PlOk gm ts B tv pv ∧ H = .own gp 185 [tv, pv, .map (some gm)] :: plK gm ts B tv pv
theorem bkH_wrs (B : List Bk) : Wrs (bkH B) := fun e he => by
  obtain ⟨b, _, rfl⟩ := List.mem_map.1 he
  rfl
theorem plK_wrs (gm : Nat) (ts : List Tx) (B : List Bk) (tv pv : Value) : Wrs (plK gm ts B tv pv) := Wrs.cons rfl ((rowE_wrs _ _ _ _).append ((rowE_wrs _ _ _ _).append (bkH_wrs B)))
theorem PoolIs.wrs {gp : Nat} {ts : List Tx} {H : Heap} (h : PoolIs gp ts H) : Wrs H := by
  rcases h with ⟨_, rfl⟩ | ⟨gm, B, tv, pv, _, rfl⟩
  · exact Wrs.cons rfl Wrs.nil
  · exact Wrs.cons rfl (plK_wrs _ _ _ _ _)
theorem find0_fn (gp : Nat) (s : Tx) (hs : s.length ≤ 9223372036854775807) :
    Fn Tryz.prog 90 [ptr gp 0, .string (str s)] [.own gp 185 [nilS, nilS, .map none]] fun v H' => v = fdV none ∧ H' = [.own gp 185 [nilS, nilS, .map none]] := by
  have hfs := fnv_sum s hs
  refine Fn.enter (N := 39) Tryz.func90 rfl (by kernel_rfl) rfl (fun w0 => ?_)
  refine aR (fun Z hZ => ?_)
  refine sAl tyZ123 rfl (fun g1 => ?_)
  refine sA rfl rfl <| sN (hZ _ _ ?_)
  refine aF [(0, _), (1, _), (4, _)] (Kn.cons rfl (Kn.cons rfl (Kn.cons rfl (Kn.nil)))) ?_
  refine aS ?_
  refine aR fun Z hZ => sM rfl rfl ?_
  refine sx_ptrNil Tryz.underlying117 rfl rfl ?_
  refine sN (hZ _ _ ?_)
  refine aF [(0, _), (1, _), (4, _), (10, _)] (Kn.cons rfl (Kn.cons rfl (Kn.cons rfl (Kn.cons rfl (Kn.nil))))) ?_
  refine aC rfl (fun h => ?_) (fun h => ?_)
  · cases h
  refine aK ?_
  with_reducible refine nN ?_
  refine aS ?_
  refine jG0 _ [(0, true), (1, true), (2, true), (3, true), (4, true), (5, false), (6, true), (7, true), (8, true)] mixed (by kernel_rfl) (HLe.pick [1] (by simp) (by simp only [pick, List.filterMap_cons, List.filterMap_nil, List.getElem?_cons_succ, List.getElem?_cons_zero]; rfl)) (fun Z hZ => ?_)
  refine tw_p rfl ?_
  refine jC8 rfl rfl ?_
  refine vN ?_
  refine tw_p rfl ?_
  refine sv_nilCheck rfl rfl ?_
  refine vN ?_
  refine tw_p rfl ?_
  refine jC6 rfl tyF185_2 (by simp only [Nat.zero_add]; rfl) rfl ?_
  refine vN ?_
  refine tw_p rfl ?_
  first | refine jG7 0 rfl rfl tyA183 tyS183 rfl rfl ?_
  refine vN ?_
  refine tw_p rfl ?_
  refine jC8 rfl rfl ?_
  refine vN ?_
  refine tw_g rfl ?_
  refine sCP hfs rfl rfl ?_
  refine sN ⟨HLe.pick [1] (by simp) rfl, ?_⟩
  refine tw_p rfl ?_
  refine sv_lookupNil keyU Tryz.underlying183 zeroIs (fnvQ s) _ rfl rfl rfl rfl ?_
  refine vN ?_
  refine tw_p rfl ?_
  refine sv_len Tryz.underlying247 rfl rfl ?_
  refine vN ?_
  refine tw_p rfl ?_
  refine jC8 rfl rfl ?_
  refine vN ?_
  refine tw_nil (hZ _ _ ?_)
  refine aF [(0, _), (1, _), (4, _), (18, _), (19, _), (20, _)] (Kn.cons rfl (Kn.cons rfl (Kn.cons rfl (Kn.cons rfl (Kn.cons rfl (Kn.cons rfl (Kn.nil))))))) ?_
  refine aB ?_
  refine jC2 (ι := Unit) (fun _ => [(0, ptr gp 0), (1, .string (str s)), (4, ptr g1 0), (18, nilS), (19, iq (0 : Nat)), (20, iq (0 : Nat))])
    (fun _ => [.own g1 123 [uq 0, wq4 0], .own gp 185 [nilS, nilS, .map none]]) (fun _ => True) (fun _ => 0) () trivial (Kn.cons rfl (Kn.cons rfl (Kn.cons rfl (Kn.cons rfl (Kn.cons rfl (Kn.cons rfl Kn.nil)))))) (HLe.refl _) ?_
  rintro ⟨⟩ -
  refine aR (fun Z hZ => ?_)
  refine jC3 rfl rfl rfl ?_
  refine sN (hZ _ _ ?_)
  refine aF [(0, _), (1, _), (4, _), (18, _), (19, _), (20, _), (21, _)] (Kn.cons rfl (Kn.cons rfl (Kn.cons rfl (Kn.cons rfl (Kn.cons rfl (Kn.cons rfl (Kn.cons rfl (Kn.nil)))))))) ?_
  refine aS (aC rfl (fun h1 => ?_) (fun h1 => ?_))
  · simp at h1
  · refine jA8 ?_
    repeat (with_reducible refine nTE ?_)
    with_reducible refine nBE ?_
    with_reducible refine nN ?_
    refine aR (fun Z hZ => ?_)
    refine jB3 tyZ123 tyP123 rfl rfl rfl rfl ?_
    refine sS 0 rfl rfl rfl tyS123 (by simp only [Value.cells]; rfl) rfl rfl rfl (by simp only [List.take_zero, List.drop_succ_cons, List.drop_zero, List.nil_append, List.append_nil, List.length_cons, List.length_nil, Nat.reduceAdd, Nat.zero_add, wrV]; rfl) (by simp only [List.set_cons_zero]; rfl) ?_
    refine sA rfl rfl <| sN (hZ _ _ ?_)
    refine aF [(4, _), (5, _)] (Kn.cons rfl (Kn.cons rfl (Kn.nil))) ?_
    refine aE ?_
    exact jD2 _ rfl (ResOk.cell 0 rfl rfl tyA123 tyS123 rfl) rfl (HLe.drop 1 rfl) ⟨rfl, rfl⟩
theorem find_is {gp : Nat} {ts : List Tx} {H : Heap} (h : PoolIs gp ts H) (s : Tx) (hn : ts.Nodup) (hne : ∀ t ∈ ts, t ≠ []) (hfl : ts.flatten.length ≤ 1000000000) (hts : ts.length ≤ 1000000) (hs : s.length ≤ 9223372036854775807) :
    Fn Tryz.prog 90 [ptr gp 0, .string (str s)] H fun v H' => v = fdV (fdQ 0 ts s) ∧ H' = H := by
  rcases h with ⟨rfl, rfl⟩ | ⟨gm, B, tv, pv, ⟨h1, h2, h3⟩, rfl⟩
  · exact find0_fn gp s hs
  · refine Fn.frame (K := bkH (bkDel B (fnvQ s))) (find_fn gp gm ts B tv pv s h1 hn hne h2 h3 hfl hts hs) (Wrs.cons rfl (Wrs.cons rfl ((rowE_wrs _ _ _ _).append ((rowE_wrs _ _ _ _).append (rowE_wrs _ _ _ _))))) ?_
    refine List.Perm.cons _ (List.Perm.cons _ (?_ : List.Perm (_ ++ (_ ++ _)) ((_ ++ (_ ++ _)) ++ _)))
    rw [List.append_assoc, List.append_assoc]
    refine List.Perm.append_left _ (List.Perm.append_left _ ?_)
    exact (bkH_del B (fnvQ s)).trans List.perm_append_comm
end Go.Proofs.YtkojkeabelckjaaGreatDoor.V
end
