/- Pools of contents, plain; the walks of what tells a content's text, and of Find. Conditions: the texts are not too long. -/
import Derived.Test.YtffahimbmpddpaaPl1
import Derived.Test.YtffahimbmpddpaaLaySort
import Derived.Test.YtffahimbmpddpaaGch2
import Derived.Test.YtffahimbmpddpaaGen1
namespace Go.Proofs.Ytffahimbmpddpaa.V
open Go.RowKit
set_option linter.unusedVariables false
set_option linter.unusedSimpArgs false
set_option maxRecDepth 100000
abbrev Tx := List UInt8
def ctsF : Nat → List Tx → List (Nat × Nat)
  | _, [] => []
  | o, t :: r => (o, t.length) :: ctsF (o + t.length) r
abbrev ctC (c : Nat × Nat) : List Value := [uq c.1, wq4 c.2]
abbrev ctV (c : Nat × Nat) : Value := .agg (ctC c).toArray
abbrev ctcells (L : List (Nat × Nat)) : List Value := L.flatMap ctC
theorem ct_len (c : Nat × Nat) : (ctC c).length = 2 := rfl
theorem ctcells_len (L : List (Nat × Nat)) : (ctcells L).length = L.length * 2 := fm_len ct_len L
theorem ctcells_all {L : List (Nat × Nat)} {i : Nat} {x : Nat × Nat} (h : L[i]? = some x) : rdV true 2 (ctcells L) (i * 2) = some (ctV x) := fm_rd ct_len h
theorem ctcells_app (X Y : List (Nat × Nat)) : ctcells (X ++ Y) = ctcells X ++ ctcells Y := by simp [ctcells]
theorem elemCt : ElemOk Try.prog 112 84 2 16 := ElemOk.mk_ (z := .agg #[uq 0, wq4 0]) Try.underlying112 (by kernel_rfl) rfl (by omega)
theorem elemInt : ElemOk Try.prog 131 3 1 8 := ElemOk.mk_ (z := iq (0 : Nat)) Try.underlying131 (by kernel_rfl) rfl (by omega)
theorem ctsF_len : ∀ (ts : List Tx) (o : Nat), (ctsF o ts).length = ts.length
  | [], _ => rfl
  | t :: r, o => by rw [ctsF, List.length_cons, ctsF_len r, List.length_cons]
theorem ctsF_at : ∀ (ts : List Tx) (o k : Nat) (t : Tx), ts[k]? = some t → (ctsF o ts)[k]? = some (o + (ts.take k).flatten.length, t.length)
  | [], _, _, _, h => by simp at h
  | x :: r, o, 0, t, h => by
    simp only [List.getElem?_cons_zero, Option.some.injEq] at h
    subst h
    simp [ctsF]
  | x :: r, o, k + 1, t, h => by
    rw [List.getElem?_cons_succ] at h
    rw [ctsF, List.getElem?_cons_succ, ctsF_at r _ k t h]
    simp only [List.take_succ_cons, List.flatten_cons, List.length_append]
    rw [Nat.add_assoc]
theorem ctsF_snoc : ∀ (ts : List Tx) (o : Nat) (s : Tx), ctsF o (ts ++ [s]) = ctsF o ts ++ [(o + ts.flatten.length, s.length)]
  | [], o, s => by simp [ctsF]
  | x :: r, o, s => by
    rw [List.cons_append, ctsF, ctsF_snoc r, ctsF, List.cons_append, List.flatten_cons, List.length_append, Nat.add_assoc]
theorem flat_at : ∀ (ts : List Tx) (k : Nat) (t : Tx), ts[k]? = some t → (ts.take k).flatten.length + t.length ≤ ts.flatten.length ∧ (ts.flatten.drop (ts.take k).flatten.length).take t.length = t
  | [], _, _, h => by simp at h
  | x :: r, 0, t, h => by
    simp only [List.getElem?_cons_zero, Option.some.injEq] at h
    subst h
    simp
  | x :: r, k + 1, t, h => by
    rw [List.getElem?_cons_succ] at h
    obtain ⟨h1, h2⟩ := flat_at r k t h
    simp only [List.take_succ_cons, List.flatten_cons, List.length_append]
    refine ⟨by omega, ?_⟩
    rw [← List.drop_drop, List.drop_left]
    exact h2
def fdQ : Nat → List Tx → Tx → Option (Nat × Nat)
  | _, [], _ => none
  | o, t :: r, s => if t = s then some (o, s.length) else fdQ (o + t.length) r s
theorem fdQ_none : ∀ (ts : List Tx) (o : Nat) (s : Tx), fdQ o ts s = none ↔ s ∉ ts
  | [], _, _ => by simp [fdQ]
  | t :: r, o, s => by
    rw [fdQ]
    split
    · rename_i h; simp [h]
    · rename_i h
      rw [fdQ_none r]
      simp only [List.mem_cons, not_or]
      exact ⟨fun x => ⟨fun e => h e.symm, x⟩, fun x => x.2⟩
theorem fdQ_at : ∀ (ts : List Tx) (o k : Nat) (s : Tx), ts.Nodup → ts[k]? = some s → fdQ o ts s = some (o + (ts.take k).flatten.length, s.length)
  | [], _, _, _, _, h => by simp at h
  | x :: r, o, 0, t, _, h => by
    simp only [List.getElem?_cons_zero, Option.some.injEq] at h
    subst h
    simp [fdQ]
  | x :: r, o, k + 1, t, hn, h => by
    rw [List.getElem?_cons_succ] at h
    have hne : x ≠ t := fun e => (List.nodup_cons.1 hn).1 (e ▸ List.mem_of_getElem? h)
    rw [fdQ, if_neg hne, fdQ_at r _ k t (List.nodup_cons.1 hn).2 h]
    simp only [List.take_succ_cons, List.flatten_cons, List.length_append]
    rw [Nat.add_assoc]
structure Bk where
  key : Nat
  g : Nat
  c : Nat
  ks : List Nat
abbrev Bk.v (b : Bk) : Value := .slice (some ⟨b.g, 0, none⟩) b.ks.length b.c
abbrev iqL (l : List Nat) : List Value := l.map fun k => iq (k : Nat)
abbrev Bk.e (b : Bk) : Ent := .ob b.g (RowP 3 1 b.ks.length b.c (iqL b.ks))
abbrev bkM (B : List Bk) : List (Nat × Value) := B.map fun b => (b.key, b.v)
abbrev bkH (B : List Bk) : Heap := B.map Bk.e
def bkOf (B : List Bk) (key : Nat) : Option Bk := B.find? fun b => b.key == key
theorem bk_get : ∀ (B : List Bk) (key : Nat), aget (bkM B) key = (bkOf B key).map Bk.v
  | [], _ => rfl
  | b :: r, key => by
    show (if b.key = key then some b.v else aget (bkM r) key) = _
    unfold bkOf
    rw [List.find?_cons]
    by_cases h : b.key = key
    · rw [if_pos h, beq_iff_eq.2 h]; rfl
    · rw [if_neg h, bk_get r key, beq_eq_false_iff_ne.2 h]; rfl
structure BkOk (ts : List Tx) (B : List Bk) : Prop where
  nd : (B.map Bk.key).Nodup
  lt : ∀ b ∈ B, b.ks.length ≤ ts.length ∧ ∀ k ∈ b.ks, k < ts.length
  all : ∀ k t, ts[k]? = some t → ∃ b ∈ B, b.key = fnvQ t ∧ k ∈ b.ks
theorem bk_of_mem : ∀ {B : List Bk} {b : Bk}, (B.map Bk.key).Nodup → b ∈ B → bkOf B b.key = some b
  | [], _, _, h => by cases h
  | x :: r, b, hn, h => by
    unfold bkOf
    rw [List.find?_cons]
    rcases List.mem_cons.1 h with rfl | h
    · simp
    · have : x.key ≠ b.key := fun e => (List.nodup_cons.1 hn).1 (e ▸ List.mem_map.2 ⟨b, h, rfl⟩)
      rw [beq_eq_false_iff_ne.2 this]
      exact bk_of_mem (List.nodup_cons.1 hn).2 h
/-- The integers that a bucket has. -/
def bkK (B : List Bk) (key : Nat) : List Nat := match bkOf B key with | some b => b.ks | none => []
def bkV (B : List Bk) (key : Nat) : Value := match bkOf B key with | some b => b.v | none => .slice none 0 0
theorem bkV_ok (B : List Bk) (key : Nat) : RowOk (bkV B key) (bkK B key).length := by
  unfold bkV bkK
  cases bkOf B key with
  | none => exact RowOk.nil
  | some b => exact RowOk.mk _ _ _
theorem bkV_get (B : List Bk) (key : Nat) : ((aget (bkM B) key).map fun v => v).getD (.slice none 0 0) = bkV B key := by
  rw [bk_get]
  unfold bkV
  cases bkOf B key <;> rfl
theorem bkK_lt {ts : List Tx} {B : List Bk} (h : BkOk ts B) (key : Nat) : (bkK B key).length ≤ ts.length ∧ ∀ k ∈ bkK B key, k < ts.length := by
  unfold bkK
  cases hb : bkOf B key with
  | none => exact ⟨Nat.zero_le _, fun k hk => by cases hk⟩
  | some b => exact h.lt b (List.mem_of_find?_eq_some hb)
theorem bkK_all {ts : List Tx} {B : List Bk} (h : BkOk ts B) {k : Nat} {t : Tx} (hk : ts[k]? = some t) : k ∈ bkK B (fnvQ t) := by
  obtain ⟨b, hb, h1, h2⟩ := h.all k t hk
  unfold bkK
  rw [← h1, bk_of_mem h.nd hb]
  exact h2
theorem rd_sub {w : World} {g o n off len : Nat} {xs : List Value} (h : Rd w 1 (some ⟨g, o, none⟩) n xs) (hl : off + len ≤ n) : Rd w 1 (some ⟨g, o + off, none⟩) len ((xs.drop off).take len) := by
  obtain ⟨h1, h2, h3⟩ := h
  refine ⟨by rw [List.length_take, List.length_drop]; omega, fun h => absurd h (by simp), fun h0 => ?_⟩
  obtain ⟨g', o', he, hlt, hc⟩ := h3 (by omega)
  injection he with he
  injection he with he1 he2 _
  subst he1; subst he2
  refine ⟨g, o + off, rfl, hlt, fun j u hu => ?_⟩
  rw [List.getElem?_take] at hu
  split at hu
  · rw [List.getElem?_drop] at hu
    rw [Nat.add_assoc]
    exact hc _ _ hu
  · cases hu
theorem at_rd {w : World} {gt n o o' len m : Nat} {l : Tx} (h : Rd w 1 (some ⟨gt, 0, none⟩) n (bv l)) (ho' : (o : Int) < ((o + len : Nat) : Int) → o' = 0 + (o : Int).toNat * 1) (hol : o + len ≤ n) (hl : l.length = n) (hm : m = len) : Rd w 1 (some ⟨gt, o', none⟩) m (bv ((l.drop o).take len)) := by
  subst hm
  rcases Nat.eq_zero_or_pos m with h0 | h0
  · subst h0
    exact ⟨by simp [bv], fun h => absurd h (by simp), fun h => absurd h (by omega)⟩
  · have := ho' (by omega)
    simp only [Int.toNat_natCast, Nat.mul_one] at this
    subst this
    have := rd_sub h hol
    unfold bv
    rw [List.map_take, List.map_drop]
    exact this
theorem ctend_fn (o l : Nat) (ho : o ≤ 1000000000) (hl : l ≤ 1000000000) : Fn Try.prog 86 [ctV (o, l)] [] fun v _ => v = uq (o + l) := by
  refine Fn.enter (N := 9) Try.func86 rfl (by kernel_rfl) rfl (fun w0 => ?_)

  refine awp_seq_region (fun Z hZ => ?_)
  refine sx_box rfl rfl rfl (fun g1 => ?_)
  refine sx_assign rfl rfl ?_
  refine sx_nil (hZ _ _ ?_)
  refine awp_forget [(1, _)] (Kn.cons rfl (Kn.nil)) ?_

  refine awp_seq_region (fun Z hZ => ?_)
  refine sx_fieldAddr rfl tyF84_0 (by first | (simp only [Nat.reduceAdd, Nat.add_zero, Nat.zero_add]; first | done | rfl) | rfl) rfl ?_
  first | refine sx_load 0 rfl rfl tyA46 tyS46 rfl rfl ?_
  refine sx_fieldAddr rfl tyF84_1 (by first | (simp only [Nat.reduceAdd, Nat.add_zero, Nat.zero_add]; first | done | rfl) | rfl) rfl ?_
  first | refine sx_load 0 rfl rfl tyA61 tyS61 rfl rfl ?_
  refine sx_conv Try.underlying61 Try.underlying46 rfl ((l : Nat) : Int) (by rw [IntWalk.u64_in _ (by omega)]) rfl ?_
  refine sx_add rfl rfl ((o + l : Nat) : Int) (by rw [IntWalk.u64_in _ (by omega)]; omega) rfl ?_
  refine sx_assign rfl rfl ?_
  refine sx_nil (hZ _ _ ?_)
  refine awp_forget [(2, _)] (Kn.cons rfl (Kn.nil)) ?_
  refine awp_ret ?_
  repeat (with_reducible (first | refine nx_then_ret ?_ | refine nx_block_ret ?_ | refine nx_scope_ret ?_))
  exact nx_ret1 rfl rfl rfl
theorem at_fn (gp gt n c : Nat) (pv mv : Value) (l : Tx) (o len : Nat) (hlen : l.length = n) (hnc : n ≤ c) (hn : n ≤ 1000000000) (ho : o + len ≤ n) :
    Fn Try.prog 72 [ptr gp 0, ctV (o, len)] [.ro gp 0 [.slice (some ⟨gt, 0, none⟩) n c, pv, mv], .ro gt 0 (bv l)] fun v _ => v = .string (str ((l.drop o).take len)) := by
  refine Fn.enter (N := 15) Try.func72 rfl (by kernel_rfl) rfl (fun w0 => ?_)

  refine awp_seq_region (fun Z hZ => ?_)
  refine sx_box rfl rfl rfl (fun g1 => ?_)
  refine sx_assign rfl rfl ?_
  refine sx_nil (hZ _ _ ?_)
  refine awp_forget [(0, _), (3, _)] (Kn.cons rfl (Kn.cons rfl (Kn.nil))) ?_

  refine awq_seq_region mixed (by kernel_rfl) (fun Z hZ => ?_)
  refine sq_move rfl rfl ?_
  refine sq_nilCheck rfl rfl ?_
  refine sq_fieldAddr rfl tyF115_0 (by first | (simp only [Nat.reduceAdd, Nat.add_zero, Nat.zero_add]; first | done | rfl) | rfl) rfl ?_
  refine sq_loadRo 1 rfl rfl 0 rfl tyA111 tyS111 rfl rfl ?_
  refine sq_fieldAddr rfl tyF84_0 (by first | (simp only [Nat.reduceAdd, Nat.add_zero, Nat.zero_add]; first | done | rfl) | rfl) rfl ?_
  first | refine sq_load 0 rfl rfl tyA46 tyS46 rfl rfl ?_ | refine sq_load 1 rfl rfl tyA46 tyS46 rfl rfl ?_ | refine sq_load 2 rfl rfl tyA46 tyS46 rfl rfl ?_
  first | refine sq_loadA 0 rfl rfl tyA84 tyS84 (by first | (simp only [List.length_cons, List.length_nil, Nat.reduceAdd, Nat.zero_add, Nat.add_zero]; first | done | rfl) | rfl) (by first | (simp only [List.take_succ_cons, List.take_zero, List.drop_succ_cons, List.drop_zero, List.cons_append, List.nil_append, List.append_nil, List.length_cons, List.length_nil, Nat.reduceAdd, Nat.zero_add, Nat.add_zero, Value.cells, wrV]; first | done | rfl) | rfl) rfl ?_ | refine sq_loadA 1 rfl rfl tyA84 tyS84 (by first | (simp only [List.length_cons, List.length_nil, Nat.reduceAdd, Nat.zero_add, Nat.add_zero]; first | done | rfl) | rfl) (by first | (simp only [List.take_succ_cons, List.take_zero, List.drop_succ_cons, List.drop_zero, List.cons_append, List.nil_append, List.append_nil, List.length_cons, List.length_nil, Nat.reduceAdd, Nat.zero_add, Nat.add_zero, Value.cells, wrV]; first | done | rfl) | rfl) rfl ?_ | refine sq_loadA 2 rfl rfl tyA84 tyS84 (by first | (simp only [List.length_cons, List.length_nil, Nat.reduceAdd, Nat.zero_add, Nat.add_zero]; first | done | rfl) | rfl) (by first | (simp only [List.take_succ_cons, List.take_zero, List.drop_succ_cons, List.drop_zero, List.cons_append, List.nil_append, List.append_nil, List.length_cons, List.length_nil, Nat.reduceAdd, Nat.zero_add, Nat.add_zero, Value.cells, wrV]; first | done | rfl) | rfl) rfl ?_
  refine sq_callP (ctend_fn o len (by omega) (by omega)) rfl rfl ?_
  refine sq_slice (i := (o : Int)) (j := ((o + len : Nat) : Int)) Try.underlying111 tyS5 rfl rfl rfl (by omega) (by omega) (by omega) rfl (fun o' ho' => ?_)
  refine sq_strB (l := (l.drop o).take len) Try.underlying111 Try.underlying5 Try.underlying9 rfl (fun w hw => at_rd (rd_ro (i := 2) rfl (by rw [bv_length]; omega) hw) ho' ho hlen (by simp; omega)) rfl ?_
  refine sq_assign rfl rfl ?_
  refine sq_nil (hZ _ _ ?_)
  refine awp_forget [(4, _)] (Kn.cons rfl (Kn.nil)) ?_
  refine awp_ret ?_
  repeat (with_reducible (first | refine nx_then_ret ?_ | refine nx_block_ret ?_ | refine nx_scope_ret ?_))
  exact nx_ret1 rfl rfl rfl
end Go.Proofs.Ytffahimbmpddpaa.V
