/- The tiles that are missing in a rectangle: plain laws. The walks of extent's Holes and of the document's. Conditions: the chart is one. The walk of the document's Holes. Conditions: the chart is one; a small rectangle. The walks of extent's Above and of the document's. Conditions: the chart is one. What the laws of extent share: rows of tiles, what Holes tells, the small example. Conditions: the chart is one. -/
import Derived.Test.YtmebmkkllhnmlaaGxp1
import Derived.Test.YtmebmkkllhnmlaaGch2
import Derived.Test.YtmebmkkllhnmlaaPk1
import Derived.Test.YtmebmkkllhnmlaaGcu2
import Derived.Test.YtmebmkkllhnmlaaGmk2
namespace Go.Proofs.Ytmebmkkllhnmlaa
open Go.RowKit
set_option linter.unusedVariables false
set_option linter.unusedSimpArgs false
def rowH (H : Nat → Nat → Bool) (a y n : Nat) : List (Nat × Nat) := ((List.range n).map fun k => (a + k, y)).filter fun p => !H p.1 p.2
def rectH (H : Nat → Nat → Bool) (a b w n : Nat) : List (Nat × Nat) := (List.range n).flatMap fun k => rowH H a (b + k) w
section
variable (H : Nat → Nat → Bool) (a b w y : Nat)
theorem rowH_succ (n : Nat) : rowH H a y (n + 1) = rowH H a y n ++ if H (a + n) y then [] else [(a + n, y)] := by
  unfold rowH
  rw [List.range_succ, List.map_append, List.filter_append]
  congr 1
  cases h : H (a + n) y <;> simp [h]
theorem rectH_succ (n : Nat) : rectH H a b w (n + 1) = rectH H a b w n ++ rowH H a (b + n) w := by
  unfold rectH
  rw [List.range_succ, List.flatMap_append]
  simp
theorem rowH_len : ∀ n, (rowH H a y n).length ≤ n
  | 0 => Nat.le_refl _
  | n + 1 => by
    have := rowH_len n
    rw [rowH_succ, List.length_append]
    split <;> simp <;> omega
theorem rectH_len : ∀ n, (rectH H a b w n).length ≤ n * w
  | 0 => Nat.zero_le _
  | n + 1 => by
    have h1 := rectH_len n
    have h2 := rowH_len H a (b + n) w
    rw [rectH_succ, List.length_append, Nat.succ_mul]
    omega
theorem rowH_both : ∀ n, (rowH H a y n).length + (rowH (fun x y => !H x y) a y n).length = n
  | 0 => rfl
  | n + 1 => by
    have := rowH_both n
    rw [rowH_succ, rowH_succ, List.length_append, List.length_append]
    cases H (a + n) y <;> simp <;> omega
theorem rectH_both : ∀ n, (rectH H a b w n).length + (rectH (fun x y => !H x y) a b w n).length = n * w
  | 0 => by simp [rectH]
  | n + 1 => by
    have h1 := rectH_both n
    have h2 := rowH_both H a (b + n) w
    rw [rectH_succ, rectH_succ, List.length_append, List.length_append, Nat.succ_mul]
    omega
theorem mem_rowH (n : Nat) (p : Nat × Nat) : p ∈ rowH H a y n ↔ (a ≤ p.1 ∧ p.1 < a + n) ∧ p.2 = y ∧ H p.1 p.2 = false := by
  unfold rowH
  rw [List.mem_filter, List.mem_map]
  constructor
  · rintro ⟨⟨k, hk, rfl⟩, h⟩
    have := List.mem_range.1 hk
    exact ⟨⟨by show a ≤ a + k; omega, by show a + k < a + n; omega⟩, rfl, by simpa using h⟩
  · rintro ⟨⟨h1, h2⟩, rfl, h3⟩
    exact ⟨⟨p.1 - a, List.mem_range.2 (by omega), by ext <;> simp; omega⟩, by simp [h3]⟩
theorem mem_rectH (n : Nat) (p : Nat × Nat) : p ∈ rectH H a b w n ↔ (a ≤ p.1 ∧ p.1 < a + w) ∧ (b ≤ p.2 ∧ p.2 < b + n) ∧ H p.1 p.2 = false := by
  unfold rectH
  rw [List.mem_flatMap]
  constructor
  · rintro ⟨k, hk, hp⟩
    have := List.mem_range.1 hk
    obtain ⟨h1, h2, h3⟩ := (mem_rowH H a (b + k) w p).1 hp
    exact ⟨h1, ⟨by omega, by omega⟩, h3⟩
  · rintro ⟨h1, ⟨h2, h3⟩, h4⟩
    exact ⟨p.2 - b, List.mem_range.2 (by omega), (mem_rowH H a (b + (p.2 - b)) w p).2 ⟨h1, by omega, h4⟩⟩
theorem rowH_nodup (n : Nat) : (rowH H a y n).Nodup := by
  unfold rowH
  refine List.Pairwise.filter _ ?_
  refine List.pairwise_map.2 ((List.nodup_range (n := n)).imp fun {i j} h e => h ?_)
  have := congrArg Prod.fst e
  simp only at this
  omega
theorem rectH_nodup : ∀ n, (rectH H a b w n).Nodup
  | 0 => List.Pairwise.nil
  | n + 1 => by
    rw [rectH_succ]
    refine List.nodup_append.2 ⟨rectH_nodup n, rowH_nodup H a (b + n) w, fun p hp q hq e => ?_⟩
    have h1 := ((mem_rectH H a b w n p).1 hp).2.1
    have h2 := ((mem_rowH H a (b + n) w q).1 hq).2.1
    subst e
    omega
end
/-- Does a chart have a tile of this zoom? -/
def hasT (O : List It) (Z x y : Nat) : Bool := cHas (base4 Z + hp Z x y) O
def inRc (r : Rc) (e : It) : Bool := hasQ r (tz e : Nat) (tx e : Nat) (ty e : Nat)
/-- How many of a chart's tiles a rectangle has. -/
def cntR (r : Rc) (O : List It) : Nat := (O.filter (inRc r)).length
theorem inRc_ok {r : Rc} {Z a b c d : Nat} (hr : r.Ok Z a b c d) (e : It) : inRc r e = true ↔ tz e = Z ∧ (a ≤ tx e ∧ tx e ≤ c) ∧ b ≤ ty e ∧ ty e ≤ d := by
  have hc := hr.chk
  obtain ⟨rfl, _, _, _, _, _⟩ := hr
  unfold inRc hasQ
  rw [decide_eq_true_iff]
  simp only [hc, true_and]
  omega
theorem cnt_rect {r : Rc} {Z a b c d : Nat} (hr : r.Ok Z a b c d) {O : List It} (hok : ChOk O) : (rectH (fun x y => !hasT O Z x y) a b (c + 1 - a) (d + 1 - b)).length = cntR r O := by
  have hx := hr.x
  have hy := hr.y
  have hxl := hr.xl
  have hyl := hr.yl
  have hp : (rectH (fun x y => !hasT O Z x y) a b (c + 1 - a) (d + 1 - b)).Perm ((O.filter (inRc r)).map fun e => (tx e, ty e)) := by
    refine (List.perm_ext_iff_of_nodup (rectH_nodup _ _ _ _ _) ?_).2 fun p => ?_
    · refine List.pairwise_map.2 (((hok.rise.sublist List.filter_sublist).imp_of_mem fun {e f} he hf hlt hef => ?_))
      obtain ⟨h1, h2⟩ := List.mem_filter.1 he
      obtain ⟨h3, h4⟩ := List.mem_filter.1 hf
      have t1 := tile_ok (hok.lt e h1)
      have t2 := tile_ok (hok.lt f h3)
      have z1 := ((inRc_ok hr e).1 h2).1
      have z2 := ((inRc_ok hr f).1 h4).1
      have e1 : tx e = tx f := congrArg Prod.fst hef
      have e2 : ty e = ty f := congrArg Prod.snd hef
      have i1 := t1.id
      have i2 := t2.id
      rw [z1, e1, e2] at i1
      rw [z2] at i2
      omega
    · rw [mem_rectH, List.mem_map]
      have hh : (!hasT O Z p.1 p.2) = false ↔ base4 Z + hp Z p.1 p.2 ∈ idsI O := by
        unfold hasT
        rw [Bool.not_eq_false', has_mem hok.rise]
      rw [hh]
      unfold idsI
      rw [List.mem_map]
      constructor
      · rintro ⟨⟨h1, h2⟩, ⟨h3, h4⟩, e, he, hid⟩
        have t1 := tile_ok (hok.lt e he)
        have hl := hp_lt Z p.1 p.2 (by omega) (by omega)
        have hz : tz e = Z := by unfold tz; rw [hid]; exact zN_is hr.zo hl
        have i1 := t1.id
        rw [hz] at i1
        obtain ⟨q1, q2⟩ := hp_inj (z := Z) (by have := t1.x; rw [hz] at this; exact this) (by have := t1.y; rw [hz] at this; exact this) (show p.1 < 2 ^ Z by omega) (show p.2 < 2 ^ Z by omega) (show hp Z (tx e) (ty e) = hp Z p.1 p.2 by omega)
        exact ⟨e, List.mem_filter.2 ⟨he, (inRc_ok hr e).2 ⟨hz, by omega, by omega⟩⟩, by ext <;> assumption⟩
      · rintro ⟨e, he, rfl⟩
        obtain ⟨h1, h2⟩ := List.mem_filter.1 he
        obtain ⟨z1, z2, z3⟩ := (inRc_ok hr e).1 h2
        have t1 := (tile_ok (hok.lt e h1)).id
        rw [z1] at t1
        exact ⟨⟨z2.1, by show tx e < _; omega⟩, ⟨z3.1, by show ty e < _; omega⟩, e, h1, t1.symm⟩
  rw [hp.length_eq, List.length_map]
  rfl
/-- The tiles that are missing. -/
def holesQ (O : List It) (Z a b c d : Nat) : List (Nat × Nat) := rectH (hasT O Z) a b (c + 1 - a) (d + 1 - b)
theorem holes_len {r : Rc} {Z a b c d : Nat} (hr : r.Ok Z a b c d) {O : List It} (hok : ChOk O) : (holesQ O Z a b c d).length + cntR r O = (c + 1 - a) * (d + 1 - b) := by
  rw [← cnt_rect hr hok, Nat.mul_comm]
  exact rectH_both (hasT O Z) a b (c + 1 - a) (d + 1 - b)
/-- The program's map of the tiles that are there. -/
abbrev TK := Int × Int × Int
def keyT (e : It) : TK := ((tz e : Nat), (tx e : Nat), (ty e : Nat))
structure HoM (r : Rc) (L : List It) (M : List (TK × Nat)) : Prop where
  yes : ∀ e ∈ L, inRc r e = true → aget M (keyT e) = some 1
  no : ∀ k, (∀ e ∈ L, inRc r e = true → keyT e ≠ k) → aget M k = none
  len : M.length = cntR r L
theorem HoM.nil (r : Rc) : HoM r [] [] := ⟨fun e h => (by cases h), fun _ _ => rfl, rfl⟩
theorem HoM.skip {r : Rc} {L : List It} {M : List (TK × Nat)} (h : HoM r L M) {e : It} (he : inRc r e = false) : HoM r (L ++ [e]) M := by
  refine ⟨fun f hf hi => ?_, fun k hk => h.no k fun f hf => hk f (List.mem_append_left _ hf), ?_⟩
  · rcases List.mem_append.1 hf with hf | hf
    · exact h.yes f hf hi
    · rw [List.mem_singleton.1 hf, he] at hi
      cases hi
  · rw [h.len]
    unfold cntR
    rw [List.filter_append, List.filter_cons_of_neg (by rw [he]; decide)]
    simp
theorem HoM.put {r : Rc} {L : List It} {M : List (TK × Nat)} (h : HoM r L M) {e : It} (he : inRc r e = true) (hn : ∀ f ∈ L, keyT f ≠ keyT e) : aget M (keyT e) = none ∧ HoM r (L ++ [e]) (aput M (keyT e) 1) := by
  have h0 : aget M (keyT e) = none := h.no _ fun f hf _ => hn f hf
  refine ⟨h0, fun f hf hi => ?_, fun k hk => ?_, ?_⟩
  · rw [aget_put]
    rcases List.mem_append.1 hf with hf | hf
    · rw [if_neg (fun e1 => hn f hf e1.symm)]
      exact h.yes f hf hi
    · rw [List.mem_singleton.1 hf, if_pos rfl]
  · rw [aget_put, if_neg (hk e (by simp) he)]
    exact h.no k fun f hf => hk f (List.mem_append_left _ hf)
  · have e1 : aput M (keyT e) 1 = M ++ [(keyT e, 1)] := by
      rcases at_key M (keyT e) with ⟨_, _, h2, _⟩ | ⟨M1, x, M2, _, _, h2, _⟩
      · exact h2 1
      · rw [h2] at h0
        cases h0
    rw [e1, List.length_append, h.len]
    unfold cntR
    rw [List.filter_append, List.filter_cons_of_pos he]
    simp
theorem key_apart {O : List It} (hok : ChOk O) {k : Nat} {e : It} (h : O[k]? = some e) : ∀ f ∈ O.take k, keyT f ≠ keyT e := fun f hf hk => by
  obtain ⟨hlt, rfl⟩ := List.getElem?_eq_some_iff.1 h
  obtain ⟨i, hi, rfl⟩ := List.mem_iff_getElem.1 hf
  rw [List.length_take] at hi
  rw [List.getElem_take] at hk
  have h1 := List.pairwise_iff_getElem.1 hok.rise i k (by omega) hlt (by omega)
  have t1 := (tile_ok (hok.lt (O[i]'(by omega)) (List.getElem_mem _))).id
  have t2 := (tile_ok (hok.lt O[k] (List.getElem_mem _))).id
  simp only [keyT, Prod.mk.injEq] at hk
  obtain ⟨k1, k2, k3⟩ := hk
  have k1' : tz (O[i]'(by omega)) = tz O[k] := by omega
  have k2' : tx (O[i]'(by omega)) = tx O[k] := by omega
  have k3' : ty (O[i]'(by omega)) = ty O[k] := by omega
  rw [k1', k2', k3'] at t1
  omega
/-- What the map tells of a tile of the rectangle. -/
theorem HoM.at_ {r : Rc} {Z a b c d x y : Nat} (hr : r.Ok Z a b c d) {O : List It} (hok : ChOk O) {M : List (TK × Nat)} (h : HoM r O M) (hx : a ≤ x ∧ x ≤ c) (hy : b ≤ y ∧ y ≤ d) : aget M ((Z : Nat), (x : Nat), (y : Nat)) = if hasT O Z x y then some 1 else none := by
  have hxl := hr.xl
  have hyl := hr.yl
  have hl := hp_lt Z x y (by omega) (by omega)
  have hh : hasT O Z x y = true ↔ base4 Z + hp Z x y ∈ idsI O := by
    unfold hasT
    rw [has_mem hok.rise]
  by_cases hc : hasT O Z x y = true
  · rw [if_pos hc]
    obtain ⟨e, he, hid⟩ := List.mem_map.1 (hh.1 hc)
    have t1 := tile_ok (hok.lt e he)
    have hz : tz e = Z := by unfold tz; rw [hid]; exact zN_is hr.zo hl
    have i1 := t1.id
    rw [hz] at i1
    obtain ⟨q1, q2⟩ := hp_inj (z := Z) (by have := t1.x; rw [hz] at this; exact this) (by have := t1.y; rw [hz] at this; exact this) (show x < 2 ^ Z by omega) (show y < 2 ^ Z by omega) (show hp Z (tx e) (ty e) = hp Z x y by omega)
    have := h.yes e he ((inRc_ok hr e).2 ⟨hz, by omega, by omega⟩)
    unfold keyT at this
    rw [hz, q1, q2] at this
    exact this
  · rw [if_neg hc]
    refine h.no _ fun e he _ hk => hc (hh.2 (List.mem_map.2 ⟨e, he, ?_⟩))
    have t1 := (tile_ok (hok.lt e he)).id
    simp only [keyT, Prod.mk.injEq] at hk
    obtain ⟨k1, k2, k3⟩ := hk
    have k1' : tz e = Z := by omega
    have k2' : tx e = x := by omega
    have k3' : ty e = y := by omega
    rw [k1', k2', k3'] at t1
    exact t1.symm
end Go.Proofs.Ytmebmkkllhnmlaa

namespace Go.Proofs.Ytmebmkkllhnmlaa
open Go.RowKit
set_option linter.unusedVariables false
set_option linter.unusedSimpArgs false
set_option maxRecDepth 100000
section
variable {P : Program} {N : Frm} {w0 w : World} {Wr : List Nat} {ops : Array Oper} {rest : List Oper} {fr : Fr} {H : Heap} {Z : Fr → Heap → Prop} {d ty : Nat} {pos : String} {after : Array Edge} {κ ν : Type} [DecidableEq κ] {encK : κ → Value} {encV : ν → Value} {T K E : TypeId}
theorem sq_lenS2 (i : Nat) (hT : P.underlying T = some (.map K E)) {x : Operand} {b : Nat} {M : List (κ × ν)} (hx : ev fr x = some (.map (some b))) (hH : H[i]? = some (mapS encK encV b M)) (hN : Nat.ble (d + 1) N.n = true)
    (h : sq P N w0 Wr ops rest ((d, .int .i64 (M.length : Nat)) :: fr) H Z) : sq P N w0 Wr ops (⟨some d, .call { callee := .builtin .len, args := #[x], argTypes := #[T] }, ty, pos, after, none⟩ :: rest) fr H Z :=
  sq_val _ hN (fun a w ha hw => by
    have := run_len_map (ty := ty) hT (mapS_is (hw.mem hH))
    have he := ha.eval hx
    simp [execOp, resolve, invoke, builtin, he, Sem.run_bind, this]) h
end
abbrev tkV (k : TK) : Value := tval k.1 k.2.1 k.2.2
theorem keyTile : KeyOk Try.prog 39 (fun k : TK => tkV k) where
  eq a b w := by
    obtain ⟨a1, a2, a3⟩ := a
    obtain ⟨b1, b2, b3⟩ := b
    simp [go_sem, Op.equal, Op.maxDepth]
    by_cases h1 : a1 = b1 <;> by_cases h2 : a2 = b2 <;> by_cases h3 : a3 = b3 <;> simp [h1, h2, h3]
  chk e a w := by
    have hi : ∀ (x : Int) (n : Nat), (Instr.checkKey e (n + 1) 3 (.int .i64 x)).run Try.prog w = .ok () w := fun x n => by
      rw [Instr.checkKey]
      simp [run_underlying Try.underlying3]
    rw [show (10000 : Nat) = 9998 + 1 + 1 from rfl, Instr.checkKey]
    simp [go_sem, run_underlying Try.underlying39, hi]
  und := ⟨_, Try.underlying39, .inl fun a b => by simp [Instr.sameNow]⟩
  same a := by simp [Instr.sameBits]
abbrev thereE (gm : Nat) (M : List (TK × Nat)) : Ent := mapS (fun k : TK => tkV k) (fun n : Nat => iq (n : Nat)) gm M
/-- What the closure of Holes has. -/
def HoH (gr g9 gm : Nat) (r : Rc) (M : List (TK × Nat)) : Heap := [.own g9 101 [.map (some gm)], thereE gm M, .own gr 33 r.cells]
theorem hoh_wrs (gr g9 gm : Nat) (r : Rc) (M : List (TK × Nat)) : Wrs (HoH gr g9 gm r M) := .cons rfl (.cons rfl (.cons rfl .nil))
theorem hcb_fn (gr g9 gm : Nat) (r : Rc) {O : List It} (hok : ChOk O) {k : Nat} {e : It} (h : O[k]? = some e) {M : List (TK × Nat)} (hM : HoM r (O.take k) M) :
    Fn Try.prog 47 ([tval (tz e : Nat) (tx e : Nat) (ty e : Nat)] ++ [ptr gr 0, ptr g9 0]) (HoH gr g9 gm r M) fun _ H' => ∃ M', HoM r (O.take (k + 1)) M' ∧ H' = HoH gr g9 gm r M' := by
  have htk : O.take (k + 1) = O.take k ++ [e] := by
    obtain ⟨hlt, rfl⟩ := List.getElem?_eq_some_iff.1 h
    exact List.take_succ_eq_append_getElem hlt
  have hhas := cHas_fn r (tz e : Nat) (tx e : Nat) (ty e : Nat)
  rw [show [tval (tz e : Nat) (tx e : Nat) (ty e : Nat)] ++ [ptr gr 0, ptr g9 0] = [tval (tz e : Nat) (tx e : Nat) (ty e : Nat), ptr gr 0, ptr g9 0] from rfl, htk]
  rw [show hasQ r (tz e : Nat) (tx e : Nat) (ty e : Nat) = inRc r e from rfl] at hhas
  unfold HoH
  refine Fn.enter (N := 13) Try.func47 rfl (by kernel_rfl) rfl (fun w0 => ?_)

  refine awp_seq_region (fun Z hZ => ?_)
  refine sx_box rfl rfl rfl (fun g1 => ?_)
  refine sx_nil (hZ _ _ ?_)
  refine awp_forget [(1, _), (2, _), (3, _)] (Kn.cons rfl (Kn.cons rfl (Kn.cons rfl (Kn.nil)))) ?_

  refine awp_seq_region (fun Z hZ => ?_)
  refine sx_loadA 3 rfl rfl tyA33 tyS33 (by first | (simp only [List.length_cons, List.length_nil, Nat.reduceAdd, Nat.zero_add, Nat.add_zero]; first | done | rfl) | rfl) (by first | (simp only [List.take_succ_cons, List.take_zero, List.drop_succ_cons, List.drop_zero, List.cons_append, List.nil_append, List.append_nil, List.length_cons, List.length_nil, Nat.reduceAdd, Nat.zero_add, Nat.add_zero, Value.cells, wrV]; first | done | rfl) | rfl) rfl ?_
  refine sx_loadA 0 rfl rfl tyA39 tyS39 (by first | (simp only [List.length_cons, List.length_nil, Nat.reduceAdd, Nat.zero_add, Nat.add_zero]; first | done | rfl) | rfl) (by first | (simp only [List.take_succ_cons, List.take_zero, List.drop_succ_cons, List.drop_zero, List.cons_append, List.nil_append, List.append_nil, List.length_cons, List.length_nil, Nat.reduceAdd, Nat.zero_add, Nat.add_zero, Value.cells, wrV]; first | done | rfl) | rfl) rfl ?_
  refine sx_callP (hhas) rfl rfl ?_
  refine sx_nil (hZ _ _ ?_)
  refine awp_forget [(2, _), (3, _), (6, _)] (Kn.cons rfl (Kn.cons rfl (Kn.cons rfl (Kn.nil)))) ?_
  refine awp_cond rfl (fun h1 => ?_) (fun h1 => ?_)
  · obtain ⟨h0, hP⟩ := hM.put h1 (key_apart hok h)
    have hget : ((aget M (keyT e)).map fun n : Nat => iq (n : Nat)).getD (iq (0 : Nat)) = iq (0 : Nat) := by rw [h0]; rfl
    refine awr_region (fun _ : Unit => []) (fun _ => HoH gr g9 gm r (aput M (keyT e) 1)) (fun _ => True) _ [2, 4, 6] (Tr.step (0, true) (Tr.step (1, true) (Tr.fork (Tr.step (2, false) (Tr.step (3, true) (Tr.step (4, false) (Tr.step (5, true) (Tr.step (6, false) Tr.nil))))) (Tr.step (4, false) (Tr.step (5, true) (Tr.step (2, false) (Tr.step (3, true) (Tr.step (6, false) Tr.nil)))))))) mixed (by kernel_rfl) (HLe.pick [0, 1] (by simp) (by simp only [pick, List.filterMap_cons, List.filterMap_nil, List.getElem?_cons_succ, List.getElem?_cons_zero]; rfl)) ?_ ?_
    · refine tt_p rfl ?_
      refine sv_load 1 rfl rfl tyA101 tyS101 rfl rfl ?_
      refine sv_nil ?_
      refine tt_p rfl ?_
      refine sv_loadA 0 rfl rfl tyA39 tyS39 (by first | (simp only [List.length_cons, List.length_nil, Nat.reduceAdd, Nat.zero_add, Nat.add_zero]; first | done | rfl) | rfl) (by first | (simp only [List.take_succ_cons, List.take_zero, List.drop_succ_cons, List.drop_zero, List.cons_append, List.nil_append, List.append_nil, List.length_cons, List.length_nil, Nat.reduceAdd, Nat.zero_add, Nat.add_zero, Value.cells, wrV]; first | done | rfl) | rfl) rfl ?_
      refine sv_nil ?_
      refine tt_fork ?_ ?_
      · refine tt_g rfl ?_
        refine sx_lookupS 2 keyTile Try.underlying101 zeroI (keyT e) (iq (0 : Nat)) rfl rfl rfl hget rfl ?_
        refine sx_nil ⟨HLe.pick [0, 1] (by simp) rfl, ?_⟩
        refine tt_p rfl ?_
        refine sv_add rfl rfl ((1 : Nat) : Int) (by rw [IntWalk.i64_in _ (by omega)]; omega) rfl ?_
        refine sv_nil ?_
        refine tt_g rfl ?_
        refine sx_mapEntry 2 keyTile Try.underlying101 zeroI (zv := 0) rfl (keyT e) rfl rfl rfl rfl (fun M1 u1 M2 st hk1 hu1 hap => ?_)
        refine sx_nil ⟨HLe.pick [0, 1] (by simp) rfl, ?_⟩
        refine tt_p rfl ?_
        refine sv_extract rfl rfl rfl ?_
        refine sv_nil ?_
        refine tt_g rfl ?_
        refine sx_entryStore (v := 1) 2 rfl rfl rfl rfl rfl ?_
        refine sx_nil ⟨HLe.pick [0, 1] (by simp) rfl, ?_⟩
        refine tt_nil ?_
        rw [hap]
        exact ⟨(), trivial, Kn.nil, HLe.drop 1 rfl⟩
      · refine tt_g rfl ?_
        refine sx_mapEntry 2 keyTile Try.underlying101 zeroI (zv := 0) rfl (keyT e) rfl rfl rfl rfl (fun M1 u1 M2 st hk1 hu1 hap => ?_)
        refine sx_nil ⟨HLe.pick [0, 1] (by simp) rfl, ?_⟩
        refine tt_p rfl ?_
        refine sv_extract rfl rfl rfl ?_
        refine sv_nil ?_
        refine tt_g rfl ?_
        refine sx_lookupR 2 keyTile Try.underlying101 zeroI (keyT e) (iq (0 : Nat)) rfl rfl rfl hk1 (hu1.trans hget) rfl ?_
        refine sx_nil ⟨HLe.pick [0, 1] (by simp) rfl, ?_⟩
        refine tt_p rfl ?_
        refine sv_add rfl rfl ((1 : Nat) : Int) (by rw [IntWalk.i64_in _ (by omega)]; omega) rfl ?_
        refine sv_nil ?_
        refine tt_g rfl ?_
        refine sx_entryStore (v := 1) 2 rfl rfl rfl rfl rfl ?_
        refine sx_nil ⟨HLe.pick [0, 1] (by simp) rfl, ?_⟩
        refine tt_nil ?_
        rw [hap]
        exact ⟨(), trivial, Kn.nil, HLe.drop 1 rfl⟩
    rintro ⟨⟩ -
    exact nx_end0h _ rfl (HLe.refl _) ⟨_, hP, rfl⟩
  · refine awp_skip ?_
    exact nx_end0h _ rfl (HLe.drop 1 rfl) ⟨M, hM.skip h1, rfl⟩
theorem xholes_arg (A : Option Addr) (n c : Nat) (r : Rc) (most : Int) (T : Heap) (hm : most < 1 ∨ 4096 < most) : Fn Try.prog 22 [chV A n c, r.val, iq most] T fun v _ => v = .tuple #[.slice none 0 0, iq (2 : Int)] := by
  refine Fn.enter (N := 66) Try.func22 rfl (by kernel_rfl) rfl (fun w0 => ?_)

  refine awp_seq_region (fun Z hZ => ?_)
  refine sx_box rfl rfl rfl (fun g1 => ?_)
  refine sx_box rfl rfl rfl (fun g2 => ?_)
  refine sx_assign rfl rfl ?_
  refine sx_assign rfl rfl ?_
  refine sx_nil (hZ _ _ ?_)
  refine awp_forget [(2, _), (3, _), (4, _)] (Kn.cons rfl (Kn.cons rfl (Kn.cons rfl (Kn.nil)))) ?_

  refine awp_seq ?_
  refine awp_seq_meet [(19, .bool true)] [] (fun Z hZ => ?_) ?_
  · refine sx_move rfl rfl ?_
    refine sx_lss rfl rfl rfl ?_
    refine sx_move rfl rfl ?_
    refine sx_split 16 rfl (fun hb2 => ?_) (fun hb2 => ?_)
    · refine sx_off rfl rfl rfl rfl rfl ?_
      refine sx_off rfl rfl rfl rfl rfl ?_
      refine sx_pick rfl rfl rfl ?_
      refine sx_nil (hZ _ _ ?_ ?_)
      · exact Kn.cons (congrArg some (congrArg Value.bool (by first | rfl | (exfalso; simp at *; omega) | (simp at *; done) | (simp at *; omega)))) Kn.nil
      · exact HLe.sub (List.nil_sublist _)
    · refine sx_on rfl rfl rfl ?_
      refine sx_move rfl rfl ?_
      refine sx_on rfl rfl rfl ?_
      refine sx_gtr rfl rfl rfl ?_
      refine sx_pick rfl rfl rfl ?_
      refine sx_nil (hZ _ _ ?_ ?_)
      · exact Kn.cons (congrArg some (congrArg Value.bool (by first | rfl | (exfalso; simp at *; omega) | (simp at *; done) | (simp at *; omega)))) Kn.nil
      · exact HLe.sub (List.nil_sublist _)
  refine awp_cond rfl (fun h => ?_) (fun h => ?_)
  · refine awp_seq_region (fun Z hZ => ?_)
    refine sx_assign rfl rfl ?_
    refine sx_assign rfl rfl ?_
    refine sx_nil (hZ _ _ ?_)
    refine awp_forget [(6, _), (7, _)] (Kn.cons rfl (Kn.cons rfl (Kn.nil))) ?_
    refine awp_ret ?_
    repeat (with_reducible refine nx_then_ret ?_)
    exact nx_ret2 rfl rfl rfl rfl
  cases h
theorem xholes_chk (A : Option Addr) (n c : Nat) (r : Rc) (most : Int) (T : Heap) (h1 : 1 ≤ most) (h2 : most ≤ 4096) (hc : chkE r ≠ 0) : Fn Try.prog 22 [chV A n c, r.val, iq most] T fun v _ => v = .tuple #[.slice none 0 0, iq (chkE r)] := by
  have hck := cCheck_fn r
  obtain ⟨e, he⟩ : ∃ e, chkE r = e := ⟨_, rfl⟩
  rw [he] at hck hc ⊢
  refine Fn.enter (N := 66) Try.func22 rfl (by kernel_rfl) rfl (fun w0 => ?_)

  refine awp_seq_region (fun Z hZ => ?_)
  refine sx_box rfl rfl rfl (fun g1 => ?_)
  refine sx_box rfl rfl rfl (fun g2 => ?_)
  refine sx_assign rfl rfl ?_
  refine sx_assign rfl rfl ?_
  refine sx_nil (hZ _ _ ?_)
  refine awp_forget [(2, _), (3, _), (4, _)] (Kn.cons rfl (Kn.cons rfl (Kn.cons rfl (Kn.nil)))) ?_

  refine awp_seq ?_
  refine awp_seq_meet [(2, iq most), (3, ptr g1 0), (4, ptr g2 0), (19, .bool false)] [.own g2 33 r.cells] (fun Z hZ => ?_) ?_
  · refine sx_move rfl rfl ?_
    refine sx_lss rfl rfl rfl ?_
    refine sx_move rfl rfl ?_
    refine sx_split 16 rfl (fun hb2 => ?_) (fun hb2 => ?_)
    · refine sx_off rfl rfl rfl rfl rfl ?_
      refine sx_off rfl rfl rfl rfl rfl ?_
      refine sx_pick rfl rfl rfl ?_
      refine sx_nil (hZ _ _ ?_ ?_)
      · exact Kn.cons rfl (Kn.cons rfl (Kn.cons rfl (Kn.cons (congrArg some (congrArg Value.bool (by first | rfl | (exfalso; simp at *; omega) | (simp at *; done) | (simp at *; omega)))) Kn.nil)))
      · exact HLe.sub (.cons_cons _ (List.nil_sublist _))
    · refine sx_on rfl rfl rfl ?_
      refine sx_move rfl rfl ?_
      refine sx_on rfl rfl rfl ?_
      refine sx_gtr rfl rfl rfl ?_
      refine sx_pick rfl rfl rfl ?_
      refine sx_nil (hZ _ _ ?_ ?_)
      · exact Kn.cons rfl (Kn.cons rfl (Kn.cons rfl (Kn.cons (congrArg some (congrArg Value.bool (by first | rfl | (exfalso; simp at *; omega) | (simp at *; done) | (simp at *; omega)))) Kn.nil)))
      · exact HLe.sub (.cons_cons _ (List.nil_sublist _))
  refine awp_cond rfl (fun h => ?_) (fun h => ?_)
  · cases h
  refine awp_skip ?_
  with_reducible refine nx_normal ?_

  refine awp_seq ?_
  refine awp_seq_region (fun Z hZ => ?_)
  first | refine sx_loadA 0 rfl rfl tyA33 tyS33 (by first | (simp only [List.length_cons, List.length_nil, Nat.reduceAdd, Nat.zero_add, Nat.add_zero]; first | done | rfl) | rfl) (by first | (simp only [List.take_succ_cons, List.take_zero, List.drop_succ_cons, List.drop_zero, List.cons_append, List.nil_append, List.append_nil, List.length_cons, List.length_nil, Nat.reduceAdd, Nat.zero_add, Nat.add_zero, Value.cells, wrV]; first | done | rfl) | rfl) rfl ?_
  refine sx_callP (hck) rfl rfl ?_
  refine sx_assign rfl rfl ?_
  refine sx_nil (hZ _ _ ?_)
  refine awp_forget [(2, _), (3, _), (4, _), (8, _)] (Kn.cons rfl (Kn.cons rfl (Kn.cons rfl (Kn.cons rfl (Kn.nil))))) ?_
  refine awp_seq_region (fun Z hZ => ?_)
  refine sx_move rfl rfl ?_
  refine sx_neq rfl rfl rfl ?_
  refine sx_nil (hZ _ _ ?_)
  refine awp_forget [(2, _), (3, _), (4, _), (8, _), (23, _)] (Kn.cons rfl (Kn.cons rfl (Kn.cons rfl (Kn.cons rfl (Kn.cons rfl (Kn.nil)))))) ?_
  refine awp_cond rfl (fun h4 => ?_) (fun h4 => ?_)
  · refine awp_seq_region (fun Z hZ => ?_)
    refine sx_move rfl rfl ?_
    refine sx_assign rfl rfl ?_
    refine sx_assign rfl rfl ?_
    refine sx_nil (hZ _ _ ?_)
    refine awp_forget [(6, _), (7, _)] (Kn.cons rfl (Kn.cons rfl (Kn.nil))) ?_
    refine awp_ret ?_
    repeat (with_reducible refine nx_then_ret ?_)
    exact nx_ret2 rfl rfl rfl rfl
  exact absurd (by simpa using h4) hc
theorem look_hole {r : Rc} {Z a b c d x y : Nat} (hr : r.Ok Z a b c d) {O : List It} (hok : ChOk O) {M : List (TK × Nat)} (h : HoM r O M) (hx : a ≤ x ∧ x ≤ c) (hy : b ≤ y ∧ y ≤ d) {q : Bool} (hq : hasT O Z x y = q) :
    ((aget M ((Z : Nat), (x : Nat), (y : Nat))).map fun n : Nat => iq (n : Nat)).getD (iq (0 : Nat)) = iq ((if q then 1 else 0 : Nat) : Nat) := by
  rw [h.at_ hr hok hx hy, hq]
  cases q <;> rfl
theorem xholes_fn (A : Option Addr) (c0 : Nat) (O : List It) (hA : SlIn A O.length c0) (hok : ChOk O) {r : Rc} {Zm A0 B C D : Nat} (hr : r.Ok Zm A0 B C D) (most : Nat) (h1 : 1 ≤ most) (h2 : most ≤ 4096) :
    Fn Try.prog 22 [chV A O.length c0, r.val, iq (most : Nat)] (roE A (icells O)) fun v H' => ((holesQ O Zm A0 B C D).length ≤ most ∧ ∃ u, v = .tuple #[u, iq (0 : Int)] ∧ RowOk u (holesQ O Zm A0 B C D).length ∧ H' = rowE u 39 3 (tlc Zm (holesQ O Zm A0 B C D))) ∨ (most < (holesQ O Zm A0 B C D).length ∧ v = .tuple #[.slice none 0 0, iq (21 : Int)] ∧ H' = []) := by
  have hck := cCheck_fn r
  rw [hr.chk] at hck
  have hsz := cSize_fn r
  rw [hr.size] at hsz
  have hlen := hok.len
  have hho := holes_len hr hok
  have hcnt : cntR r O ≤ O.length := List.length_filter_le _ _
  have hZm := hr.zo
  have hx := hr.x
  have hy := hr.y
  have hxl := hr.xl
  have hyl := hr.yl
  have h26 := pow2_le26 hZm
  have hsl := hr.sizeLe
  obtain rfl := hr.is_
  obtain ⟨W, hW⟩ : ∃ W, C + 1 - A0 = W := ⟨_, rfl⟩
  obtain ⟨Mh, hMh⟩ : ∃ M, D + 1 - B = M := ⟨_, rfl⟩
  rw [hW, hMh] at hho hsz hsl
  have hKe : holesQ O Zm A0 B C D = rectH (hasT O Zm) A0 B W Mh := by unfold holesQ; rw [hW, hMh]
  rw [hKe] at hho ⊢
  obtain ⟨K, hK⟩ : ∃ K, rectH (hasT O Zm) A0 B W Mh = K := ⟨_, rfl⟩
  rw [hK] at hho ⊢
  refine Fn.enter (N := 66) Try.func22 rfl (by kernel_rfl) rfl (fun w0 => ?_)

  refine awp_seq_region (fun Z hZ => ?_)
  refine sx_box rfl rfl rfl (fun g1 => ?_)
  refine sx_box rfl rfl rfl (fun g2 => ?_)
  refine sx_assign rfl rfl ?_
  refine sx_assign rfl rfl ?_
  refine sx_nil (hZ _ _ ?_)
  refine awp_forget [(2, _), (3, _), (4, _)] (Kn.cons rfl (Kn.cons rfl (Kn.cons rfl (Kn.nil)))) ?_

  refine awp_seq ?_
  refine awp_seq_meet [(2, iq (most : Nat)), (3, ptr g1 0), (4, ptr g2 0), (19, .bool false)] (.own g2 33 (Rc.mk (Zm : Nat) A0 B C D).cells :: .own g1 29 [.slice A O.length c0] :: roE A (icells O)) (fun Z hZ => ?_) ?_
  · refine sx_move rfl rfl ?_
    refine sx_lss rfl rfl rfl ?_
    refine sx_move rfl rfl ?_
    refine sx_split 16 rfl (fun hb2 => ?_) (fun hb2 => ?_)
    · refine sx_off rfl rfl rfl rfl rfl ?_
      refine sx_off rfl rfl rfl rfl rfl ?_
      refine sx_pick rfl rfl rfl ?_
      refine sx_nil (hZ _ _ ?_ ?_)
      · exact Kn.cons rfl (Kn.cons rfl (Kn.cons rfl (Kn.cons (congrArg some (congrArg Value.bool (by first | rfl | (exfalso; simp at *; omega) | (simp at *; done) | (simp at *; omega)))) Kn.nil)))
      · exact HLe.refl _
    · refine sx_on rfl rfl rfl ?_
      refine sx_move rfl rfl ?_
      refine sx_on rfl rfl rfl ?_
      refine sx_gtr rfl rfl rfl ?_
      refine sx_pick rfl rfl rfl ?_
      refine sx_nil (hZ _ _ ?_ ?_)
      · exact Kn.cons rfl (Kn.cons rfl (Kn.cons rfl (Kn.cons (congrArg some (congrArg Value.bool (by first | rfl | (exfalso; simp at *; omega) | (simp at *; done) | (simp at *; omega)))) Kn.nil)))
      · exact HLe.refl _
  refine awp_cond rfl (fun h => ?_) (fun h => ?_)
  · cases h
  refine awp_skip ?_
  with_reducible refine nx_normal ?_
  refine awp_seq ?_
  refine awp_seq_region (fun Z hZ => ?_)
  refine sx_loadA 0 rfl rfl tyA33 tyS33 (by first | (simp only [List.length_cons, List.length_nil, Nat.reduceAdd, Nat.zero_add, Nat.add_zero]; first | done | rfl) | rfl) (by first | (simp only [List.take_succ_cons, List.take_zero, List.drop_succ_cons, List.drop_zero, List.cons_append, List.nil_append, List.append_nil, List.length_cons, List.length_nil, Nat.reduceAdd, Nat.zero_add, Nat.add_zero, Value.cells, wrV]; first | done | rfl) | rfl) rfl ?_
  refine sx_callP (hck) rfl rfl ?_
  refine sx_assign rfl rfl ?_
  refine sx_nil (hZ _ _ ?_)
  refine awp_forget [(2, _), (3, _), (4, _), (8, _)] (Kn.cons rfl (Kn.cons rfl (Kn.cons rfl (Kn.cons rfl (Kn.nil))))) ?_
  refine awp_seq_region (fun Z hZ => ?_)
  refine sx_move rfl rfl ?_
  refine sx_neq rfl rfl rfl ?_
  refine sx_nil (hZ _ _ ?_)
  refine awp_forget [(2, _), (3, _), (4, _), (8, _), (23, _)] (Kn.cons rfl (Kn.cons rfl (Kn.cons rfl (Kn.cons rfl (Kn.cons rfl (Kn.nil)))))) ?_
  refine awp_cond rfl (fun h4 => ?_) (fun h4 => ?_)
  · cases h4
  refine awp_skip ?_
  with_reducible refine nx_normal ?_
  refine awp_seq_region (fun Z hZ => ?_)
  refine sx_makeMapS rfl (fun k : TK => tkV k) (fun n : Nat => iq (n : Nat)) (fun gm => ?_)
  refine sx_alloc tyZ101 rfl (fun g3 => ?_)
  refine sx_store1 0 rfl rfl rfl tyS101 rfl (by first | (simp only [List.length_cons, List.length_nil, Nat.reduceAdd, Nat.zero_add, Nat.add_zero]; first | done | rfl) | rfl) (by first | (simp only [List.set_cons_succ, List.set_cons_zero, Nat.reduceAdd, Nat.add_zero, Nat.zero_add]; first | done | rfl) | rfl) (by first | (simp only [List.set_cons_succ, List.set_cons_zero]; first | done | rfl) | rfl) ?_
  refine sx_nil (hZ _ _ ?_)
  refine awp_forget [(2, _), (3, _), (4, _), (9, _)] (Kn.cons rfl (Kn.cons rfl (Kn.cons rfl (Kn.cons rfl (Kn.nil))))) ?_
  have hcb := fun (k : Nat) (e : It) (T : Heap) (hk : O[k]? = some e) (hT : ∃ M, HoM (Rc.mk (Zm : Nat) A0 B C D) (O.take k) M ∧ T = HoH g2 g3 gm (Rc.mk (Zm : Nat) A0 B C D) M) => show Fn Try.prog 47 ([tval (tz e : Nat) (tx e : Nat) (ty e : Nat)] ++ [ptr g2 0, ptr g3 0]) T (fun _ H' => ∃ M, HoM (Rc.mk (Zm : Nat) A0 B C D) (O.take (k + 1)) M ∧ H' = HoH g2 g3 gm (Rc.mk (Zm : Nat) A0 B C D) M) from by
    obtain ⟨M, hM, rfl⟩ := hT
    exact hcb_fn g2 g3 gm _ hok hk hM
  have he := xeach_fn A c0 O hA hok 47 [ptr g2 0, ptr g3 0] (fun k T => ∃ M, HoM (Rc.mk (Zm : Nat) A0 B C D) (O.take k) M ∧ T = HoH g2 g3 gm (Rc.mk (Zm : Nat) A0 B C D) M) (fun k T h => by obtain ⟨M, _, rfl⟩ := h; exact hoh_wrs _ _ _ _ _) hcb _ ⟨[], HoM.nil _, rfl⟩
  rw [List.take_length] at he

  refine awp_seq_region (fun Z hZ => ?_)
  refine sx_loadA 3 rfl rfl tyA29 tyS29 (by first | (simp only [List.length_cons, List.length_nil, Nat.reduceAdd, Nat.zero_add, Nat.add_zero]; first | done | rfl) | rfl) (by first | (simp only [List.take_succ_cons, List.take_zero, List.drop_succ_cons, List.drop_zero, List.cons_append, List.nil_append, List.append_nil, List.length_cons, List.length_nil, Nat.reduceAdd, Nat.zero_add, Nat.add_zero, Value.cells, wrV]; first | done | rfl) | rfl) rfl ?_
  refine sx_makeFunc rfl rfl ?_
  refine sx_callA (HoH g2 g3 gm (Rc.mk (Zm : Nat) A0 B C D) []) (roE A (icells O)) (.own g1 29 [.slice A O.length c0] :: roE A (icells O)) he rfl (HLe.refl _) (.cons _ (List.Sublist.refl _)) (Ro.roE _ _) rfl ?_
  rintro v' H' ⟨M, hM, rfl⟩
  rw [(hoh_wrs _ _ _ _ _).filter]
  refine sx_nil (hZ _ _ ?_)
  refine awp_forget [(2, _), (4, _), (9, _)] (Kn.cons rfl (Kn.cons rfl (Kn.cons rfl (Kn.nil)))) ?_
  have hml := hM.len
  refine awp_heap [.own g3 101 [.map (some gm)], thereE gm M, .own g2 33 (Rc.mk (Zm : Nat) A0 B C D).cells] (HLe.sub (List.sublist_append_left _ _)) ?_

  refine awp_seq ?_
  refine awq_seq_region mixed (by kernel_rfl) (fun Z hZ => ?_)
  refine sq_loadA 2 rfl rfl tyA33 tyS33 (by first | (simp only [List.length_cons, List.length_nil, Nat.reduceAdd, Nat.zero_add, Nat.add_zero]; first | done | rfl) | rfl) (by first | (simp only [List.take_succ_cons, List.take_zero, List.drop_succ_cons, List.drop_zero, List.cons_append, List.nil_append, List.append_nil, List.length_cons, List.length_nil, Nat.reduceAdd, Nat.zero_add, Nat.add_zero, Value.cells, wrV]; first | done | rfl) | rfl) rfl ?_
  refine sq_callP (hsz) rfl rfl ?_
  refine sq_load 0 rfl rfl tyA101 tyS101 rfl rfl ?_
  refine sq_lenS2 1 Try.underlying101 rfl rfl rfl ?_
  refine sq_sub rfl rfl ((K.length : Nat) : Int) (by rw [IntWalk.i64_in _ (by omega)]; omega) rfl ?_
  refine sq_move rfl rfl ?_
  refine sq_gtr rfl rfl rfl ?_
  refine sq_nil (hZ _ _ ?_)
  refine awp_forget [(4, _), (9, _), (35, _)] (Kn.cons rfl (Kn.cons rfl (Kn.cons rfl (Kn.nil)))) ?_
  refine awp_cond rfl (fun h8 => ?_) (fun h8 => ?_)
  · have hgt : most < K.length := by simp at h8; omega
    refine awp_seq_region (fun Z hZ => ?_)
    refine sx_assign rfl rfl ?_
    refine sx_assign rfl rfl ?_
    refine sx_nil (hZ _ _ ?_)
    refine awp_forget [(6, _), (7, _)] (Kn.cons rfl (Kn.cons rfl (Kn.nil))) ?_
    refine awp_ret ?_
    repeat (with_reducible refine nx_then_ret ?_)
    exact nx_ret2h [] rfl rfl rfl (HLe.sub (List.nil_sublist _)) (.inr ⟨hgt, rfl, rfl⟩)
  have hle : K.length ≤ most := by simp at h8; omega
  refine awp_skip ?_
  with_reducible refine nx_normal ?_
  refine awp_seq_region (fun Z hZ => ?_)
  refine sx_assign rfl rfl ?_
  refine sx_nil (hZ _ _ ?_)
  refine awp_forget [(4, _), (9, _), (10, _)] (Kn.cons rfl (Kn.cons rfl (Kn.cons rfl (Kn.nil)))) ?_
  refine awp_seq ?_
  refine awp_seq_region (fun Z hZ => ?_)
  refine sx_fieldAddr rfl tyF33_2 (by first | (simp only [Nat.reduceAdd, Nat.add_zero, Nat.zero_add]; first | done | rfl) | rfl) rfl ?_
  refine sx_load 2 rfl rfl tyA3 tyS3 rfl rfl ?_
  refine sx_assign rfl rfl ?_
  refine sx_nil (hZ _ _ ?_)
  refine awp_forget [(4, _), (9, _), (10, _), (11, _)] (Kn.cons rfl (Kn.cons rfl (Kn.cons rfl (Kn.cons rfl (Kn.nil))))) ?_
  refine awp_block ?_
  refine awp_loop (ι := Nat × Value) (fun s => [(4, ptr g2 0), (9, ptr g3 0), (10, s.2), (11, iq (B + s.1 : Nat))]) (fun s => .own g3 101 [.map (some gm)] :: thereE gm M :: .own g2 33 (Rc.mk (Zm : Nat) A0 B C D).cells :: rowE s.2 39 3 (tlc Zm (rectH (hasT O Zm) A0 B W s.1)))
    (fun s => s.1 ≤ Mh ∧ RowOk s.2 (rectH (hasT O Zm) A0 B W s.1).length) (fun s => Mh - s.1) (0, .slice none 0 0) ⟨Nat.zero_le _, RowOk.nil⟩ (Kn.cons rfl (Kn.cons rfl (Kn.cons rfl (Kn.cons rfl Kn.nil)))) (HLe.refl _) ?_
  rintro ⟨j, v⟩ ⟨hj, hv⟩
  replace hj : j ≤ Mh := hj
  replace hv : RowOk v (rectH (hasT O Zm) A0 B W j).length := hv
  refine awp_forget [(4, ptr g2 0), (9, ptr g3 0), (10, v), (11, iq (B + j : Nat))] (Kn.cons rfl (Kn.cons rfl (Kn.cons rfl (Kn.cons rfl Kn.nil)))) ?_
  refine awp_heap (.own g3 101 [.map (some gm)] :: thereE gm M :: .own g2 33 (Rc.mk (Zm : Nat) A0 B C D).cells :: rowE v 39 3 (tlc Zm (rectH (hasT O Zm) A0 B W j))) (HLe.refl _) ?_

  refine awp_seq ?_
  refine awp_seq_region (fun Z hZ => ?_)
  refine sx_move rfl rfl ?_
  refine sx_fieldAddr rfl tyF33_4 (by first | (simp only [Nat.reduceAdd, Nat.add_zero, Nat.zero_add]; first | done | rfl) | rfl) rfl ?_
  refine sx_load 2 rfl rfl tyA3 tyS3 rfl rfl ?_
  refine sx_leq rfl rfl rfl ?_
  refine sx_nil (hZ _ _ ?_)
  refine awp_forget [(4, _), (9, _), (10, _), (11, _), (41, _)] (Kn.cons rfl (Kn.cons rfl (Kn.cons rfl (Kn.cons rfl (Kn.cons rfl (Kn.nil)))))) ?_
  refine awp_cond rfl (fun h12 => ?_) (fun h12 => ?_)
  · have hlt : j < Mh := by simp at h12; omega
    have hmw : (j + 1) * W ≤ Mh * W := Nat.mul_le_mul_right _ hlt
    rw [Nat.succ_mul] at hmw
    rw [Nat.mul_comm W Mh] at hho
    have hrl := rectH_len (hasT O Zm) A0 B W j
    have hsn := rectH_succ (hasT O Zm) A0 B W j
    obtain ⟨X, hX⟩ : ∃ X, rectH (hasT O Zm) A0 B W j = X := ⟨_, rfl⟩
    rw [hX] at hv hrl hsn ⊢
    refine awp_skip ?_
    with_reducible refine nx_normal ?_
    refine awp_seq (awp_block ?_)
    refine awp_seq_region (fun Z hZ => ?_)
    refine sx_fieldAddr rfl tyF33_1 (by first | (simp only [Nat.reduceAdd, Nat.add_zero, Nat.zero_add]; first | done | rfl) | rfl) rfl ?_
    refine sx_load 2 rfl rfl tyA3 tyS3 rfl rfl ?_
    refine sx_assign rfl rfl ?_
    refine sx_nil (hZ _ _ ?_)
    refine awp_forget [(4, _), (9, _), (10, _), (11, _), (12, _)] (Kn.cons rfl (Kn.cons rfl (Kn.cons rfl (Kn.cons rfl (Kn.cons rfl (Kn.nil)))))) ?_
    refine awp_block ?_
    refine awp_loop (ι := Nat × Value) (fun s => [(4, ptr g2 0), (9, ptr g3 0), (10, s.2), (11, iq (B + j : Nat)), (12, iq (A0 + s.1 : Nat))]) (fun s => .own g3 101 [.map (some gm)] :: thereE gm M :: .own g2 33 (Rc.mk (Zm : Nat) A0 B C D).cells :: rowE s.2 39 3 (tlc Zm (X ++ rowH (hasT O Zm) A0 (B + j) s.1)))
      (fun s => s.1 ≤ W ∧ RowOk s.2 (X ++ rowH (hasT O Zm) A0 (B + j) s.1).length) (fun s => W - s.1) (0, v) ⟨Nat.zero_le _, by show RowOk v (X ++ []).length; rw [List.append_nil]; exact hv⟩ (Kn.cons rfl (Kn.cons rfl (Kn.cons rfl (Kn.cons rfl (Kn.cons rfl Kn.nil))))) (by rw [show rowH (hasT O Zm) A0 (B + j) 0 = [] from rfl, List.append_nil]; exact HLe.refl _) ?_
    rintro ⟨i, v1⟩ ⟨hi, hv1⟩
    replace hi : i ≤ W := hi
    replace hv1 : RowOk v1 (X ++ rowH (hasT O Zm) A0 (B + j) i).length := hv1
    refine awp_forget [(4, ptr g2 0), (9, ptr g3 0), (10, v1), (11, iq (B + j : Nat)), (12, iq (A0 + i : Nat))] (Kn.cons rfl (Kn.cons rfl (Kn.cons rfl (Kn.cons rfl (Kn.cons rfl Kn.nil))))) ?_
    have hrl1 := rowH_len (hasT O Zm) A0 (B + j) i
    have hsn1 := rowH_succ (hasT O Zm) A0 (B + j) i
    obtain ⟨Y, hY⟩ : ∃ Y, rowH (hasT O Zm) A0 (B + j) i = Y := ⟨_, rfl⟩
    rw [hY] at hv1 hrl1 hsn1
    refine awp_heap (.own g3 101 [.map (some gm)] :: thereE gm M :: .own g2 33 (Rc.mk (Zm : Nat) A0 B C D).cells :: rowE v1 39 3 (tlc Zm (X ++ Y))) (by rw [← hY]; exact HLe.refl _) ?_

    refine awp_seq ?_
    refine awp_seq_region (fun Z hZ => ?_)
    refine sx_move rfl rfl ?_
    refine sx_fieldAddr rfl tyF33_3 (by first | (simp only [Nat.reduceAdd, Nat.add_zero, Nat.zero_add]; first | done | rfl) | rfl) rfl ?_
    refine sx_load 2 rfl rfl tyA3 tyS3 rfl rfl ?_
    refine sx_leq rfl rfl rfl ?_
    refine sx_nil (hZ _ _ ?_)
    refine awp_forget [(4, _), (9, _), (10, _), (11, _), (12, _), (49, _)] (Kn.cons rfl (Kn.cons rfl (Kn.cons rfl (Kn.cons rfl (Kn.cons rfl (Kn.cons rfl (Kn.nil))))))) ?_
    refine awp_cond rfl (fun h15 => ?_) (fun h15 => ?_)
    · have hlt1 : i < W := by simp at h15; omega
      obtain ⟨q, hq⟩ : ∃ q, hasT O Zm (A0 + i) (B + j) = q := ⟨_, rfl⟩
      have hlk := look_hole hr hok hM (x := A0 + i) (y := B + j) ⟨by omega, by omega⟩ ⟨by omega, by omega⟩ hq
      rw [hq] at hsn1
      refine awp_skip ?_
      with_reducible refine nx_normal ?_
      refine awp_seq (awp_block ?_)
      refine awp_seq_region (fun Z hZ => ?_)
      refine sx_fieldAddr rfl tyF33_0 (by first | (simp only [Nat.reduceAdd, Nat.add_zero, Nat.zero_add]; first | done | rfl) | rfl) rfl ?_
      refine sx_load 2 rfl rfl tyA3 tyS3 rfl rfl ?_
      refine sx_move rfl rfl ?_
      refine sx_move rfl rfl ?_
      refine sx_build tyZ39 tyP39 rfl rfl (by first | (simp only [List.take_succ_cons, List.take_zero, List.drop_succ_cons, List.drop_zero, List.cons_append, List.nil_append, List.append_nil, List.length_cons, List.length_nil, Nat.reduceAdd, Nat.zero_add, Nat.add_zero, Value.cells, wrV, zrep_one, List.replicate_succ, List.replicate_zero, Nat.reduceMul, Nat.zero_mul]; first | done | rfl) | rfl) rfl ?_
      refine sx_alloc tyZ39 rfl (fun g4 => ?_)
      refine sx_store 0 rfl rfl rfl tyS39 (by first | (simp only [Value.cells]; first | done | rfl) | rfl) rfl rfl (by first | (simp only [List.length_cons, List.length_nil, Nat.reduceAdd, Nat.zero_add, Nat.add_zero]; first | done | rfl) | rfl) (by first | (simp only [List.take_succ_cons, List.take_zero, List.drop_succ_cons, List.drop_zero, List.cons_append, List.nil_append, List.append_nil, List.length_cons, List.length_nil, Nat.reduceAdd, Nat.zero_add, Nat.add_zero, Value.cells, wrV]; first | done | rfl) | rfl) (by first | (simp only [List.set_cons_succ, List.set_cons_zero]; first | done | rfl) | rfl) ?_
      refine sx_nil (hZ _ _ ?_)
      refine awp_forget [(4, _), (9, _), (10, _), (11, _), (12, _), (13, _)] (Kn.cons rfl (Kn.cons rfl (Kn.cons rfl (Kn.cons rfl (Kn.cons rfl (Kn.cons rfl (Kn.nil))))))) ?_

      refine awp_seq_region (fun Z hZ => ?_)
      refine sx_load 1 rfl rfl tyA101 tyS101 rfl rfl ?_
      refine sx_loadA 0 rfl rfl tyA39 tyS39 (by first | (simp only [List.length_cons, List.length_nil, Nat.reduceAdd, Nat.zero_add, Nat.add_zero]; first | done | rfl) | rfl) (by first | (simp only [List.take_succ_cons, List.take_zero, List.drop_succ_cons, List.drop_zero, List.cons_append, List.nil_append, List.append_nil, List.length_cons, List.length_nil, Nat.reduceAdd, Nat.zero_add, Nat.add_zero, Value.cells, wrV]; first | done | rfl) | rfl) rfl ?_
      refine sx_lookupS 2 keyTile Try.underlying101 zeroI ((Zm : Nat), (A0 + i : Nat), (B + j : Nat)) _ rfl rfl rfl hlk rfl ?_
      refine sx_eql rfl rfl rfl ?_
      refine sx_nil (hZ _ _ ?_)
      refine awp_forget [(4, _), (9, _), (10, _), (11, _), (12, _), (13, _), (60, _)] (Kn.cons rfl (Kn.cons rfl (Kn.cons rfl (Kn.cons rfl (Kn.cons rfl (Kn.cons rfl (Kn.cons rfl (Kn.nil)))))))) ?_
      refine awp_cond rfl (fun h18 => ?_) (fun h18 => ?_)
      · obtain rfl : q = false := by cases q <;> first | rfl | (simp at h18)
        rw [if_neg (by decide)] at hsn1
        refine awp_region (fun Z hZ => ?_)
        refine sx_move rfl rfl ?_
        refine sx_loadA 0 rfl rfl tyA39 tyS39 (by first | (simp only [List.length_cons, List.length_nil, Nat.reduceAdd, Nat.zero_add, Nat.add_zero]; first | done | rfl) | rfl) (by first | (simp only [List.take_succ_cons, List.take_zero, List.drop_succ_cons, List.drop_zero, List.cons_append, List.nil_append, List.append_nil, List.length_cons, List.length_nil, Nat.reduceAdd, Nat.zero_add, Nat.add_zero, Value.cells, wrV]; first | done | rfl) | rfl) rfl ?_
        refine sx_buildSlice Try.underlying54 tyS39 tyZ39 rfl rfl rfl rfl (by first | (simp only [List.take_succ_cons, List.take_zero, List.drop_succ_cons, List.drop_zero, List.cons_append, List.nil_append, List.append_nil, List.length_cons, List.length_nil, Nat.reduceAdd, Nat.zero_add, Nat.add_zero, Value.cells, wrV, zrep_one, List.replicate_succ, List.replicate_zero, Nat.reduceMul, Nat.zero_mul]; first | done | rfl) | rfl) rfl (fun g5 => ?_)
        refine sx_appendE (xs := tlc Zm (X ++ Y)) [_, _, _, _, _] elemTT rfl hv1 (by rw [tlc_len]) rfl (fun w hw => rd_own (i := 0) (xs := tcells (Zm : Nat) (A0 + i : Nat) (B + j : Nat)) rfl rfl hw) rfl (by rw [List.length_append]; show _ ≤ 9223372036854775807; omega) (by rw [List.length_append]; omega) (HLe.refl _) rfl (fun v2 hv2 => ?_)
        refine sx_assign rfl rfl ?_
        refine sx_nil (hZ _ _ ?_)
        refine nx_forget [(4, _), (9, _), (10, _), (11, _), (12, _)] (Kn.cons rfl (Kn.cons rfl (Kn.cons rfl (Kn.cons rfl (Kn.cons rfl (Kn.nil)))))) ?_
        repeat (with_reducible refine nx_block_normal ?_)
        with_reducible refine nx_normal ?_
        refine awp_region (fun Z hZ => ?_)
        refine sx_move rfl rfl ?_
        refine sx_add rfl rfl ((A0 + (i + 1) : Nat) : Int) (by rw [IntWalk.i64_in _ (by omega)]; omega) rfl ?_
        refine sx_assign rfl rfl ?_
        refine sx_nil (hZ _ _ ?_)
        refine nx_forget [(4, _), (9, _), (10, _), (11, _), (12, _)] (Kn.cons rfl (Kn.cons rfl (Kn.cons rfl (Kn.cons rfl (Kn.cons rfl (Kn.nil)))))) ?_
        refine nx_round (i + 1, v2) ⟨hlt1, by show RowOk v2 (X ++ rowH (hasT O Zm) A0 (B + j) (i + 1)).length; rw [hsn1, ← List.append_assoc, List.length_append]; exact hv2⟩ (show W - (i + 1) < W - i by omega) (Kn.cons rfl (Kn.cons rfl (Kn.cons rfl (Kn.cons rfl (Kn.cons rfl Kn.nil))))) ?_
        show HLe (_ :: _ :: _ :: rowE v2 _ 3 (tlc Zm (X ++ rowH (hasT O Zm) A0 (B + j) (i + 1)))) _
        rw [hsn1, ← List.append_assoc, tlc_app]
        exact HLe.drop 2 rfl
      · obtain rfl : q = true := by cases q <;> first | rfl | (simp at h18)
        rw [if_pos rfl, List.append_nil] at hsn1
        refine awp_skip ?_
        repeat (with_reducible refine nx_block_normal ?_)
        with_reducible refine nx_normal ?_
        refine awp_region (fun Z hZ => ?_)
        refine sx_move rfl rfl ?_
        refine sx_add rfl rfl ((A0 + (i + 1) : Nat) : Int) (by rw [IntWalk.i64_in _ (by omega)]; omega) rfl ?_
        refine sx_assign rfl rfl ?_
        refine sx_nil (hZ _ _ ?_)
        refine nx_forget [(4, _), (9, _), (10, _), (11, _), (12, _)] (Kn.cons rfl (Kn.cons rfl (Kn.cons rfl (Kn.cons rfl (Kn.cons rfl (Kn.nil)))))) ?_
        refine nx_round (i + 1, v1) ⟨hlt1, by show RowOk v1 (X ++ rowH (hasT O Zm) A0 (B + j) (i + 1)).length; rw [hsn1]; exact hv1⟩ (show W - (i + 1) < W - i by omega) (Kn.cons rfl (Kn.cons rfl (Kn.cons rfl (Kn.cons rfl (Kn.cons rfl Kn.nil))))) ?_
        show HLe (_ :: _ :: _ :: rowE v1 _ 3 (tlc Zm (X ++ rowH (hasT O Zm) A0 (B + j) (i + 1)))) _
        rw [hsn1]
        exact HLe.drop 1 rfl
    · refine awp_exit ?_
      repeat (with_reducible refine nx_then_exit ?_)
      with_reducible refine nx_block_exit ?_
      repeat (with_reducible refine nx_block_normal ?_)
      with_reducible refine nx_normal ?_
      obtain rfl : i = W := by simp at h15; omega
      refine awp_region (fun Z hZ => ?_)
      refine sx_move rfl rfl ?_
      refine sx_add rfl rfl ((B + (j + 1) : Nat) : Int) (by rw [IntWalk.i64_in _ (by omega)]; omega) rfl ?_
      refine sx_assign rfl rfl ?_
      refine sx_nil (hZ _ _ ?_)
      refine nx_forget [(4, _), (9, _), (10, _), (11, _)] (Kn.cons rfl (Kn.cons rfl (Kn.cons rfl (Kn.cons rfl (Kn.nil))))) ?_
      refine nx_round (j + 1, v1) ⟨hlt, by show RowOk v1 (rectH (hasT O Zm) A0 B i (j + 1)).length; rw [hsn, hY]; exact hv1⟩ (show Mh - (j + 1) < Mh - j by omega) (Kn.cons rfl (Kn.cons rfl (Kn.cons rfl (Kn.cons rfl Kn.nil)))) ?_
      show HLe (_ :: _ :: _ :: rowE v1 _ 3 (tlc Zm (rectH (hasT O Zm) A0 B i (j + 1)))) _
      rw [hsn, hY]
      exact HLe.refl _
  · refine awp_exit ?_
    repeat (with_reducible refine nx_then_exit ?_)
    with_reducible refine nx_block_exit ?_
    with_reducible refine nx_normal ?_
    obtain rfl : j = Mh := by simp at h12; omega
    rw [hK] at hv ⊢
    refine awp_seq_region (fun Z hZ => ?_)
    refine sx_move rfl rfl ?_
    refine sx_assign rfl rfl ?_
    refine sx_assign rfl rfl ?_
    refine sx_nil (hZ _ _ ?_)
    refine awp_forget [(6, _), (7, _)] (Kn.cons rfl (Kn.cons rfl (Kn.nil))) ?_
    refine awp_ret ?_
    exact nx_ret2h _ rfl rfl rfl (HLe.drop 3 rfl) (.inl ⟨hle, v, rfl, hv, rfl⟩)
end Go.Proofs.Ytmebmkkllhnmlaa

namespace Go.Proofs.Ytmebmkkllhnmlaa
open Go.RowKit
set_option linter.unusedVariables false
set_option linter.unusedSimpArgs false
set_option maxRecDepth 100000
theorem rholes_arg (A : Option Addr) (n c : Nat) (r : Rc) (most : Int) (T : Heap) (hm : most < 1 ∨ 4096 < most) : Fn Try.prog 23 [.slice A n c, r.val, iq most] T fun v _ => v = .tuple #[.slice none 0 0, iq (2 : Int)] := by
  refine Fn.enter (N := 71) Try.func23 rfl (by kernel_rfl) rfl (fun w0 => ?_)

  refine awp_seq_region (fun Z hZ => ?_)
  refine sx_box rfl rfl rfl (fun g1 => ?_)
  refine sx_assign rfl rfl ?_
  refine sx_assign rfl rfl ?_
  refine sx_nil (hZ _ _ ?_)
  refine awp_forget [(0, _), (2, _), (4, _)] (Kn.cons rfl (Kn.cons rfl (Kn.cons rfl (Kn.nil)))) ?_

  refine awp_seq ?_
  refine awp_seq_meet [(22, .bool true)] [] (fun Z hZ => ?_) ?_
  · refine sx_move rfl rfl ?_
    refine sx_lss rfl rfl rfl ?_
    refine sx_move rfl rfl ?_
    refine sx_split 19 rfl (fun hb2 => ?_) (fun hb2 => ?_)
    · refine sx_off rfl rfl rfl rfl rfl ?_
      refine sx_off rfl rfl rfl rfl rfl ?_
      refine sx_pick rfl rfl rfl ?_
      refine sx_nil (hZ _ _ ?_ ?_)
      · exact Kn.cons (congrArg some (congrArg Value.bool (by first | rfl | (exfalso; simp at *; omega) | (simp at *; done) | (simp at *; omega)))) Kn.nil
      · exact HLe.sub (List.nil_sublist _)
    · refine sx_on rfl rfl rfl ?_
      refine sx_move rfl rfl ?_
      refine sx_on rfl rfl rfl ?_
      refine sx_gtr rfl rfl rfl ?_
      refine sx_pick rfl rfl rfl ?_
      refine sx_nil (hZ _ _ ?_ ?_)
      · exact Kn.cons (congrArg some (congrArg Value.bool (by first | rfl | (exfalso; simp at *; omega) | (simp at *; done) | (simp at *; omega)))) Kn.nil
      · exact HLe.sub (List.nil_sublist _)
  refine awp_cond rfl (fun h => ?_) (fun h => ?_)
  · refine awp_seq_region (fun Z hZ => ?_)
    refine sx_assign rfl rfl ?_
    refine sx_assign rfl rfl ?_
    refine sx_nil (hZ _ _ ?_)
    refine awp_forget [(6, _), (7, _)] (Kn.cons rfl (Kn.cons rfl (Kn.nil))) ?_
    refine awp_ret ?_
    repeat (with_reducible refine nx_then_ret ?_)
    exact nx_ret2 rfl rfl rfl rfl
  cases h
theorem rholes_chk (A : Option Addr) (n c : Nat) (r : Rc) (most : Int) (T : Heap) (h1 : 1 ≤ most) (h2 : most ≤ 4096) (hc : chkE r ≠ 0) : Fn Try.prog 23 [.slice A n c, r.val, iq most] T fun v _ => v = .tuple #[.slice none 0 0, iq (chkE r)] := by
  have hck := rCheck_fn r
  obtain ⟨e, he⟩ : ∃ e, chkE r = e := ⟨_, rfl⟩
  rw [he] at hck hc ⊢
  refine Fn.enter (N := 71) Try.func23 rfl (by kernel_rfl) rfl (fun w0 => ?_)

  refine awp_seq_region (fun Z hZ => ?_)
  refine sx_box rfl rfl rfl (fun g1 => ?_)
  refine sx_assign rfl rfl ?_
  refine sx_assign rfl rfl ?_
  refine sx_nil (hZ _ _ ?_)
  refine awp_forget [(0, _), (2, _), (4, _)] (Kn.cons rfl (Kn.cons rfl (Kn.cons rfl (Kn.nil)))) ?_

  refine awp_seq ?_
  refine awp_seq_meet [(0, .slice A n c), (2, iq most), (4, ptr g1 0), (22, .bool false)] [.own g1 36 r.cells] (fun Z hZ => ?_) ?_
  · refine sx_move rfl rfl ?_
    refine sx_lss rfl rfl rfl ?_
    refine sx_move rfl rfl ?_
    refine sx_split 19 rfl (fun hb2 => ?_) (fun hb2 => ?_)
    · refine sx_off rfl rfl rfl rfl rfl ?_
      refine sx_off rfl rfl rfl rfl rfl ?_
      refine sx_pick rfl rfl rfl ?_
      refine sx_nil (hZ _ _ ?_ ?_)
      · exact Kn.cons rfl (Kn.cons rfl (Kn.cons rfl (Kn.cons (congrArg some (congrArg Value.bool (by first | rfl | (exfalso; simp at *; omega) | (simp at *; done) | (simp at *; omega)))) Kn.nil)))
      · exact HLe.sub (.cons_cons _ (List.nil_sublist _))
    · refine sx_on rfl rfl rfl ?_
      refine sx_move rfl rfl ?_
      refine sx_on rfl rfl rfl ?_
      refine sx_gtr rfl rfl rfl ?_
      refine sx_pick rfl rfl rfl ?_
      refine sx_nil (hZ _ _ ?_ ?_)
      · exact Kn.cons rfl (Kn.cons rfl (Kn.cons rfl (Kn.cons (congrArg some (congrArg Value.bool (by first | rfl | (exfalso; simp at *; omega) | (simp at *; done) | (simp at *; omega)))) Kn.nil)))
      · exact HLe.sub (.cons_cons _ (List.nil_sublist _))
  refine awp_cond rfl (fun h => ?_) (fun h => ?_)
  · cases h
  refine awp_skip ?_
  with_reducible refine nx_normal ?_

  refine awp_seq ?_
  refine awp_seq_region (fun Z hZ => ?_)
  first | refine sx_loadA 0 rfl rfl tyA36 tyS36 (by first | (simp only [List.length_cons, List.length_nil, Nat.reduceAdd, Nat.zero_add, Nat.add_zero]; first | done | rfl) | rfl) (by first | (simp only [List.take_succ_cons, List.take_zero, List.drop_succ_cons, List.drop_zero, List.cons_append, List.nil_append, List.append_nil, List.length_cons, List.length_nil, Nat.reduceAdd, Nat.zero_add, Nat.add_zero, Value.cells, wrV]; first | done | rfl) | rfl) rfl ?_
  refine sx_callP (hck) rfl rfl ?_
  refine sx_assign rfl rfl ?_
  refine sx_nil (hZ _ _ ?_)
  refine awp_forget [(0, _), (2, _), (4, _), (8, _)] (Kn.cons rfl (Kn.cons rfl (Kn.cons rfl (Kn.cons rfl (Kn.nil))))) ?_
  refine awp_seq_region (fun Z hZ => ?_)
  refine sx_move rfl rfl ?_
  refine sx_neq rfl rfl rfl ?_
  refine sx_nil (hZ _ _ ?_)
  refine awp_forget [(0, _), (2, _), (4, _), (8, _), (26, _)] (Kn.cons rfl (Kn.cons rfl (Kn.cons rfl (Kn.cons rfl (Kn.cons rfl (Kn.nil)))))) ?_
  refine awp_cond rfl (fun h4 => ?_) (fun h4 => ?_)
  · refine awp_seq_region (fun Z hZ => ?_)
    refine sx_move rfl rfl ?_
    refine sx_assign rfl rfl ?_
    refine sx_assign rfl rfl ?_
    refine sx_nil (hZ _ _ ?_)
    refine awp_forget [(6, _), (7, _)] (Kn.cons rfl (Kn.cons rfl (Kn.nil))) ?_
    refine awp_ret ?_
    repeat (with_reducible refine nx_then_ret ?_)
    exact nx_ret2 rfl rfl rfl rfl
  exact absurd (by simpa using h4) hc
theorem rholes_fn (A : Option Addr) (c0 : Nat) (O : List It) (hA : SlIn A O.length c0) (hok : ChOk O) {r : Rc} {Zm A0 B C D : Nat} (hr : r.Ok Zm A0 B C D) (most : Nat) (h1 : 1 ≤ most) (h2 : most ≤ 4096) (hs300 : (C + 1 - A0) * (D + 1 - B) ≤ 300) :
    Fn Try.prog 23 [.slice A O.length c0, r.val, iq (most : Nat)] (roE A (icells O)) fun v H' => ((holesQ O Zm A0 B C D).length ≤ most ∧ ∃ u, v = .tuple #[u, iq (0 : Int)] ∧ RowOk u (holesQ O Zm A0 B C D).length ∧ H' = rowE u 24 3 (tlc Zm (holesQ O Zm A0 B C D))) ∨ (most < (holesQ O Zm A0 B C D).length ∧ v = .tuple #[.slice none 0 0, iq (21 : Int)] ∧ H' = []) := by
  have hck := rCheck_fn r
  rw [hr.chk] at hck
  have hsz := cSize_fn r
  rw [hr.size] at hsz
  have hlen := hok.len
  have hho := holes_len hr hok
  have hcnt : cntR r O ≤ O.length := List.length_filter_le _ _
  have hZm := hr.zo
  have hx := hr.x
  have hy := hr.y
  have hxl := hr.xl
  have hyl := hr.yl
  have h26 := pow2_le26 hZm
  have hsl := hr.sizeLe
  obtain rfl := hr.is_
  obtain ⟨W, hW⟩ : ∃ W, C + 1 - A0 = W := ⟨_, rfl⟩
  obtain ⟨Mh, hMh⟩ : ∃ M, D + 1 - B = M := ⟨_, rfl⟩
  rw [hW, hMh] at hho hsz hsl
  have hKe : holesQ O Zm A0 B C D = rectH (hasT O Zm) A0 B W Mh := by unfold holesQ; rw [hW, hMh]
  rw [hKe] at hho ⊢
  obtain ⟨K, hK⟩ : ∃ K, rectH (hasT O Zm) A0 B W Mh = K := ⟨_, rfl⟩
  rw [hK] at hho ⊢
  rw [hW, hMh] at hs300
  refine Fn.enter (N := 71) Try.func23 rfl (by kernel_rfl) rfl (fun w0 => ?_)

  refine awp_seq_region (fun Z hZ => ?_)
  refine sx_box rfl rfl rfl (fun g1 => ?_)
  refine sx_assign rfl rfl ?_
  refine sx_assign rfl rfl ?_
  refine sx_nil (hZ _ _ ?_)
  refine awp_forget [(0, _), (2, _), (4, _)] (Kn.cons rfl (Kn.cons rfl (Kn.cons rfl (Kn.nil)))) ?_

  refine awp_seq ?_
  refine awp_seq_meet [(0, .slice A O.length c0), (2, iq (most : Nat)), (4, ptr g1 0), (22, .bool false)] (.own g1 36 (Rc.mk (Zm : Nat) A0 B C D).cells :: roE A (icells O)) (fun Z hZ => ?_) ?_
  · refine sx_move rfl rfl ?_
    refine sx_lss rfl rfl rfl ?_
    refine sx_move rfl rfl ?_
    refine sx_split 19 rfl (fun hb2 => ?_) (fun hb2 => ?_)
    · refine sx_off rfl rfl rfl rfl rfl ?_
      refine sx_off rfl rfl rfl rfl rfl ?_
      refine sx_pick rfl rfl rfl ?_
      refine sx_nil (hZ _ _ ?_ ?_)
      · exact Kn.cons rfl (Kn.cons rfl (Kn.cons rfl (Kn.cons (congrArg some (congrArg Value.bool (by first | rfl | (exfalso; simp at *; omega) | (simp at *; done) | (simp at *; omega)))) Kn.nil)))
      · exact HLe.refl _
    · refine sx_on rfl rfl rfl ?_
      refine sx_move rfl rfl ?_
      refine sx_on rfl rfl rfl ?_
      refine sx_gtr rfl rfl rfl ?_
      refine sx_pick rfl rfl rfl ?_
      refine sx_nil (hZ _ _ ?_ ?_)
      · exact Kn.cons rfl (Kn.cons rfl (Kn.cons rfl (Kn.cons (congrArg some (congrArg Value.bool (by first | rfl | (exfalso; simp at *; omega) | (simp at *; done) | (simp at *; omega)))) Kn.nil)))
      · exact HLe.refl _
  refine awp_cond rfl (fun h => ?_) (fun h => ?_)
  · cases h
  refine awp_skip ?_
  with_reducible refine nx_normal ?_
  refine awp_seq ?_
  refine awp_seq_region (fun Z hZ => ?_)
  first | refine sx_loadA 0 rfl rfl tyA36 tyS36 (by first | (simp only [List.length_cons, List.length_nil, Nat.reduceAdd, Nat.zero_add, Nat.add_zero]; first | done | rfl) | rfl) (by first | (simp only [List.take_succ_cons, List.take_zero, List.drop_succ_cons, List.drop_zero, List.cons_append, List.nil_append, List.append_nil, List.length_cons, List.length_nil, Nat.reduceAdd, Nat.zero_add, Nat.add_zero, Value.cells, wrV]; first | done | rfl) | rfl) rfl ?_
  refine sx_callP (hck) rfl rfl ?_
  refine sx_assign rfl rfl ?_
  refine sx_nil (hZ _ _ ?_)
  refine awp_forget [(0, _), (2, _), (4, _), (8, _)] (Kn.cons rfl (Kn.cons rfl (Kn.cons rfl (Kn.cons rfl (Kn.nil))))) ?_
  refine awp_seq_region (fun Z hZ => ?_)
  refine sx_move rfl rfl ?_
  refine sx_neq rfl rfl rfl ?_
  refine sx_nil (hZ _ _ ?_)
  refine awp_forget [(0, _), (2, _), (4, _), (8, _), (26, _)] (Kn.cons rfl (Kn.cons rfl (Kn.cons rfl (Kn.cons rfl (Kn.cons rfl (Kn.nil)))))) ?_
  refine awp_cond rfl (fun h4 => ?_) (fun h4 => ?_)
  · cases h4
  refine awp_skip ?_
  with_reducible refine nx_normal ?_
  refine awp_seq_region (fun Z hZ => ?_)
  refine sx_assign rfl rfl ?_
  refine sx_nil (hZ _ _ ?_)
  refine awp_forget [(0, _), (2, _), (4, _), (9, _)] (Kn.cons rfl (Kn.cons rfl (Kn.cons rfl (Kn.cons rfl (Kn.nil))))) ?_
  refine awp_seq ?_
  refine awp_seq_region (fun Z hZ => ?_)
  refine sx_fieldAddr rfl tyF36_2 (by first | (simp only [Nat.reduceAdd, Nat.add_zero, Nat.zero_add]; first | done | rfl) | rfl) rfl ?_
  first | refine sx_load 0 rfl rfl tyA3 tyS3 rfl rfl ?_
  refine sx_assign rfl rfl ?_
  refine sx_nil (hZ _ _ ?_)
  refine awp_forget [(0, _), (2, _), (4, _), (9, _), (10, _)] (Kn.cons rfl (Kn.cons rfl (Kn.cons rfl (Kn.cons rfl (Kn.cons rfl (Kn.nil)))))) ?_
  refine awp_block ?_
  refine awp_loop (ι := Nat × Value) (fun s => [(0, .slice A O.length c0), (2, iq (most : Nat)), (4, ptr g1 0), (9, s.2), (10, iq (B + s.1 : Nat))]) (fun s => .own g1 36 (Rc.mk (Zm : Nat) A0 B C D).cells :: (roE A (icells O) ++ rowE s.2 24 3 (tlc Zm (rectH (hasT O Zm) A0 B W s.1))))
    (fun s => s.1 ≤ Mh ∧ RowOk s.2 (rectH (hasT O Zm) A0 B W s.1).length) (fun s => Mh - s.1) (0, .slice none 0 0) ⟨Nat.zero_le _, RowOk.nil⟩ (Kn.cons rfl (Kn.cons rfl (Kn.cons rfl (Kn.cons rfl (Kn.cons rfl Kn.nil))))) (by simp [rowE]; exact HLe.refl _) ?_
  rintro ⟨j, v⟩ ⟨hj, hv⟩
  replace hj : j ≤ Mh := hj
  replace hv : RowOk v (rectH (hasT O Zm) A0 B W j).length := hv
  refine awp_forget [(0, .slice A O.length c0), (2, iq (most : Nat)), (4, ptr g1 0), (9, v), (10, iq (B + j : Nat))] (Kn.cons rfl (Kn.cons rfl (Kn.cons rfl (Kn.cons rfl (Kn.cons rfl Kn.nil))))) ?_
  refine awp_heap (.own g1 36 (Rc.mk (Zm : Nat) A0 B C D).cells :: (roE A (icells O) ++ rowE v 24 3 (tlc Zm (rectH (hasT O Zm) A0 B W j)))) (HLe.refl _) ?_

  refine awp_seq ?_
  refine awp_seq_region (fun Z hZ => ?_)
  refine sx_move rfl rfl ?_
  refine sx_fieldAddr rfl tyF36_4 (by first | (simp only [Nat.reduceAdd, Nat.add_zero, Nat.zero_add]; first | done | rfl) | rfl) rfl ?_
  first | refine sx_load 0 rfl rfl tyA3 tyS3 rfl rfl ?_
  refine sx_leq rfl rfl rfl ?_
  refine sx_nil (hZ _ _ ?_)
  refine awp_forget [(0, _), (2, _), (4, _), (9, _), (10, _), (33, _)] (Kn.cons rfl (Kn.cons rfl (Kn.cons rfl (Kn.cons rfl (Kn.cons rfl (Kn.cons rfl (Kn.nil))))))) ?_
  refine awp_cond rfl (fun h12 => ?_) (fun h12 => ?_)
  · have hlt : j < Mh := by simp at h12; omega
    have hmw : (j + 1) * W ≤ Mh * W := Nat.mul_le_mul_right _ hlt
    rw [Nat.succ_mul] at hmw
    rw [Nat.mul_comm W Mh] at hs300
    have hrl := rectH_len (hasT O Zm) A0 B W j
    have hsn := rectH_succ (hasT O Zm) A0 B W j
    obtain ⟨X, hX⟩ : ∃ X, rectH (hasT O Zm) A0 B W j = X := ⟨_, rfl⟩
    rw [hX] at hv hrl hsn ⊢
    refine awp_skip ?_
    with_reducible refine nx_normal ?_
    refine awp_seq (awp_block ?_)
    refine awp_seq_region (fun Z hZ => ?_)
    refine sx_fieldAddr rfl tyF36_1 (by first | (simp only [Nat.reduceAdd, Nat.add_zero, Nat.zero_add]; first | done | rfl) | rfl) rfl ?_
    first | refine sx_load 0 rfl rfl tyA3 tyS3 rfl rfl ?_
    refine sx_assign rfl rfl ?_
    refine sx_nil (hZ _ _ ?_)
    refine awp_forget [(0, _), (2, _), (4, _), (9, _), (10, _), (11, _)] (Kn.cons rfl (Kn.cons rfl (Kn.cons rfl (Kn.cons rfl (Kn.cons rfl (Kn.cons rfl (Kn.nil))))))) ?_
    refine awp_block ?_
    refine awp_loop (ι := Nat × Value) (fun s => [(0, .slice A O.length c0), (2, iq (most : Nat)), (4, ptr g1 0), (9, s.2), (10, iq (B + j : Nat)), (11, iq (A0 + s.1 : Nat))]) (fun s => .own g1 36 (Rc.mk (Zm : Nat) A0 B C D).cells :: (roE A (icells O) ++ rowE s.2 24 3 (tlc Zm (X ++ rowH (hasT O Zm) A0 (B + j) s.1))))
      (fun s => s.1 ≤ W ∧ RowOk s.2 (X ++ rowH (hasT O Zm) A0 (B + j) s.1).length) (fun s => W - s.1) (0, v) ⟨Nat.zero_le _, by show RowOk v (X ++ []).length; rw [List.append_nil]; exact hv⟩ (Kn.cons rfl (Kn.cons rfl (Kn.cons rfl (Kn.cons rfl (Kn.cons rfl (Kn.cons rfl Kn.nil)))))) (by rw [show rowH (hasT O Zm) A0 (B + j) 0 = [] from rfl, List.append_nil]; exact HLe.refl _) ?_
    rintro ⟨i, v1⟩ ⟨hi, hv1⟩
    replace hi : i ≤ W := hi
    replace hv1 : RowOk v1 (X ++ rowH (hasT O Zm) A0 (B + j) i).length := hv1
    refine awp_forget [(0, .slice A O.length c0), (2, iq (most : Nat)), (4, ptr g1 0), (9, v1), (10, iq (B + j : Nat)), (11, iq (A0 + i : Nat))] (Kn.cons rfl (Kn.cons rfl (Kn.cons rfl (Kn.cons rfl (Kn.cons rfl (Kn.cons rfl Kn.nil)))))) ?_
    have hrl1 := rowH_len (hasT O Zm) A0 (B + j) i
    have hsn1 := rowH_succ (hasT O Zm) A0 (B + j) i
    obtain ⟨Y, hY⟩ : ∃ Y, rowH (hasT O Zm) A0 (B + j) i = Y := ⟨_, rfl⟩
    rw [hY] at hv1 hrl1 hsn1
    refine awp_heap (.own g1 36 (Rc.mk (Zm : Nat) A0 B C D).cells :: (roE A (icells O) ++ rowE v1 24 3 (tlc Zm (X ++ Y)))) (by rw [← hY]; exact HLe.refl _) ?_

    refine awp_seq ?_
    refine awp_seq_region (fun Z hZ => ?_)
    refine sx_move rfl rfl ?_
    refine sx_fieldAddr rfl tyF36_3 (by first | (simp only [Nat.reduceAdd, Nat.add_zero, Nat.zero_add]; first | done | rfl) | rfl) rfl ?_
    first | refine sx_load 0 rfl rfl tyA3 tyS3 rfl rfl ?_
    refine sx_leq rfl rfl rfl ?_
    refine sx_nil (hZ _ _ ?_)
    refine awp_forget [(0, _), (2, _), (4, _), (9, _), (10, _), (11, _), (41, _)] (Kn.cons rfl (Kn.cons rfl (Kn.cons rfl (Kn.cons rfl (Kn.cons rfl (Kn.cons rfl (Kn.cons rfl (Kn.nil)))))))) ?_
    refine awp_cond rfl (fun h15 => ?_) (fun h15 => ?_)
    · have hlt1 : i < W := by simp at h15; omega
      obtain ⟨q, hq⟩ : ∃ q, hasT O Zm (A0 + i) (B + j) = q := ⟨_, rfl⟩
      have hid := rID_fn (Zm : Nat) (A0 + i : Nat) (B + j : Nat)
      rw [(place_e0 hZm (by omega) (by omega)).1, id_0 hZm (by omega) (by omega)] at hid
      have hgt0 := rget_fn A c0 O (roE A (icells O)) hA.arg (fun _ => rfl) (by omega) (base4 Zm + hp Zm (A0 + i) (B + j))
      rw [← (get_eq hok.rise _).1, ← (get_eq hok.rise _).2, show cHas (base4 Zm + hp Zm (A0 + i) (B + j)) O = q from hq] at hgt0
      obtain ⟨tx0, htx0⟩ : ∃ s, cGet (base4 Zm + hp Zm (A0 + i) (B + j)) O = s := ⟨_, rfl⟩
      rw [htx0] at hgt0
      rw [hq] at hsn1
      refine awp_skip ?_
      with_reducible refine nx_normal ?_
      refine awp_seq (awp_block ?_)
      refine awp_seq_region (fun Z hZ => ?_)
      refine sx_fieldAddr rfl tyF36_0 (by first | (simp only [Nat.reduceAdd, Nat.add_zero, Nat.zero_add]; first | done | rfl) | rfl) rfl ?_
      first | refine sx_load 0 rfl rfl tyA3 tyS3 rfl rfl ?_
      refine sx_move rfl rfl ?_
      refine sx_move rfl rfl ?_
      refine sx_build tyZ24 tyP24 rfl rfl (by first | (simp only [List.take_succ_cons, List.take_zero, List.drop_succ_cons, List.drop_zero, List.cons_append, List.nil_append, List.append_nil, List.length_cons, List.length_nil, Nat.reduceAdd, Nat.zero_add, Nat.add_zero, Value.cells, wrV, zrep_one, List.replicate_succ, List.replicate_zero, Nat.reduceMul, Nat.zero_mul]; first | done | rfl) | rfl) rfl ?_
      refine sx_alloc tyZ24 rfl (fun g2 => ?_)
      refine sx_store 0 rfl rfl rfl tyS24 (by first | (simp only [Value.cells]; first | done | rfl) | rfl) rfl rfl (by first | (simp only [List.length_cons, List.length_nil, Nat.reduceAdd, Nat.zero_add, Nat.add_zero]; first | done | rfl) | rfl) (by first | (simp only [List.take_succ_cons, List.take_zero, List.drop_succ_cons, List.drop_zero, List.cons_append, List.nil_append, List.append_nil, List.length_cons, List.length_nil, Nat.reduceAdd, Nat.zero_add, Nat.add_zero, Value.cells, wrV]; first | done | rfl) | rfl) (by first | (simp only [List.set_cons_succ, List.set_cons_zero]; first | done | rfl) | rfl) ?_
      refine sx_nil (hZ _ _ ?_)
      refine awp_forget [(0, _), (2, _), (4, _), (9, _), (10, _), (11, _), (12, _)] (Kn.cons rfl (Kn.cons rfl (Kn.cons rfl (Kn.cons rfl (Kn.cons rfl (Kn.cons rfl (Kn.cons rfl (Kn.nil)))))))) ?_

      refine awp_seq_region (fun Z hZ => ?_)
      refine sx_loadA 0 rfl rfl tyA24 tyS24 (by first | (simp only [List.length_cons, List.length_nil, Nat.reduceAdd, Nat.zero_add, Nat.add_zero]; first | done | rfl) | rfl) (by first | (simp only [List.take_succ_cons, List.take_zero, List.drop_succ_cons, List.drop_zero, List.cons_append, List.nil_append, List.append_nil, List.length_cons, List.length_nil, Nat.reduceAdd, Nat.zero_add, Nat.add_zero, Value.cells, wrV]; first | done | rfl) | rfl) rfl ?_
      refine sx_callP (hid) rfl rfl ?_
      refine sx_move rfl rfl ?_
      refine sx_extract rfl rfl rfl ?_
      refine sx_extract rfl rfl rfl ?_
      refine sx_assign rfl rfl ?_
      refine sx_assign rfl rfl ?_
      refine sx_nil (hZ _ _ ?_)
      refine awp_forget [(0, _), (2, _), (4, _), (9, _), (10, _), (11, _), (12, _), (13, _)] (Kn.cons rfl (Kn.cons rfl (Kn.cons rfl (Kn.cons rfl (Kn.cons rfl (Kn.cons rfl (Kn.cons rfl (Kn.cons rfl (Kn.nil))))))))) ?_
      refine awp_seq_region (fun Z hZ => ?_)
      refine sx_move rfl rfl ?_
      refine sx_move rfl rfl ?_
      refine sx_callV (roE A (icells O)) hgt0 rfl (HLe.sub (.cons _ (.cons _ (List.sublist_append_left _ _)))) (Ro.roE _ _) rfl ?_
      refine sx_move rfl rfl ?_
      refine sx_extract rfl rfl rfl ?_
      refine sx_extract rfl rfl rfl ?_
      refine sx_assign rfl rfl ?_
      refine sx_assign rfl rfl ?_
      refine sx_nil (hZ _ _ ?_)
      refine awp_forget [(0, _), (2, _), (4, _), (9, _), (10, _), (11, _), (12, _), (16, _)] (Kn.cons rfl (Kn.cons rfl (Kn.cons rfl (Kn.cons rfl (Kn.cons rfl (Kn.cons rfl (Kn.cons rfl (Kn.cons rfl (Kn.nil))))))))) ?_
      refine awp_seq_region (fun Z hZ => ?_)
      refine sx_move rfl rfl ?_
      refine sx_not rfl rfl ?_
      refine sx_nil (hZ _ _ ?_)
      refine awp_forget [(0, _), (2, _), (4, _), (9, _), (10, _), (11, _), (12, _), (61, _)] (Kn.cons rfl (Kn.cons rfl (Kn.cons rfl (Kn.cons rfl (Kn.cons rfl (Kn.cons rfl (Kn.cons rfl (Kn.cons rfl (Kn.nil))))))))) ?_
      refine awp_cond rfl (fun h18 => ?_) (fun h18 => ?_)
      · obtain rfl : q = false := by cases q <;> first | rfl | (simp at h18)
        rw [if_neg (by decide)] at hsn1
        refine awp_region (fun Z hZ => ?_)
        refine sx_move rfl rfl ?_
        refine sx_loadA 0 rfl rfl tyA24 tyS24 (by first | (simp only [List.length_cons, List.length_nil, Nat.reduceAdd, Nat.zero_add, Nat.add_zero]; first | done | rfl) | rfl) (by first | (simp only [List.take_succ_cons, List.take_zero, List.drop_succ_cons, List.drop_zero, List.cons_append, List.nil_append, List.append_nil, List.length_cons, List.length_nil, Nat.reduceAdd, Nat.zero_add, Nat.add_zero, Value.cells, wrV]; first | done | rfl) | rfl) rfl ?_
        refine sx_buildSlice Try.underlying58 tyS24 tyZ24 rfl rfl rfl rfl (by first | (simp only [List.take_succ_cons, List.take_zero, List.drop_succ_cons, List.drop_zero, List.cons_append, List.nil_append, List.append_nil, List.length_cons, List.length_nil, Nat.reduceAdd, Nat.zero_add, Nat.add_zero, Value.cells, wrV, zrep_one, List.replicate_succ, List.replicate_zero, Nat.reduceMul, Nat.zero_mul]; first | done | rfl) | rfl) rfl (fun g3 => ?_)
        refine sx_appendE (xs := tlc Zm (X ++ Y)) (_ :: _ :: _ :: roE A (icells O)) elemTR rfl hv1 (by rw [tlc_len]) rfl (fun w hw => rd_own (i := 0) (xs := tcells (Zm : Nat) (A0 + i : Nat) (B + j : Nat)) rfl rfl hw) rfl (by rw [List.length_append]; show _ ≤ 9223372036854775807; omega) (by rw [List.length_append]; omega) (HLe.refl _) rfl (fun v2 hv2 => ?_)
        refine sx_assign rfl rfl ?_
        refine sx_nil (hZ _ _ ?_)
        refine nx_forget [(0, _), (2, _), (4, _), (9, _), (10, _), (11, _)] (Kn.cons rfl (Kn.cons rfl (Kn.cons rfl (Kn.cons rfl (Kn.cons rfl (Kn.cons rfl (Kn.nil))))))) ?_
        repeat (with_reducible refine nx_block_normal ?_)
        with_reducible refine nx_normal ?_
        refine awp_region (fun Z hZ => ?_)
        refine sx_move rfl rfl ?_
        refine sx_add rfl rfl ((A0 + (i + 1) : Nat) : Int) (by rw [IntWalk.i64_in _ (by omega)]; omega) rfl ?_
        refine sx_assign rfl rfl ?_
        refine sx_nil (hZ _ _ ?_)
        refine nx_forget [(0, _), (2, _), (4, _), (9, _), (10, _), (11, _)] (Kn.cons rfl (Kn.cons rfl (Kn.cons rfl (Kn.cons rfl (Kn.cons rfl (Kn.cons rfl (Kn.nil))))))) ?_
        refine nx_round (i + 1, v2) ⟨hlt1, by show RowOk v2 (X ++ rowH (hasT O Zm) A0 (B + j) (i + 1)).length; rw [hsn1, ← List.append_assoc, List.length_append]; exact hv2⟩ (show W - (i + 1) < W - i by omega) (Kn.cons rfl (Kn.cons rfl (Kn.cons rfl (Kn.cons rfl (Kn.cons rfl (Kn.cons rfl Kn.nil)))))) ?_
        show HLe (_ :: (_ ++ rowE v2 _ 3 (tlc Zm (X ++ rowH (hasT O Zm) A0 (B + j) (i + 1))))) _
        rw [hsn1, ← List.append_assoc, tlc_app]
        exact HLe.drop 2 rfl
      · obtain rfl : q = true := by cases q <;> first | rfl | (simp at h18)
        rw [if_pos rfl, List.append_nil] at hsn1
        refine awp_skip ?_
        repeat (with_reducible refine nx_block_normal ?_)
        with_reducible refine nx_normal ?_
        refine awp_region (fun Z hZ => ?_)
        refine sx_move rfl rfl ?_
        refine sx_add rfl rfl ((A0 + (i + 1) : Nat) : Int) (by rw [IntWalk.i64_in _ (by omega)]; omega) rfl ?_
        refine sx_assign rfl rfl ?_
        refine sx_nil (hZ _ _ ?_)
        refine nx_forget [(0, _), (2, _), (4, _), (9, _), (10, _), (11, _)] (Kn.cons rfl (Kn.cons rfl (Kn.cons rfl (Kn.cons rfl (Kn.cons rfl (Kn.cons rfl (Kn.nil))))))) ?_
        refine nx_round (i + 1, v1) ⟨hlt1, by show RowOk v1 (X ++ rowH (hasT O Zm) A0 (B + j) (i + 1)).length; rw [hsn1]; exact hv1⟩ (show W - (i + 1) < W - i by omega) (Kn.cons rfl (Kn.cons rfl (Kn.cons rfl (Kn.cons rfl (Kn.cons rfl (Kn.cons rfl Kn.nil)))))) ?_
        show HLe (_ :: (_ ++ rowE v1 _ 3 (tlc Zm (X ++ rowH (hasT O Zm) A0 (B + j) (i + 1))))) _
        rw [hsn1]
        exact HLe.drop 1 rfl
    · refine awp_exit ?_
      repeat (with_reducible refine nx_then_exit ?_)
      with_reducible refine nx_block_exit ?_
      repeat (with_reducible refine nx_block_normal ?_)
      with_reducible refine nx_normal ?_
      obtain rfl : i = W := by simp at h15; omega
      refine awp_region (fun Z hZ => ?_)
      refine sx_move rfl rfl ?_
      refine sx_add rfl rfl ((B + (j + 1) : Nat) : Int) (by rw [IntWalk.i64_in _ (by omega)]; omega) rfl ?_
      refine sx_assign rfl rfl ?_
      refine sx_nil (hZ _ _ ?_)
      refine nx_forget [(0, _), (2, _), (4, _), (9, _), (10, _)] (Kn.cons rfl (Kn.cons rfl (Kn.cons rfl (Kn.cons rfl (Kn.cons rfl (Kn.nil)))))) ?_
      refine nx_round (j + 1, v1) ⟨hlt, by show RowOk v1 (rectH (hasT O Zm) A0 B i (j + 1)).length; rw [hsn, hY]; exact hv1⟩ (show Mh - (j + 1) < Mh - j by omega) (Kn.cons rfl (Kn.cons rfl (Kn.cons rfl (Kn.cons rfl (Kn.cons rfl Kn.nil))))) ?_
      show HLe (_ :: (_ ++ rowE v1 _ 3 (tlc Zm (rectH (hasT O Zm) A0 B i (j + 1))))) _
      rw [hsn, hY]
      exact HLe.refl _
  · refine awp_exit ?_
    repeat (with_reducible refine nx_then_exit ?_)
    with_reducible refine nx_block_exit ?_
    with_reducible refine nx_normal ?_
    obtain rfl : j = Mh := by simp at h12; omega
    rw [hK] at hv ⊢
    obtain ⟨Av, cv, rfl, hAv⟩ := hv.form
    refine awp_seq ?_
    refine awp_seq_region (fun Z hZ => ?_)
    refine sx_move rfl rfl ?_
    refine sx_len Try.underlying58 rfl rfl ?_
    refine sx_move rfl rfl ?_
    refine sx_gtr rfl rfl rfl ?_
    refine sx_nil (hZ _ _ ?_)
    refine awp_forget [(9, _), (69, _)] (Kn.cons rfl (Kn.cons rfl (Kn.nil))) ?_
    refine awp_cond rfl (fun h18 => ?_) (fun h18 => ?_)
    · have hgt : most < K.length := by simp at h18; omega
      refine awp_seq_region (fun Z hZ => ?_)
      refine sx_assign rfl rfl ?_
      refine sx_assign rfl rfl ?_
      refine sx_nil (hZ _ _ ?_)
      refine awp_forget [(6, _), (7, _)] (Kn.cons rfl (Kn.cons rfl (Kn.nil))) ?_
      refine awp_ret ?_
      repeat (with_reducible refine nx_then_ret ?_)
      exact nx_ret2h [] rfl rfl rfl (HLe.sub (List.nil_sublist _)) (.inr ⟨hgt, rfl, rfl⟩)
    have hle : K.length ≤ most := by simp at h18; omega
    refine awp_skip ?_
    with_reducible refine nx_normal ?_
    refine awp_seq_region (fun Z hZ => ?_)
    refine sx_move rfl rfl ?_
    refine sx_assign rfl rfl ?_
    refine sx_assign rfl rfl ?_
    refine sx_nil (hZ _ _ ?_)
    refine awp_forget [(6, _), (7, _)] (Kn.cons rfl (Kn.cons rfl (Kn.nil))) ?_
    refine awp_ret ?_
    exact nx_ret2h _ rfl rfl rfl ((HLe.sub (List.sublist_append_right (roE A (icells O)) _)).trans (HLe.drop 1 rfl)) (.inl ⟨hle, _, rfl, hv, rfl⟩)
end Go.Proofs.Ytmebmkkllhnmlaa

namespace Go.Proofs.Ytmebmkkllhnmlaa
open Go.RowKit
set_option linter.unusedVariables false
set_option linter.unusedSimpArgs false
set_option maxRecDepth 100000
/-- The nearest tile over a tile that a chart has. -/
def aboveQ (O : List It) : Nat → Nat → Nat → Option (Nat × Nat × Nat)
  | 0, x, y => if hasT O 0 x y then some (0, x, y) else none
  | z + 1, x, y => if hasT O (z + 1) x y then some (z + 1, x, y) else aboveQ O z (x / 2) (y / 2)
theorem above_has {O : List It} : ∀ {z x y : Nat}, hasT O z x y = true → aboveQ O z x y = some (z, x, y)
  | 0, x, y, h => by rw [aboveQ, if_pos h]
  | z + 1, x, y, h => by rw [aboveQ, if_pos h]
theorem above_none {O : List It} {x y : Nat} (h : hasT O 0 x y = false) : aboveQ O 0 x y = none := by rw [aboveQ, h]; rfl
theorem above_up {O : List It} {z x y : Nat} (h : hasT O (z + 1) x y = false) : aboveQ O (z + 1) x y = aboveQ O z (x / 2) (y / 2) := by rw [aboveQ, h]; rfl
def aboveI (O : List It) (z x y : Int) : Option (Nat × Nat × Nat) := if placeE z x y = 0 then aboveQ O z.toNat x.toNat y.toNat else none
def abT (r : Option (Nat × Nat × Nat)) : Value := match r with
  | some (z, x, y) => tval (z : Nat) (x : Nat) (y : Nat)
  | none => tval 0 0 0
def abS (O : List It) (r : Option (Nat × Nat × Nat)) : List UInt8 := match r with
  | some (z, x, y) => cGet (base4 z + hp z x y) O
  | none => []
def abV (O : List It) (r : Option (Nat × Nat × Nat)) : Value := .tuple #[abT r, .string (str (abS O r)), .bool r.isSome]
theorem place_nat {z x y : Int} (h : placeE z x y = 0) : ∃ n a b : Nat, z = n ∧ x = a ∧ y = b ∧ n ≤ 26 ∧ a < 2 ^ n ∧ b < 2 ^ n := by
  rcases place_ways z x y with h1 | ⟨n, rfl, hn, h1⟩ | h1
  · rw [(place_e2 h1 x y).1] at h
    exact absurd h (by decide)
  · rw [(place_e8 hn h1).1] at h
    exact absurd h (by decide)
  · exact h1
theorem xabove_no (A : Option Addr) (c : Nat) (O : List It) (z x y : Int) (h : placeE z x y ≠ 0) :
    Fn Try.prog 13 [chV A O.length c, tval z x y] (roE A (icells O)) fun v _ => v = abV O none := by
  have hid := tID_fn z x y
  obtain ⟨e, he⟩ : ∃ e, placeE z x y = e := ⟨_, rfl⟩
  rw [he] at hid h
  refine Fn.enter (N := 36) Try.func13 rfl (by kernel_rfl) rfl (fun w0 => ?_)

  refine awp_seq_region (fun Z hZ => ?_)
  refine sx_box rfl rfl rfl (fun g1 => ?_)
  refine sx_box rfl rfl rfl (fun g2 => ?_)
  refine sx_alloc tyZ39 rfl (fun g3 => ?_)
  refine sx_assign rfl rfl ?_
  refine sx_assign rfl rfl ?_
  refine sx_nil (hZ _ _ ?_)
  refine awp_forget [(2, _), (3, _), (4, _)] (Kn.cons rfl (Kn.cons rfl (Kn.cons rfl (Kn.nil)))) ?_

  refine awp_block ?_
  refine awp_loop (ι := Unit) (fun _ => [(2, ptr g1 0), (3, ptr g2 0), (4, ptr g3 0)]) (fun _ => [.own g3 39 (tcells 0 0 0), .own g2 39 (tcells z x y)]) (fun _ => True) (fun _ => 0) () trivial (Kn.cons rfl (Kn.cons rfl (Kn.cons rfl Kn.nil))) (HLe.sub (.cons_cons _ (.cons_cons _ (List.nil_sublist _)))) ?_
  rintro ⟨⟩ -

  refine awp_block ?_
  refine awp_seq_region (fun Z hZ => ?_)
  refine sx_loadA 1 rfl rfl tyA39 tyS39 (by first | (simp only [List.length_cons, List.length_nil, Nat.reduceAdd, Nat.zero_add, Nat.add_zero]; first | done | rfl) | rfl) (by first | (simp only [List.take_succ_cons, List.take_zero, List.drop_succ_cons, List.drop_zero, List.cons_append, List.nil_append, List.append_nil, List.length_cons, List.length_nil, Nat.reduceAdd, Nat.zero_add, Nat.add_zero, Value.cells, wrV]; first | done | rfl) | rfl) rfl ?_
  refine sx_callP (hid) rfl rfl ?_
  refine sx_move rfl rfl ?_
  refine sx_extract rfl rfl rfl ?_
  refine sx_extract rfl rfl rfl ?_
  refine sx_assign rfl rfl ?_
  refine sx_assign rfl rfl ?_
  refine sx_nil (hZ _ _ ?_)
  refine awp_forget [(2, _), (3, _), (4, _), (7, _), (8, _)] (Kn.cons rfl (Kn.cons rfl (Kn.cons rfl (Kn.cons rfl (Kn.cons rfl (Kn.nil)))))) ?_
  refine awp_seq ?_
  refine awp_seq_region (fun Z hZ => ?_)
  refine sx_move rfl rfl ?_
  refine sx_neq rfl rfl rfl ?_
  refine sx_nil (hZ _ _ ?_)
  refine awp_forget [(2, _), (3, _), (4, _), (7, _), (17, _)] (Kn.cons rfl (Kn.cons rfl (Kn.cons rfl (Kn.cons rfl (Kn.cons rfl (Kn.nil)))))) ?_
  refine awp_cond rfl (fun h2 => ?_) (fun h2 => ?_)
  · refine awp_seq_region (fun Z hZ => ?_)
    refine sx_build tyZ39 tyP39 rfl rfl (by first | (simp only [List.take_succ_cons, List.take_zero, List.drop_succ_cons, List.drop_zero, List.cons_append, List.nil_append, List.append_nil, List.length_cons, List.length_nil, Nat.reduceAdd, Nat.zero_add, Nat.add_zero, Value.cells, wrV, zrep_one, List.replicate_succ, List.replicate_zero, Nat.reduceMul, Nat.zero_mul]; first | done | rfl) | rfl) rfl ?_
    refine sx_store 0 rfl rfl rfl tyS39 (by first | (simp only [Value.cells]; first | done | rfl) | rfl) rfl rfl (by first | (simp only [List.length_cons, List.length_nil, Nat.reduceAdd, Nat.zero_add, Nat.add_zero]; first | done | rfl) | rfl) (by first | (simp only [List.take_succ_cons, List.take_zero, List.drop_succ_cons, List.drop_zero, List.cons_append, List.nil_append, List.append_nil, List.length_cons, List.length_nil, Nat.reduceAdd, Nat.zero_add, Nat.add_zero, Value.cells, wrV]; first | done | rfl) | rfl) (by first | (simp only [List.set_cons_succ, List.set_cons_zero]; first | done | rfl) | rfl) ?_
    refine sx_assign rfl rfl ?_
    refine sx_assign rfl rfl ?_
    refine sx_nil (hZ _ _ ?_)
    refine awp_forget [(4, _), (5, _), (6, _)] (Kn.cons rfl (Kn.cons rfl (Kn.cons rfl (Kn.nil)))) ?_
    refine awp_ret ?_
    repeat (with_reducible (first | refine nx_then_ret ?_ | refine nx_block_ret ?_))
    exact nx_ret3 rfl (ResOk.cell 0 rfl rfl tyA39 tyS39 rfl) rfl rfl rfl
  exact absurd (by simpa using h2) h
theorem xabove_fn (A : Option Addr) (c : Nat) (O : List It) (hA : SlIn A O.length c) (hok : ChOk O) (z a b : Nat) (hz : z ≤ 26) (ha : a < 2 ^ z) (hb : b < 2 ^ z) :
    Fn Try.prog 13 [chV A O.length c, tval (z : Nat) a b] (roE A (icells O)) fun v _ => v = abV O (aboveQ O z a b) := by
  obtain ⟨R, hR⟩ : ∃ R, aboveQ O z a b = R := ⟨_, rfl⟩
  rw [hR]
  refine Fn.enter (N := 36) Try.func13 rfl (by kernel_rfl) rfl (fun w0 => ?_)

  refine awp_seq_region (fun Z hZ => ?_)
  refine sx_box rfl rfl rfl (fun g1 => ?_)
  refine sx_box rfl rfl rfl (fun g2 => ?_)
  refine sx_alloc tyZ39 rfl (fun g3 => ?_)
  refine sx_assign rfl rfl ?_
  refine sx_assign rfl rfl ?_
  refine sx_nil (hZ _ _ ?_)
  refine awp_forget [(2, _), (3, _), (4, _)] (Kn.cons rfl (Kn.cons rfl (Kn.cons rfl (Kn.nil)))) ?_

  refine awp_block ?_
  refine awp_loop (ι := Nat × Nat × Nat) (fun _ => [(2, ptr g1 0), (3, ptr g2 0), (4, ptr g3 0)]) (fun t => .own g3 39 (tcells 0 0 0) :: .own g2 39 (tcells (t.1 : Nat) (t.2.1 : Nat) (t.2.2 : Nat)) :: .own g1 29 [.slice A O.length c] :: roE A (icells O)) (fun t => t.1 ≤ 26 ∧ t.2.1 < 2 ^ t.1 ∧ t.2.2 < 2 ^ t.1 ∧ aboveQ O t.1 t.2.1 t.2.2 = R) (fun t => t.1) (z, a, b) ⟨hz, ha, hb, hR⟩ (Kn.cons rfl (Kn.cons rfl (Kn.cons rfl Kn.nil))) (HLe.refl _) ?_
  clear hz ha hb hR
  rintro ⟨z, a, b⟩ ⟨hz, ha, hb, hR⟩
  replace hz : z ≤ 26 := hz
  replace ha : a < 2 ^ z := ha
  replace hb : b < 2 ^ z := hb
  replace hR : aboveQ O z a b = R := hR
  refine awp_heap (.own g3 39 (tcells 0 0 0) :: .own g2 39 (tcells (z : Nat) (a : Nat) (b : Nat)) :: .own g1 29 [.slice A O.length c] :: roE A (icells O)) (HLe.refl _) ?_
  have hid := tID_fn (z : Nat) a b
  rw [(place_e0 hz ha hb).1, id_0 hz ha hb] at hid

  refine awp_block ?_
  refine awp_seq_region (fun Z hZ => ?_)
  refine sx_loadA 1 rfl rfl tyA39 tyS39 (by first | (simp only [List.length_cons, List.length_nil, Nat.reduceAdd, Nat.zero_add, Nat.add_zero]; first | done | rfl) | rfl) (by first | (simp only [List.take_succ_cons, List.take_zero, List.drop_succ_cons, List.drop_zero, List.cons_append, List.nil_append, List.append_nil, List.length_cons, List.length_nil, Nat.reduceAdd, Nat.zero_add, Nat.add_zero, Value.cells, wrV]; first | done | rfl) | rfl) rfl ?_
  refine sx_callP (hid) rfl rfl ?_
  refine sx_move rfl rfl ?_
  refine sx_extract rfl rfl rfl ?_
  refine sx_extract rfl rfl rfl ?_
  refine sx_assign rfl rfl ?_
  refine sx_assign rfl rfl ?_
  refine sx_nil (hZ _ _ ?_)
  refine awp_forget [(2, _), (3, _), (4, _), (7, _), (8, _)] (Kn.cons rfl (Kn.cons rfl (Kn.cons rfl (Kn.cons rfl (Kn.cons rfl (Kn.nil)))))) ?_
  refine awp_seq ?_
  refine awp_seq_region (fun Z hZ => ?_)
  refine sx_move rfl rfl ?_
  refine sx_neq rfl rfl rfl ?_
  refine sx_nil (hZ _ _ ?_)
  refine awp_forget [(2, _), (3, _), (4, _), (7, _), (17, _)] (Kn.cons rfl (Kn.cons rfl (Kn.cons rfl (Kn.cons rfl (Kn.cons rfl (Kn.nil)))))) ?_
  refine awp_cond rfl (fun h2 => ?_) (fun h2 => ?_)
  · cases h2
  refine awp_skip ?_
  with_reducible refine nx_normal ?_
  refine awp_seq ?_
  refine awp_seq_region (fun Z hZ => ?_)
  refine sx_loadA 2 rfl rfl tyA29 tyS29 (by first | (simp only [List.length_cons, List.length_nil, Nat.reduceAdd, Nat.zero_add, Nat.add_zero]; first | done | rfl) | rfl) (by first | (simp only [List.take_succ_cons, List.take_zero, List.drop_succ_cons, List.drop_zero, List.cons_append, List.nil_append, List.append_nil, List.length_cons, List.length_nil, Nat.reduceAdd, Nat.zero_add, Nat.add_zero, Value.cells, wrV]; first | done | rfl) | rfl) rfl ?_
  refine sx_move rfl rfl ?_
  refine sx_cget O (base4 z + hp z a b) hA (.cons _ (.cons _ (.cons _ (List.Sublist.refl _)))) hok rfl rfl ?_
  refine sx_move rfl rfl ?_
  refine sx_extract rfl rfl rfl ?_
  refine sx_extract rfl rfl rfl ?_
  refine sx_assign rfl rfl ?_
  refine sx_assign rfl rfl ?_
  refine sx_nil (hZ _ _ ?_)
  refine awp_forget [(2, _), (3, _), (4, _), (9, _), (10, _)] (Kn.cons rfl (Kn.cons rfl (Kn.cons rfl (Kn.cons rfl (Kn.cons rfl (Kn.nil)))))) ?_
  refine awp_seq_region (fun Z hZ => ?_)
  refine sx_move rfl rfl ?_
  refine sx_nil (hZ _ _ ?_)
  refine awp_forget [(2, _), (3, _), (4, _), (9, _), (25, _)] (Kn.cons rfl (Kn.cons rfl (Kn.cons rfl (Kn.cons rfl (Kn.cons rfl (Kn.nil)))))) ?_
  refine awp_cond rfl (fun h5 => ?_) (fun h5 => ?_)
  · have hh : hasT O z a b = true := h5
    rw [above_has hh] at hR
    subst hR
    refine awp_seq_region (fun Z hZ => ?_)
    refine sx_loadA 1 rfl rfl tyA39 tyS39 (by first | (simp only [List.length_cons, List.length_nil, Nat.reduceAdd, Nat.zero_add, Nat.add_zero]; first | done | rfl) | rfl) (by first | (simp only [List.take_succ_cons, List.take_zero, List.drop_succ_cons, List.drop_zero, List.cons_append, List.nil_append, List.append_nil, List.length_cons, List.length_nil, Nat.reduceAdd, Nat.zero_add, Nat.add_zero, Value.cells, wrV]; first | done | rfl) | rfl) rfl ?_
    refine sx_move rfl rfl ?_
    refine sx_store 0 rfl rfl rfl tyS39 (by first | (simp only [Value.cells]; first | done | rfl) | rfl) rfl rfl (by first | (simp only [List.length_cons, List.length_nil, Nat.reduceAdd, Nat.zero_add, Nat.add_zero]; first | done | rfl) | rfl) (by first | (simp only [List.take_succ_cons, List.take_zero, List.drop_succ_cons, List.drop_zero, List.cons_append, List.nil_append, List.append_nil, List.length_cons, List.length_nil, Nat.reduceAdd, Nat.zero_add, Nat.add_zero, Value.cells, wrV]; first | done | rfl) | rfl) (by first | (simp only [List.set_cons_succ, List.set_cons_zero]; first | done | rfl) | rfl) ?_
    refine sx_assign rfl rfl ?_
    refine sx_assign rfl rfl ?_
    refine sx_nil (hZ _ _ ?_)
    refine awp_forget [(4, _), (5, _), (6, _)] (Kn.cons rfl (Kn.cons rfl (Kn.cons rfl (Kn.nil)))) ?_
    refine awp_ret ?_
    repeat (with_reducible (first | refine nx_then_ret ?_ | refine nx_block_ret ?_))
    exact nx_ret3 rfl (ResOk.cell 0 rfl rfl tyA39 tyS39 rfl) rfl rfl rfl
  have hh : hasT O z a b = false := h5
  refine awp_skip ?_
  with_reducible refine nx_normal ?_
  rcases Nat.eq_zero_or_pos z with h0 | h0
  · subst h0
    obtain rfl : a = 0 := by simp at ha; omega
    obtain rfl : b = 0 := by simp at hb; omega
    rw [above_none hh] at hR
    subst hR
    refine awp_seq_region (fun Z hZ => ?_)
    refine sx_loadA 1 rfl rfl tyA39 tyS39 (by first | (simp only [List.length_cons, List.length_nil, Nat.reduceAdd, Nat.zero_add, Nat.add_zero]; first | done | rfl) | rfl) (by first | (simp only [List.take_succ_cons, List.take_zero, List.drop_succ_cons, List.drop_zero, List.cons_append, List.nil_append, List.append_nil, List.length_cons, List.length_nil, Nat.reduceAdd, Nat.zero_add, Nat.add_zero, Value.cells, wrV]; first | done | rfl) | rfl) rfl ?_
    refine sx_callP (tUp_top) rfl rfl ?_
    refine sx_move rfl rfl ?_
    refine sx_extract rfl rfl rfl ?_
    refine sx_extract rfl rfl rfl ?_
    refine sx_store 1 rfl rfl rfl tyS39 (by first | (simp only [Value.cells]; first | done | rfl) | rfl) rfl rfl (by first | (simp only [List.length_cons, List.length_nil, Nat.reduceAdd, Nat.zero_add, Nat.add_zero]; first | done | rfl) | rfl) (by first | (simp only [List.take_succ_cons, List.take_zero, List.drop_succ_cons, List.drop_zero, List.cons_append, List.nil_append, List.append_nil, List.length_cons, List.length_nil, Nat.reduceAdd, Nat.zero_add, Nat.add_zero, Value.cells, wrV]; first | done | rfl) | rfl) (by first | (simp only [List.set_cons_succ, List.set_cons_zero]; first | done | rfl) | rfl) ?_
    refine sx_assign rfl rfl ?_
    refine sx_nil (hZ _ _ ?_)
    refine awp_forget [(2, _), (3, _), (4, _), (8, _)] (Kn.cons rfl (Kn.cons rfl (Kn.cons rfl (Kn.cons rfl (Kn.nil))))) ?_
    refine awp_seq_region (fun Z hZ => ?_)
    refine sx_move rfl rfl ?_
    refine sx_neq rfl rfl rfl ?_
    refine sx_nil (hZ _ _ ?_)
    refine awp_forget [(2, _), (3, _), (4, _), (34, _)] (Kn.cons rfl (Kn.cons rfl (Kn.cons rfl (Kn.cons rfl (Kn.nil))))) ?_
    refine awp_cond rfl (fun h8 => ?_) (fun h8 => ?_)
    · refine awp_seq_region (fun Z hZ => ?_)
      refine sx_build tyZ39 tyP39 rfl rfl (by first | (simp only [List.take_succ_cons, List.take_zero, List.drop_succ_cons, List.drop_zero, List.cons_append, List.nil_append, List.append_nil, List.length_cons, List.length_nil, Nat.reduceAdd, Nat.zero_add, Nat.add_zero, Value.cells, wrV, zrep_one, List.replicate_succ, List.replicate_zero, Nat.reduceMul, Nat.zero_mul]; first | done | rfl) | rfl) rfl ?_
      refine sx_store 0 rfl rfl rfl tyS39 (by first | (simp only [Value.cells]; first | done | rfl) | rfl) rfl rfl (by first | (simp only [List.length_cons, List.length_nil, Nat.reduceAdd, Nat.zero_add, Nat.add_zero]; first | done | rfl) | rfl) (by first | (simp only [List.take_succ_cons, List.take_zero, List.drop_succ_cons, List.drop_zero, List.cons_append, List.nil_append, List.append_nil, List.length_cons, List.length_nil, Nat.reduceAdd, Nat.zero_add, Nat.add_zero, Value.cells, wrV]; first | done | rfl) | rfl) (by first | (simp only [List.set_cons_succ, List.set_cons_zero]; first | done | rfl) | rfl) ?_
      refine sx_assign rfl rfl ?_
      refine sx_assign rfl rfl ?_
      refine sx_nil (hZ _ _ ?_)
      refine awp_forget [(4, _), (5, _), (6, _)] (Kn.cons rfl (Kn.cons rfl (Kn.cons rfl (Kn.nil)))) ?_
      refine awp_ret ?_
      repeat (with_reducible (first | refine nx_then_ret ?_ | refine nx_block_ret ?_))
      exact nx_ret3 rfl (ResOk.cell 0 rfl rfl tyA39 tyS39 rfl) rfl rfl rfl
    cases h8
  · obtain ⟨n, rfl⟩ : ∃ n, z = n + 1 := ⟨z - 1, by omega⟩
    have hup := tUp_fn n a b hz ha hb
    rw [above_up hh] at hR
    have ha' := ha
    have hb' := hb
    rw [Nat.pow_succ] at ha' hb'
    refine awp_seq_region (fun Z hZ => ?_)
    refine sx_loadA 1 rfl rfl tyA39 tyS39 (by first | (simp only [List.length_cons, List.length_nil, Nat.reduceAdd, Nat.zero_add, Nat.add_zero]; first | done | rfl) | rfl) (by first | (simp only [List.take_succ_cons, List.take_zero, List.drop_succ_cons, List.drop_zero, List.cons_append, List.nil_append, List.append_nil, List.length_cons, List.length_nil, Nat.reduceAdd, Nat.zero_add, Nat.add_zero, Value.cells, wrV]; first | done | rfl) | rfl) rfl ?_
    refine sx_callP (hup) rfl rfl ?_
    refine sx_move rfl rfl ?_
    refine sx_extract rfl rfl rfl ?_
    refine sx_extract rfl rfl rfl ?_
    refine sx_store 1 rfl rfl rfl tyS39 (by first | (simp only [Value.cells]; first | done | rfl) | rfl) rfl rfl (by first | (simp only [List.length_cons, List.length_nil, Nat.reduceAdd, Nat.zero_add, Nat.add_zero]; first | done | rfl) | rfl) (by first | (simp only [List.take_succ_cons, List.take_zero, List.drop_succ_cons, List.drop_zero, List.cons_append, List.nil_append, List.append_nil, List.length_cons, List.length_nil, Nat.reduceAdd, Nat.zero_add, Nat.add_zero, Value.cells, wrV]; first | done | rfl) | rfl) (by first | (simp only [List.set_cons_succ, List.set_cons_zero]; first | done | rfl) | rfl) ?_
    refine sx_assign rfl rfl ?_
    refine sx_nil (hZ _ _ ?_)
    refine awp_forget [(2, _), (3, _), (4, _), (8, _)] (Kn.cons rfl (Kn.cons rfl (Kn.cons rfl (Kn.cons rfl (Kn.nil))))) ?_
    refine awp_seq_region (fun Z hZ => ?_)
    refine sx_move rfl rfl ?_
    refine sx_neq rfl rfl rfl ?_
    refine sx_nil (hZ _ _ ?_)
    refine awp_forget [(2, _), (3, _), (4, _), (34, _)] (Kn.cons rfl (Kn.cons rfl (Kn.cons rfl (Kn.cons rfl (Kn.nil))))) ?_
    refine awp_cond rfl (fun h8 => ?_) (fun h8 => ?_)
    · cases h8
    refine awp_skip ?_
    refine nx_block_normal ?_
    exact nx_round (n, a / 2, b / 2) ⟨by show n ≤ 26; omega, by show a / 2 < 2 ^ n; omega, by show b / 2 < 2 ^ n; omega, hR⟩ (Nat.lt_succ_self n) (Kn.cons rfl (Kn.cons rfl (Kn.cons rfl Kn.nil))) (HLe.refl _)
theorem xabove_any (A : Option Addr) (c : Nat) (O : List It) (hA : SlIn A O.length c) (hok : ChOk O) (z x y : Int) :
    Fn Try.prog 13 [chV A O.length c, tval z x y] (roE A (icells O)) fun v _ => v = abV O (aboveI O z x y) := by
  by_cases h : placeE z x y = 0
  · obtain ⟨n, a, b, rfl, rfl, rfl, hn, ha, hb⟩ := place_nat h
    unfold aboveI
    rw [if_pos h]
    exact xabove_fn A c O hA hok n a b hn ha hb
  · unfold aboveI
    rw [if_neg h]
    exact xabove_no A c O z x y h
theorem rabove_no (A : Option Addr) (c : Nat) (O : List It) (z x y : Int) (h : placeE z x y ≠ 0) :
    Fn Try.prog 14 [.slice A O.length c, tval z x y] (roE A (icells O)) fun v _ => v = abV O none := by
  have hid := rID_fn z x y
  obtain ⟨e, he⟩ : ∃ e, placeE z x y = e := ⟨_, rfl⟩
  rw [he] at hid h
  refine Fn.enter (N := 38) Try.func14 rfl (by kernel_rfl) rfl (fun w0 => ?_)

  refine awp_seq_region (fun Z hZ => ?_)
  refine sx_box rfl rfl rfl (fun g1 => ?_)
  refine sx_alloc tyZ24 rfl (fun g2 => ?_)
  refine sx_assign rfl rfl ?_
  refine sx_assign rfl rfl ?_
  refine sx_nil (hZ _ _ ?_)
  refine awp_forget [(0, _), (3, _), (4, _)] (Kn.cons rfl (Kn.cons rfl (Kn.cons rfl (Kn.nil)))) ?_

  refine awp_seq_region (fun Z hZ => ?_)
  refine sx_loadA 1 rfl rfl tyA24 tyS24 (by first | (simp only [List.length_cons, List.length_nil, Nat.reduceAdd, Nat.zero_add, Nat.add_zero]; first | done | rfl) | rfl) (by first | (simp only [List.take_succ_cons, List.take_zero, List.drop_succ_cons, List.drop_zero, List.cons_append, List.nil_append, List.append_nil, List.length_cons, List.length_nil, Nat.reduceAdd, Nat.zero_add, Nat.add_zero, Value.cells, wrV]; first | done | rfl) | rfl) rfl ?_
  refine sx_callP (hid) rfl rfl ?_
  refine sx_move rfl rfl ?_
  refine sx_extract rfl rfl rfl ?_
  refine sx_extract rfl rfl rfl ?_
  refine sx_assign rfl rfl ?_
  refine sx_assign rfl rfl ?_
  refine sx_nil (hZ _ _ ?_)
  refine awp_forget [(0, _), (3, _), (4, _), (7, _), (8, _)] (Kn.cons rfl (Kn.cons rfl (Kn.cons rfl (Kn.cons rfl (Kn.cons rfl (Kn.nil)))))) ?_
  refine awp_seq (awp_block ?_)
  refine awp_loop (ι := Unit) (fun _ => [(4, ptr g2 0), (8, iq e)]) (fun _ => [.own g2 24 (tcells 0 0 0)]) (fun _ => True) (fun _ => 0) () trivial (Kn.cons rfl (Kn.cons rfl Kn.nil)) (HLe.sub (.cons_cons _ (List.nil_sublist _))) ?_
  rintro ⟨⟩ -

  refine awp_seq ?_
  refine awp_seq_region (fun Z hZ => ?_)
  refine sx_move rfl rfl ?_
  refine sx_eql rfl rfl rfl ?_
  refine sx_nil (hZ _ _ ?_)
  refine awp_cond rfl (fun h2 => ?_) (fun h2 => ?_)
  · exact absurd (by simpa using h2) h
  refine awp_exit ?_
  repeat (with_reducible refine nx_then_exit ?_)
  with_reducible refine nx_block_exit ?_
  with_reducible refine nx_normal ?_
  refine awp_seq_region (fun Z hZ => ?_)
  refine sx_build tyZ24 tyP24 rfl rfl (by first | (simp only [List.take_succ_cons, List.take_zero, List.drop_succ_cons, List.drop_zero, List.cons_append, List.nil_append, List.append_nil, List.length_cons, List.length_nil, Nat.reduceAdd, Nat.zero_add, Nat.add_zero, Value.cells, wrV, zrep_one, List.replicate_succ, List.replicate_zero, Nat.reduceMul, Nat.zero_mul]; first | done | rfl) | rfl) rfl ?_
  first | refine sx_store 0 rfl rfl rfl tyS24 (by first | (simp only [Value.cells]; first | done | rfl) | rfl) rfl rfl (by first | (simp only [List.length_cons, List.length_nil, Nat.reduceAdd, Nat.zero_add, Nat.add_zero]; first | done | rfl) | rfl) (by first | (simp only [List.take_succ_cons, List.take_zero, List.drop_succ_cons, List.drop_zero, List.cons_append, List.nil_append, List.append_nil, List.length_cons, List.length_nil, Nat.reduceAdd, Nat.zero_add, Nat.add_zero, Value.cells, wrV]; first | done | rfl) | rfl) (by first | (simp only [List.set_cons_succ, List.set_cons_zero]; first | done | rfl) | rfl) ?_
  refine sx_assign rfl rfl ?_
  refine sx_assign rfl rfl ?_
  refine sx_nil (hZ _ _ ?_)
  refine awp_forget [(4, _), (5, _), (6, _)] (Kn.cons rfl (Kn.cons rfl (Kn.cons rfl (Kn.nil)))) ?_
  refine awp_ret ?_
  exact nx_ret3 rfl (ResOk.cell 0 rfl rfl tyA24 tyS24 rfl) rfl rfl rfl
theorem rabove_fn (A : Option Addr) (c : Nat) (O : List It) (hA : SlIn A O.length c) (hok : ChOk O) (z a b : Nat) (hz : z ≤ 26) (ha : a < 2 ^ z) (hb : b < 2 ^ z) :
    Fn Try.prog 14 [.slice A O.length c, tval (z : Nat) a b] (roE A (icells O)) fun v _ => v = abV O (aboveQ O z a b) := by
  obtain ⟨R, hR⟩ : ∃ R, aboveQ O z a b = R := ⟨_, rfl⟩
  rw [hR]
  have hid := rID_fn (z : Nat) a b
  rw [(place_e0 hz ha hb).1, id_0 hz ha hb] at hid
  refine Fn.enter (N := 38) Try.func14 rfl (by kernel_rfl) rfl (fun w0 => ?_)

  refine awp_seq_region (fun Z hZ => ?_)
  refine sx_box rfl rfl rfl (fun g1 => ?_)
  refine sx_alloc tyZ24 rfl (fun g2 => ?_)
  refine sx_assign rfl rfl ?_
  refine sx_assign rfl rfl ?_
  refine sx_nil (hZ _ _ ?_)
  refine awp_forget [(0, _), (3, _), (4, _)] (Kn.cons rfl (Kn.cons rfl (Kn.cons rfl (Kn.nil)))) ?_

  refine awp_seq_region (fun Z hZ => ?_)
  refine sx_loadA 1 rfl rfl tyA24 tyS24 (by first | (simp only [List.length_cons, List.length_nil, Nat.reduceAdd, Nat.zero_add, Nat.add_zero]; first | done | rfl) | rfl) (by first | (simp only [List.take_succ_cons, List.take_zero, List.drop_succ_cons, List.drop_zero, List.cons_append, List.nil_append, List.append_nil, List.length_cons, List.length_nil, Nat.reduceAdd, Nat.zero_add, Nat.add_zero, Value.cells, wrV]; first | done | rfl) | rfl) rfl ?_
  refine sx_callP (hid) rfl rfl ?_
  refine sx_move rfl rfl ?_
  refine sx_extract rfl rfl rfl ?_
  refine sx_extract rfl rfl rfl ?_
  refine sx_assign rfl rfl ?_
  refine sx_assign rfl rfl ?_
  refine sx_nil (hZ _ _ ?_)
  refine awp_forget [(0, _), (3, _), (4, _), (7, _), (8, _)] (Kn.cons rfl (Kn.cons rfl (Kn.cons rfl (Kn.cons rfl (Kn.cons rfl (Kn.nil)))))) ?_
  refine awp_seq (awp_block ?_)
  refine awp_loop (ι := (Nat × Nat × Nat) × Nat × Int) (fun t => [(0, .slice A O.length c), (3, ptr g1 0), (4, ptr g2 0), (7, uq t.2.1), (8, iq t.2.2)]) (fun t => .own g2 24 (tcells 0 0 0) :: .own g1 24 (tcells (t.1.1 : Nat) (t.1.2.1 : Nat) (t.1.2.2 : Nat)) :: roE A (icells O)) (fun t => (t.2.2 = 0 ∧ t.1.1 ≤ 26 ∧ t.1.2.1 < 2 ^ t.1.1 ∧ t.1.2.2 < 2 ^ t.1.1 ∧ t.2.1 = base4 t.1.1 + hp t.1.1 t.1.2.1 t.1.2.2 ∧ aboveQ O t.1.1 t.1.2.1 t.1.2.2 = R) ∨ (t.2.2 = 6 ∧ R = none)) (fun t => if t.2.2 = 0 then t.1.1 + 1 else 0) ((z, a, b), base4 z + hp z a b, 0) (.inl ⟨rfl, hz, ha, hb, rfl, hR⟩) (Kn.cons rfl (Kn.cons rfl (Kn.cons rfl (Kn.cons rfl (Kn.cons rfl Kn.nil))))) (HLe.refl _) ?_
  clear hz ha hb hR hid
  rintro ⟨⟨z, a, b⟩, k, e⟩ hI
  replace hI : (e = 0 ∧ z ≤ 26 ∧ a < 2 ^ z ∧ b < 2 ^ z ∧ k = base4 z + hp z a b ∧ aboveQ O z a b = R) ∨ (e = 6 ∧ R = none) := hI
  refine awp_forget [(0, .slice A O.length c), (3, ptr g1 0), (4, ptr g2 0), (7, uq k), (8, iq e)] (Kn.cons rfl (Kn.cons rfl (Kn.cons rfl (Kn.cons rfl (Kn.cons rfl Kn.nil))))) ?_
  refine awp_heap (.own g2 24 (tcells 0 0 0) :: .own g1 24 (tcells (z : Nat) (a : Nat) (b : Nat)) :: roE A (icells O)) (HLe.refl _) ?_

  refine awp_seq ?_
  refine awp_seq_region (fun Z hZ => ?_)
  refine sx_move rfl rfl ?_
  refine sx_eql rfl rfl rfl ?_
  refine sx_nil (hZ _ _ ?_)
  refine awp_forget [(0, _), (3, _), (4, _), (7, _), (17, _)] (Kn.cons rfl (Kn.cons rfl (Kn.cons rfl (Kn.cons rfl (Kn.cons rfl (Kn.nil)))))) ?_
  refine awp_cond rfl (fun h2 => ?_) (fun h2 => ?_)
  · have he : e = 0 := by simpa using h2
    obtain ⟨-, hz, ha, hb, rfl, hR⟩ : e = 0 ∧ z ≤ 26 ∧ a < 2 ^ z ∧ b < 2 ^ z ∧ k = base4 z + hp z a b ∧ aboveQ O z a b = R := by
      rcases hI with hI | ⟨h1, _⟩
      · exact hI
      · omega
    refine awp_skip ?_
    with_reducible refine nx_normal ?_
    refine awp_block ?_
    refine awp_seq ?_
    refine awp_seq_region (fun Z hZ => ?_)
    refine sx_move rfl rfl ?_
    refine sx_move rfl rfl ?_
    refine sx_riget O (base4 z + hp z a b) hA (.cons _ (.cons _ (List.Sublist.refl _))) hok rfl rfl ?_
    refine sx_move rfl rfl ?_
    refine sx_extract rfl rfl rfl ?_
    refine sx_extract rfl rfl rfl ?_
    refine sx_assign rfl rfl ?_
    refine sx_assign rfl rfl ?_
    refine sx_nil (hZ _ _ ?_)
    refine awp_forget [(0, _), (3, _), (4, _), (9, _), (10, _)] (Kn.cons rfl (Kn.cons rfl (Kn.cons rfl (Kn.cons rfl (Kn.cons rfl (Kn.nil)))))) ?_
    refine awp_seq_region (fun Z hZ => ?_)
    refine sx_move rfl rfl ?_
    refine sx_nil (hZ _ _ ?_)
    refine awp_forget [(0, _), (3, _), (4, _), (9, _), (24, _)] (Kn.cons rfl (Kn.cons rfl (Kn.cons rfl (Kn.cons rfl (Kn.cons rfl (Kn.nil)))))) ?_
    refine awp_cond rfl (fun h5 => ?_) (fun h5 => ?_)
    · have hh : hasT O z a b = true := h5
      rw [above_has hh] at hR
      subst hR
      refine awp_seq_region (fun Z hZ => ?_)
      refine sx_loadA 1 rfl rfl tyA24 tyS24 (by first | (simp only [List.length_cons, List.length_nil, Nat.reduceAdd, Nat.zero_add, Nat.add_zero]; first | done | rfl) | rfl) (by first | (simp only [List.take_succ_cons, List.take_zero, List.drop_succ_cons, List.drop_zero, List.cons_append, List.nil_append, List.append_nil, List.length_cons, List.length_nil, Nat.reduceAdd, Nat.zero_add, Nat.add_zero, Value.cells, wrV]; first | done | rfl) | rfl) rfl ?_
      refine sx_move rfl rfl ?_
      refine sx_store 0 rfl rfl rfl tyS24 (by first | (simp only [Value.cells]; first | done | rfl) | rfl) rfl rfl (by first | (simp only [List.length_cons, List.length_nil, Nat.reduceAdd, Nat.zero_add, Nat.add_zero]; first | done | rfl) | rfl) (by first | (simp only [List.take_succ_cons, List.take_zero, List.drop_succ_cons, List.drop_zero, List.cons_append, List.nil_append, List.append_nil, List.length_cons, List.length_nil, Nat.reduceAdd, Nat.zero_add, Nat.add_zero, Value.cells, wrV]; first | done | rfl) | rfl) (by first | (simp only [List.set_cons_succ, List.set_cons_zero]; first | done | rfl) | rfl) ?_
      refine sx_assign rfl rfl ?_
      refine sx_assign rfl rfl ?_
      refine sx_nil (hZ _ _ ?_)
      refine awp_forget [(4, _), (5, _), (6, _)] (Kn.cons rfl (Kn.cons rfl (Kn.cons rfl (Kn.nil)))) ?_
      refine awp_ret ?_
      repeat (with_reducible (first | refine nx_then_ret ?_ | refine nx_block_ret ?_))
      exact nx_ret3 rfl (ResOk.cell 0 rfl rfl tyA24 tyS24 rfl) rfl rfl rfl
    have hh : hasT O z a b = false := h5
    refine awp_skip ?_
    with_reducible refine nx_normal ?_
    rcases Nat.eq_zero_or_pos z with h0 | h0
    · subst h0
      obtain rfl : a = 0 := by simp at ha; omega
      obtain rfl : b = 0 := by simp at hb; omega
      rw [above_none hh] at hR
      have hid0 := rID_fn 0 0 0
      obtain ⟨e0, he0⟩ : ∃ e, placeE 0 0 0 = e := ⟨_, rfl⟩
      rw [he0] at hid0
      refine awp_seq_region (fun Z hZ => ?_)
      refine sx_loadA 1 rfl rfl tyA24 tyS24 (by first | (simp only [List.length_cons, List.length_nil, Nat.reduceAdd, Nat.zero_add, Nat.add_zero]; first | done | rfl) | rfl) (by first | (simp only [List.take_succ_cons, List.take_zero, List.drop_succ_cons, List.drop_zero, List.cons_append, List.nil_append, List.append_nil, List.length_cons, List.length_nil, Nat.reduceAdd, Nat.zero_add, Nat.add_zero, Value.cells, wrV]; first | done | rfl) | rfl) rfl ?_
      refine sx_callP (rUp_top) rfl rfl ?_
      refine sx_move rfl rfl ?_
      refine sx_extract rfl rfl rfl ?_
      refine sx_extract rfl rfl rfl ?_
      refine sx_store 1 rfl rfl rfl tyS24 (by first | (simp only [Value.cells]; first | done | rfl) | rfl) rfl rfl (by first | (simp only [List.length_cons, List.length_nil, Nat.reduceAdd, Nat.zero_add, Nat.add_zero]; first | done | rfl) | rfl) (by first | (simp only [List.take_succ_cons, List.take_zero, List.drop_succ_cons, List.drop_zero, List.cons_append, List.nil_append, List.append_nil, List.length_cons, List.length_nil, Nat.reduceAdd, Nat.zero_add, Nat.add_zero, Value.cells, wrV]; first | done | rfl) | rfl) (by first | (simp only [List.set_cons_succ, List.set_cons_zero]; first | done | rfl) | rfl) ?_
      refine sx_assign rfl rfl ?_
      refine sx_nil (hZ _ _ ?_)
      refine awp_forget [(0, _), (3, _), (4, _), (8, _)] (Kn.cons rfl (Kn.cons rfl (Kn.cons rfl (Kn.cons rfl (Kn.nil))))) ?_
      refine awp_region (fun Z hZ => ?_)
      refine sx_loadA 1 rfl rfl tyA24 tyS24 (by first | (simp only [List.length_cons, List.length_nil, Nat.reduceAdd, Nat.zero_add, Nat.add_zero]; first | done | rfl) | rfl) (by first | (simp only [List.take_succ_cons, List.take_zero, List.drop_succ_cons, List.drop_zero, List.cons_append, List.nil_append, List.append_nil, List.length_cons, List.length_nil, Nat.reduceAdd, Nat.zero_add, Nat.add_zero, Value.cells, wrV]; first | done | rfl) | rfl) rfl ?_
      refine sx_callP (hid0) rfl rfl ?_
      refine sx_move rfl rfl ?_
      refine sx_extract rfl rfl rfl ?_
      refine sx_extract rfl rfl rfl ?_
      refine sx_assign rfl rfl ?_
      refine sx_nil (hZ _ _ ?_)
      refine nx_forget [(0, _), (3, _), (4, _), (7, _), (8, _)] (Kn.cons rfl (Kn.cons rfl (Kn.cons rfl (Kn.cons rfl (Kn.cons rfl (Kn.nil)))))) ?_
      refine nx_block_normal ?_
      exact nx_round ((0, 0, 0), idV 0 0 0, 6) (.inr ⟨rfl, hR.symm⟩) (by show 0 < if e = 0 then 0 + 1 else 0; rw [if_pos he]; exact Nat.one_pos) (Kn.cons rfl (Kn.cons rfl (Kn.cons rfl (Kn.cons rfl (Kn.cons rfl Kn.nil))))) (HLe.refl _)
    · obtain ⟨n, rfl⟩ : ∃ n, z = n + 1 := ⟨z - 1, by omega⟩
      have hup := rUp_fn n a b hz ha hb
      rw [above_up hh] at hR
      have ha' := ha
      have hb' := hb
      rw [Nat.pow_succ] at ha' hb'
      have hid1 := rID_fn (n : Nat) (a / 2 : Nat) (b / 2 : Nat)
      rw [(place_e0 (show n ≤ 26 by omega) (show a / 2 < 2 ^ n by omega) (show b / 2 < 2 ^ n by omega)).1, id_0 (show n ≤ 26 by omega) (show a / 2 < 2 ^ n by omega) (show b / 2 < 2 ^ n by omega)] at hid1
      refine awp_seq_region (fun Z hZ => ?_)
      refine sx_loadA 1 rfl rfl tyA24 tyS24 (by first | (simp only [List.length_cons, List.length_nil, Nat.reduceAdd, Nat.zero_add, Nat.add_zero]; first | done | rfl) | rfl) (by first | (simp only [List.take_succ_cons, List.take_zero, List.drop_succ_cons, List.drop_zero, List.cons_append, List.nil_append, List.append_nil, List.length_cons, List.length_nil, Nat.reduceAdd, Nat.zero_add, Nat.add_zero, Value.cells, wrV]; first | done | rfl) | rfl) rfl ?_
      refine sx_callP (hup) rfl rfl ?_
      refine sx_move rfl rfl ?_
      refine sx_extract rfl rfl rfl ?_
      refine sx_extract rfl rfl rfl ?_
      refine sx_store 1 rfl rfl rfl tyS24 (by first | (simp only [Value.cells]; first | done | rfl) | rfl) rfl rfl (by first | (simp only [List.length_cons, List.length_nil, Nat.reduceAdd, Nat.zero_add, Nat.add_zero]; first | done | rfl) | rfl) (by first | (simp only [List.take_succ_cons, List.take_zero, List.drop_succ_cons, List.drop_zero, List.cons_append, List.nil_append, List.append_nil, List.length_cons, List.length_nil, Nat.reduceAdd, Nat.zero_add, Nat.add_zero, Value.cells, wrV]; first | done | rfl) | rfl) (by first | (simp only [List.set_cons_succ, List.set_cons_zero]; first | done | rfl) | rfl) ?_
      refine sx_assign rfl rfl ?_
      refine sx_nil (hZ _ _ ?_)
      refine awp_forget [(0, _), (3, _), (4, _), (8, _)] (Kn.cons rfl (Kn.cons rfl (Kn.cons rfl (Kn.cons rfl (Kn.nil))))) ?_
      refine awp_region (fun Z hZ => ?_)
      refine sx_loadA 1 rfl rfl tyA24 tyS24 (by first | (simp only [List.length_cons, List.length_nil, Nat.reduceAdd, Nat.zero_add, Nat.add_zero]; first | done | rfl) | rfl) (by first | (simp only [List.take_succ_cons, List.take_zero, List.drop_succ_cons, List.drop_zero, List.cons_append, List.nil_append, List.append_nil, List.length_cons, List.length_nil, Nat.reduceAdd, Nat.zero_add, Nat.add_zero, Value.cells, wrV]; first | done | rfl) | rfl) rfl ?_
      refine sx_callP (hid1) rfl rfl ?_
      refine sx_move rfl rfl ?_
      refine sx_extract rfl rfl rfl ?_
      refine sx_extract rfl rfl rfl ?_
      refine sx_assign rfl rfl ?_
      refine sx_nil (hZ _ _ ?_)
      refine nx_forget [(0, _), (3, _), (4, _), (7, _), (8, _)] (Kn.cons rfl (Kn.cons rfl (Kn.cons rfl (Kn.cons rfl (Kn.cons rfl (Kn.nil)))))) ?_
      refine nx_block_normal ?_
      exact nx_round ((n, a / 2, b / 2), base4 n + hp n (a / 2) (b / 2), 0) (.inl ⟨rfl, by show n ≤ 26; omega, by show a / 2 < 2 ^ n; omega, by show b / 2 < 2 ^ n; omega, rfl, hR⟩) (by show n + 1 < if e = 0 then n + 1 + 1 else 0; rw [if_pos he]; exact Nat.lt_succ_self _) (Kn.cons rfl (Kn.cons rfl (Kn.cons rfl (Kn.cons rfl (Kn.cons rfl Kn.nil))))) (HLe.refl _)
  · have he : e ≠ 0 := by simpa using h2
    obtain ⟨-, rfl⟩ : e = 6 ∧ R = none := by
      rcases hI with ⟨h1, _⟩ | hI
      · omega
      · exact hI
    refine awp_exit ?_
    repeat (with_reducible refine nx_then_exit ?_)
    with_reducible refine nx_block_exit ?_
    with_reducible refine nx_normal ?_
    refine awp_seq_region (fun Z hZ => ?_)
    refine sx_build tyZ24 tyP24 rfl rfl (by first | (simp only [List.take_succ_cons, List.take_zero, List.drop_succ_cons, List.drop_zero, List.cons_append, List.nil_append, List.append_nil, List.length_cons, List.length_nil, Nat.reduceAdd, Nat.zero_add, Nat.add_zero, Value.cells, wrV, zrep_one, List.replicate_succ, List.replicate_zero, Nat.reduceMul, Nat.zero_mul]; first | done | rfl) | rfl) rfl ?_
    refine sx_store 0 rfl rfl rfl tyS24 (by first | (simp only [Value.cells]; first | done | rfl) | rfl) rfl rfl (by first | (simp only [List.length_cons, List.length_nil, Nat.reduceAdd, Nat.zero_add, Nat.add_zero]; first | done | rfl) | rfl) (by first | (simp only [List.take_succ_cons, List.take_zero, List.drop_succ_cons, List.drop_zero, List.cons_append, List.nil_append, List.append_nil, List.length_cons, List.length_nil, Nat.reduceAdd, Nat.zero_add, Nat.add_zero, Value.cells, wrV]; first | done | rfl) | rfl) (by first | (simp only [List.set_cons_succ, List.set_cons_zero]; first | done | rfl) | rfl) ?_
    refine sx_assign rfl rfl ?_
    refine sx_assign rfl rfl ?_
    refine sx_nil (hZ _ _ ?_)
    refine awp_forget [(4, _), (5, _), (6, _)] (Kn.cons rfl (Kn.cons rfl (Kn.cons rfl (Kn.nil)))) ?_
    refine awp_ret ?_
    exact nx_ret3 rfl (ResOk.cell 0 rfl rfl tyA24 tyS24 rfl) rfl rfl rfl
theorem rabove_any (A : Option Addr) (c : Nat) (O : List It) (hA : SlIn A O.length c) (hok : ChOk O) (z x y : Int) :
    Fn Try.prog 14 [.slice A O.length c, tval z x y] (roE A (icells O)) fun v _ => v = abV O (aboveI O z x y) := by
  by_cases h : placeE z x y = 0
  · obtain ⟨n, a, b, rfl, rfl, rfl, hn, ha, hb⟩ := place_nat h
    unfold aboveI
    rw [if_pos h]
    exact rabove_fn A c O hA hok n a b hn ha hb
  · unfold aboveI
    rw [if_neg h]
    exact rabove_no A c O z x y h
end Go.Proofs.Ytmebmkkllhnmlaa

namespace Go.Proofs.Ytmebmkkllhnmlaa
open Go.RowKit
set_option linter.unusedVariables false
set_option linter.unusedSimpArgs false
set_option maxRecDepth 100000
def tiq (z x y z' x' y' : Int) : Bool := (z == z') && ((x == x') && ((y == y') && true))
theorem tiq_self (z x y : Int) : tiq z x y z x y = true := by simp [tiq]
theorem tiq_iff {z x y z' x' y' : Int} : tiq z x y z' x' y' = true ↔ z = z' ∧ x = x' ∧ y = y' := by simp [tiq]
theorem ti_eqC (z x y z' x' y' : Int) : EqV Try.prog 10000 39 (tval z x y) (tval z' x' y') (tiq z x y z' x' y') :=
  EqV.struct Try.underlying39 (by kernel_rfl) (.cons rfl tyA3 tyS3 rfl rfl (EqV.int Try.underlying3) (.cons rfl tyA3 tyS3 rfl rfl (EqV.int Try.underlying3) (.cons rfl tyA3 tyS3 rfl rfl (EqV.int Try.underlying3) .nil)))
theorem ti_eqR (z x y z' x' y' : Int) : EqV Try.prog 10000 24 (tval z x y) (tval z' x' y') (tiq z x y z' x' y') :=
  EqV.struct Try.underlying24 (by kernel_rfl) (.cons rfl tyA3 tyS3 rfl rfl (EqV.int Try.underlying3) (.cons rfl tyA3 tyS3 rfl rfl (EqV.int Try.underlying3) (.cons rfl tyA3 tyS3 rfl rfl (EqV.int Try.underlying3) .nil)))
theorem guard_tiC : Program.eqGuardType Try.prog Try.prog.depth 39 = false := by kernel_rfl
theorem guard_tiR : Program.eqGuardType Try.prog Try.prog.depth 24 = false := by kernel_rfl
def rcq (r s : Rc) : Bool := (r.z == s.z) && ((r.a == s.a) && ((r.b == s.b) && ((r.c == s.c) && ((r.d == s.d) && true))))
theorem rcq_self (r : Rc) : rcq r r = true := by simp [rcq]
theorem rc_eqC (r s : Rc) : EqV Try.prog 10000 33 r.val s.val (rcq r s) :=
  EqV.struct Try.underlying33 (by kernel_rfl) (.cons rfl tyA3 tyS3 rfl rfl (EqV.int Try.underlying3) (.cons rfl tyA3 tyS3 rfl rfl (EqV.int Try.underlying3) (.cons rfl tyA3 tyS3 rfl rfl (EqV.int Try.underlying3) (.cons rfl tyA3 tyS3 rfl rfl (EqV.int Try.underlying3) (.cons rfl tyA3 tyS3 rfl rfl (EqV.int Try.underlying3) .nil)))))
theorem rc_eqR (r s : Rc) : EqV Try.prog 10000 36 r.val s.val (rcq r s) :=
  EqV.struct Try.underlying36 (by kernel_rfl) (.cons rfl tyA3 tyS3 rfl rfl (EqV.int Try.underlying3) (.cons rfl tyA3 tyS3 rfl rfl (EqV.int Try.underlying3) (.cons rfl tyA3 tyS3 rfl rfl (EqV.int Try.underlying3) (.cons rfl tyA3 tyS3 rfl rfl (EqV.int Try.underlying3) (.cons rfl tyA3 tyS3 rfl rfl (EqV.int Try.underlying3) .nil)))))
theorem guard_rcC : Program.eqGuardType Try.prog Try.prog.depth 33 = false := by kernel_rfl
theorem guard_rcR : Program.eqGuardType Try.prog Try.prog.depth 36 = false := by kernel_rfl
theorem FnX.monoH {P : Program} {f : FuncId} {vs : List Value} {H : Heap} {R R' : Value → Heap → Prop} (h : Fn P f vs H R) (hr : ∀ v H', R v H' → ∃ H2, H2.Sublist H' ∧ R' v H2) : Fn P f vs H R' :=
  ⟨h.1, fun w hw => (h.2 w hw).mono fun e w' he => by
    obtain ⟨v, H', h1, h2, h3⟩ := he
    obtain ⟨H2, hs, h4⟩ := hr v H' h2
    exact ⟨v, H2, h1, h4, h3.sub hs⟩⟩
section
variable {N : Frm} {w0 : World} {Wr : List Nat} {ops : Array Oper} {rest : List Oper} {fr : Fr} {H : Heap} {Z : Fr → Heap → Prop} {d ty : Nat} {pos : String} {after : Array Edge} {xs : List Operand} {ts : Array TypeId}
/-- A row of one's own as memory that is only read. -/
theorem sx_toRoX {l : List Oper} {v : Value} {n : Nat} {t : TypeId} {size : Nat} {ys : List Value} (frf : Value → Fr) (hv : RowOk v n) (h : ∀ A' c', SlIn A' n c' → sx Try.prog N w0 Wr ops l (frf (.slice A' n c')) (H ++ roE A' ys) Z) :
    sx Try.prog N w0 Wr ops l (frf v) (rowE v t size ys ++ H) Z := by
  obtain ⟨A1, c1, rfl, h1, hle⟩ := hv.ro
  refine sx_pure (fun w hw => row_cap hv (fun x hx => List.mem_append_left _ hx) hw) (fun hc => ?_)
  exact sx_heap (H ++ roE A1 ys) ((HLe.swap _ _).trans (hle [] H t size ys)) (h A1 c1 ⟨h1, hc.1, row_none hv⟩)
/-- A call that makes a row out of what it reads. -/
theorem sx_callIX {f : FuncId} {vs : List Value} {e : TypeId} {size n : Nat} {ys : List Value} (mk : Value → Value) (U : Heap) (hc : Fn Try.prog f vs U fun v H' => ∃ u, v = mk u ∧ RowOk u n ∧ H' = rowE u e size ys) (hx : evs fr xs = some vs) (hU : HLe U H) (hro : Ro U) (hN : Nat.ble (d + 1) N.n = true)
    (h : ∀ A c, SlIn A n c → sx Try.prog N w0 Wr ops rest ((d, mk (.slice A n c)) :: fr) (H ++ roE A ys) Z) : sx Try.prog N w0 Wr ops ((⟨some d, .call { callee := .value (.func f), args := xs.toArray, argTypes := ts }, ty, pos, after, none⟩ : Oper) :: rest) fr H Z :=
  sx_callVU U hc hx hU hro hN (by
    rintro v H' ⟨u, rfl, hu, rfl⟩
    rw [rowE_flt]
    exact sx_toRoX (fun u => (d, mk u) :: fr) hu h)
end
def TellsT (f : FuncId) (t : TypeId) (vs : List Value) (U : Heap) (Z : Nat) (K : List (Nat × Nat)) (e : Int) : Prop := Fn Try.prog f vs U fun v H' => ∃ u, v = .tuple #[u, iq e] ∧ RowOk u K.length ∧ H' = rowE u t 3 (tlc Z K)
theorem tellsT_nil {f : FuncId} {t : TypeId} {vs : List Value} {U : Heap} {e : Int} (Z : Nat) (h : Fn Try.prog f vs U fun v _ => v = .tuple #[.slice none 0 0, iq e]) : TellsT f t vs U Z [] e :=
  FnX.monoH h fun v H' hv => ⟨[], List.nil_sublist _, _, hv, RowOk.nil, rfl⟩
/-- What is told of a rectangle's missing tiles. -/
def HoR (O : List It) (r : Rc) (most : Int) (Z : Nat) (K : List (Nat × Nat)) (e : Int) : Prop :=
  (e ≠ 0 ∧ K = [] ∧ (((most < 1 ∨ 4096 < most) ∧ e = 2) ∨ (1 ≤ most ∧ most ≤ 4096 ∧ chkE r ≠ 0 ∧ e = chkE r) ∨ (1 ≤ most ∧ most ≤ 4096 ∧ chkE r = 0 ∧ e = 21 ∧ most + (cntR r O : Nat) < (sizeQ r : Nat)))) ∨
    (e = 0 ∧ ∃ a b c d, r.Ok Z a b c d ∧ K = holesQ O Z a b c d ∧ (K.length : Int) ≤ most ∧ 1 ≤ most ∧ most ≤ 4096)
theorem holes_both (A : Option Addr) (c0 : Nat) (O : List It) (hA : SlIn A O.length c0) (hok : ChOk O) (r : Rc) (most : Int) :
    ∃ Z K e, HoR O r most Z K e ∧ TellsT 22 39 [chV A O.length c0, r.val, iq most] (roE A (icells O)) Z K e ∧
      (∀ A2 c2, SlIn A2 O.length c2 → sizeQ r ≤ 300 → TellsT 23 24 [.slice A2 O.length c2, r.val, iq most] (roE A2 (icells O)) Z K e) := by
  by_cases hm : most < 1 ∨ 4096 < most
  · exact ⟨0, [], 2, .inl ⟨by decide, rfl, .inl ⟨hm, rfl⟩⟩, tellsT_nil 0 (xholes_arg A O.length c0 r most _ hm), fun A2 c2 _ _ => tellsT_nil 0 (rholes_arg A2 O.length c2 r most _ hm)⟩
  have h1 : 1 ≤ most := by omega
  have h2 : most ≤ 4096 := by omega
  by_cases hc : chkE r = 0
  · obtain ⟨Z, a, b, c, d, hr⟩ := chk_ok hc
    obtain ⟨m, rfl⟩ : ∃ m : Nat, most = m := ⟨most.toNat, by omega⟩
    have hl := holes_len hr hok
    by_cases hk : (holesQ O Z a b c d).length ≤ m
    · refine ⟨Z, holesQ O Z a b c d, 0, .inr ⟨rfl, a, b, c, d, hr, rfl, by omega, h1, h2⟩, ?_, fun A2 c2 hA2 hs => ?_⟩
      · exact FnX.monoH (xholes_fn A c0 O hA hok hr m (by omega) (by omega)) fun v H' hv => by
          rcases hv with ⟨_, hv⟩ | ⟨h3, _⟩
          · exact ⟨H', List.Sublist.refl _, hv⟩
          · omega
      · rw [hr.size] at hs
        exact FnX.monoH (rholes_fn A2 c2 O hA2 hok hr m (by omega) (by omega) hs) fun v H' hv => by
          rcases hv with ⟨_, hv⟩ | ⟨h3, _⟩
          · exact ⟨H', List.Sublist.refl _, hv⟩
          · omega
    · refine ⟨Z, [], 21, .inl ⟨by decide, rfl, .inr (.inr ⟨h1, h2, hc, rfl, by rw [hr.size]; omega⟩)⟩, ?_, fun A2 c2 hA2 hs => ?_⟩
      · exact tellsT_nil Z (FnX.monoH (xholes_fn A c0 O hA hok hr m (by omega) (by omega)) fun v H' hv => by
          rcases hv with ⟨h3, _⟩ | ⟨_, hv, _⟩
          · omega
          · exact ⟨H', List.Sublist.refl _, hv⟩)
      · rw [hr.size] at hs
        exact tellsT_nil Z (FnX.monoH (rholes_fn A2 c2 O hA2 hok hr m (by omega) (by omega) hs) fun v H' hv => by
          rcases hv with ⟨h3, _⟩ | ⟨_, hv, _⟩
          · omega
          · exact ⟨H', List.Sublist.refl _, hv⟩)
  · exact ⟨0, [], chkE r, .inl ⟨hc, rfl, .inr (.inl ⟨h1, h2, hc, rfl⟩)⟩, tellsT_nil 0 (xholes_chk A O.length c0 r most _ h1 h2 hc), fun A2 c2 _ _ => tellsT_nil 0 (rholes_chk A2 O.length c2 r most _ h1 h2 hc)⟩
theorem HoR.len {O : List It} {r : Rc} {most : Int} {Z : Nat} {K : List (Nat × Nat)} {e : Int} (h : HoR O r most Z K e) : K.length ≤ 4096 := by
  rcases h with ⟨_, rfl, _⟩ | ⟨_, a, b, c, d, _, _, h1, _, h2⟩
  · exact Nat.zero_le _
  · omega
theorem tback_fn (A : Option Addr) (c Zm : Nat) (K : List (Nat × Nat)) (hA : SlIn A K.length c) (hK : K.length ≤ 100000) :
    Fn Try.prog 25 [.slice A K.length c] (roE A (tlc Zm K)) fun v H' => ∃ u, v = u ∧ RowOk u K.length ∧ H' = rowE u 24 3 (tlc Zm K) := by
  refine Fn.enter (N := 19) Try.func25 rfl (by kernel_rfl) rfl (fun w0 => ?_)

  refine awp_seq_region (fun Z hZ => ?_)
  refine sx_assign rfl rfl ?_
  refine sx_nil (hZ _ _ ?_)
  refine awp_forget [(0, _)] (Kn.cons rfl (Kn.nil)) ?_
  refine awp_seq_region (fun Z hZ => ?_)
  refine sx_assign rfl rfl ?_
  refine sx_nil (hZ _ _ ?_)
  refine awp_forget [(0, _), (3, _)] (Kn.cons rfl (Kn.cons rfl (Kn.nil))) ?_
  refine awp_seq ?_
  refine awp_seq_region (fun Z hZ => ?_)
  refine sx_assign rfl rfl ?_
  refine sx_nil (hZ _ _ ?_)
  refine awp_forget [(0, _), (3, _), (4, _)] (Kn.cons rfl (Kn.cons rfl (Kn.cons rfl (Kn.nil)))) ?_
  refine awp_block ?_
  refine awp_loop (ι := Nat × Value) (fun i => [(0, .slice A K.length c), (3, i.2), (4, iq (i.1 : Nat))]) (fun i => roE A (tlc Zm K) ++ rowE i.2 24 3 (tlc Zm (K.take i.1)))
    (fun i => i.1 ≤ K.length ∧ RowOk i.2 i.1) (fun i => K.length - i.1) (0, .slice none 0 0) ⟨by simp, RowOk.nil⟩ (Kn.cons rfl (Kn.cons rfl (Kn.cons rfl Kn.nil))) (by simp [rowE]; exact HLe.refl _) ?_
  rintro ⟨i, v⟩ ⟨hi, hv⟩
  simp only at hi hv
  refine awp_seq ?_
  refine awp_seq_region (fun Z hZ => ?_)
  refine sx_move rfl rfl ?_
  refine sx_move rfl rfl ?_
  refine sx_len Try.underlying54 rfl rfl ?_
  refine sx_lss rfl rfl rfl ?_
  refine sx_nil (hZ _ _ ?_)
  refine awp_forget [(0, _), (3, _), (4, _), (8, _)] (Kn.cons rfl (Kn.cons rfl (Kn.cons rfl (Kn.cons rfl (Kn.nil))))) ?_
  refine awp_cond rfl (fun h => ?_) (fun h => ?_)
  · have hlt : i < K.length := by simpa using h
    obtain ⟨x, hx⟩ : ∃ x, K[i]? = some x := ⟨_, List.getElem?_eq_getElem hlt⟩
    obtain ⟨g, o, rfl⟩ := hA.arg (by omega)
    refine awp_heap (.ro g o (tlc Zm K) :: rowE v 24 3 (tlc Zm (K.take i))) (HLe.refl _) ?_
    refine awp_skip ?_
    with_reducible refine nx_normal ?_
    refine awp_seq (awp_block ?_)

    refine awp_region (fun Z hZ => ?_)
    refine sx_move rfl rfl ?_
    refine sx_move rfl rfl ?_
    refine sx_move rfl rfl ?_
    refine sx_indexAddr (o + i * 3) Try.underlying54 tyS39 rfl rfl (by omega) (by simp) rfl ?_
    refine sx_loadRo 0 rfl rfl (i * 3) rfl tyA39 tyS39 (tlc_all hx) rfl ?_
    refine sx_buildSlice Try.underlying58 tyS24 tyZ24 rfl rfl rfl rfl (by first | (simp only [List.take_succ_cons, List.take_zero, List.drop_succ_cons, List.drop_zero, List.cons_append, List.nil_append, List.append_nil, List.length_cons, List.length_nil, Nat.reduceAdd, Nat.zero_add, Nat.add_zero, Value.cells, wrV, zrep_one, List.replicate_succ, List.replicate_zero, Nat.reduceMul, Nat.zero_mul]; first | done | rfl) | rfl) rfl (fun g1 => ?_)
    refine sx_appendE (xs := tlc Zm (K.take i)) [_, _] elemTR rfl hv (by rw [tlc_len, List.length_take]; omega) rfl (fun w hw => rd_own (i := 0) (xs := tcells (Zm : Nat) (x.1 : Nat) (x.2 : Nat)) rfl rfl hw) rfl (by show _ ≤ 9223372036854775807; omega) (by omega) (HLe.refl _) rfl (fun v2 hv2 => ?_)
    refine sx_assign rfl rfl ?_
    refine sx_nil (hZ _ _ ?_)
    refine nx_forget [(0, _), (3, _), (4, _)] (Kn.cons rfl (Kn.cons rfl (Kn.cons rfl (Kn.nil)))) ?_
    repeat (with_reducible refine nx_block_normal ?_)
    with_reducible refine nx_normal ?_
    refine awp_region (fun Z hZ => ?_)
    refine sx_move rfl rfl ?_
    refine sx_add rfl rfl ((i + 1 : Nat) : Int) (by rw [IntWalk.i64_in _ (by omega)]; omega) rfl ?_
    refine sx_assign rfl rfl ?_
    refine sx_nil (hZ _ _ ?_)
    refine nx_forget [(0, _), (3, _), (4, _)] (Kn.cons rfl (Kn.cons rfl (Kn.cons rfl (Kn.nil)))) ?_
    refine nx_round (i + 1, v2) ⟨by show i + 1 ≤ _; omega, hv2⟩ (by simp; omega) (Kn.cons rfl (Kn.cons rfl (Kn.cons rfl Kn.nil))) ?_
    simp only
    rw [show tlc Zm (K.take (i + 1)) = tlc Zm (K.take i) ++ tcells (Zm : Nat) (x.1 : Nat) (x.2 : Nat) from fm_take hx]
    exact HLe.drop 1 rfl
  · refine awp_exit ?_
    repeat (with_reducible refine nx_then_exit ?_)
    with_reducible refine nx_block_exit ?_
    with_reducible refine nx_normal ?_
    have hke : i = K.length := by simp at h; omega
    subst hke
    rw [List.take_length]
    refine awp_seq_region (fun Z hZ => ?_)
    refine sx_move rfl rfl ?_
    refine sx_assign rfl rfl ?_
    refine sx_nil (hZ _ _ ?_)
    refine awp_forget [(2, _)] (Kn.cons rfl (Kn.nil)) ?_
    refine awp_ret ?_
    exact nx_ret1h _ rfl rfl (HLe.sub (List.sublist_append_right _ _)) ⟨_, rfl, hv, rfl⟩
theorem tsame_fn (A : Option Addr) (c : Nat) (B : Option Addr) (d Zm : Nat) (K : List (Nat × Nat)) (hA : SlIn A K.length c) (hB : SlIn B K.length d) (hK : K.length ≤ 100000) :
    Fn Try.prog 24 [.slice A K.length c, .slice B K.length d] (roE A (tlc Zm K) ++ roE B (tlc Zm K)) fun v _ => v = .bool true := by
  refine Fn.enter (N := 26) Try.func24 rfl (by kernel_rfl) rfl (fun w0 => ?_)

  refine awp_seq_region (fun Z hZ => ?_)
  refine sx_assign rfl rfl ?_
  refine sx_nil (hZ _ _ ?_)
  refine awp_forget [(0, _), (1, _)] (Kn.cons rfl (Kn.cons rfl (Kn.nil))) ?_
  refine awp_seq ?_
  refine awp_seq_region (fun Z hZ => ?_)
  refine sx_move rfl rfl ?_
  refine sx_len Try.underlying58 rfl rfl ?_
  refine sx_move rfl rfl ?_
  refine sx_len Try.underlying58 rfl rfl ?_
  refine sx_neq rfl rfl rfl ?_
  refine sx_nil (hZ _ _ ?_)
  refine awp_forget [(0, _), (1, _), (10, _)] (Kn.cons rfl (Kn.cons rfl (Kn.cons rfl (Kn.nil)))) ?_
  refine awp_cond rfl (fun h1 => ?_) (fun h1 => ?_)
  · simp at h1
  refine awp_skip ?_
  with_reducible refine nx_normal ?_
  refine awp_seq ?_
  refine awp_seq_region (fun Z hZ => ?_)
  refine sx_assign rfl rfl ?_
  refine sx_nil (hZ _ _ ?_)
  refine awp_forget [(0, _), (1, _), (5, _)] (Kn.cons rfl (Kn.cons rfl (Kn.cons rfl (Kn.nil)))) ?_
  refine awp_block ?_
  refine awp_loop (ι := Nat) (fun k => [(0, .slice A K.length c), (1, .slice B K.length d), (5, iq (k : Nat))]) (fun _ => roE A (tlc Zm K) ++ roE B (tlc Zm K)) (fun k => k ≤ K.length) (fun k => K.length - k) 0 (Nat.zero_le _) (Kn.cons rfl (Kn.cons rfl (Kn.cons rfl Kn.nil))) (HLe.refl _) ?_
  intro k hk
  refine awp_seq ?_
  refine awp_seq_region (fun Z hZ => ?_)
  refine sx_move rfl rfl ?_
  refine sx_move rfl rfl ?_
  refine sx_len Try.underlying58 rfl rfl ?_
  refine sx_lss rfl rfl rfl ?_
  refine sx_nil (hZ _ _ ?_)
  refine awp_forget [(0, _), (1, _), (5, _), (14, _)] (Kn.cons rfl (Kn.cons rfl (Kn.cons rfl (Kn.cons rfl (Kn.nil))))) ?_
  refine awp_cond rfl (fun h => ?_) (fun h => ?_)
  · have hlt : k < K.length := by simpa using h
    obtain ⟨x, hx⟩ : ∃ x, K[k]? = some x := ⟨_, List.getElem?_eq_getElem hlt⟩
    obtain ⟨g, o, rfl⟩ := hA.arg (by omega)
    obtain ⟨g', o', rfl⟩ := hB.arg (by omega)
    refine awp_heap [.ro g o (tlc Zm K), .ro g' o' (tlc Zm K)] (HLe.refl _) ?_
    refine awp_skip ?_
    with_reducible refine nx_normal ?_
    refine awp_seq (awp_block ?_)

    refine awq_seq_region mixed (by kernel_rfl) (fun Z hZ => ?_)
    refine sq_move rfl rfl ?_
    refine sq_move rfl rfl ?_
    refine sq_indexAddr (o + k * 3) Try.underlying58 tyS24 rfl rfl (by omega) (by simp) rfl ?_
    refine sq_loadRo 0 rfl rfl (k * 3) rfl tyA24 tyS24 (tlc_all hx) rfl ?_
    refine sq_move rfl rfl ?_
    refine sq_move rfl rfl ?_
    refine sq_indexAddr (o' + k * 3) Try.underlying58 tyS24 rfl rfl (by omega) (by simp) rfl ?_
    refine sq_loadRo 1 rfl rfl (k * 3) rfl tyA24 tyS24 (tlc_all hx) rfl ?_
    refine sq_aneq (ti_eqR (Zm : Nat) (x.1 : Nat) (x.2 : Nat) (Zm : Nat) (x.1 : Nat) (x.2 : Nat)) guard_tiR rfl rfl rfl ?_
    rw [tiq_self]
    refine sq_nil (hZ _ _ ?_)
    refine awp_forget [(0, _), (1, _), (5, _), (25, _)] (Kn.cons rfl (Kn.cons rfl (Kn.cons rfl (Kn.cons rfl (Kn.nil))))) ?_
    refine awp_cond rfl (fun hb => ?_) (fun hb => ?_)
    · cases hb
    refine awp_skip ?_
    repeat (with_reducible refine nx_block_normal ?_)
    with_reducible refine nx_normal ?_
    refine awp_region (fun Z hZ => ?_)
    refine sx_move rfl rfl ?_
    refine sx_add rfl rfl ((k + 1 : Nat) : Int) (by rw [IntWalk.i64_in _ (by omega)]; omega) rfl ?_
    refine sx_assign rfl rfl ?_
    refine sx_nil (hZ _ _ ?_)
    refine nx_forget [(0, _), (1, _), (5, _)] (Kn.cons rfl (Kn.cons rfl (Kn.cons rfl (Kn.nil)))) ?_
    exact nx_round (k + 1) hlt (by omega) (Kn.cons rfl (Kn.cons rfl (Kn.cons rfl Kn.nil))) (HLe.refl _)
  · refine awp_exit ?_
    repeat (with_reducible refine nx_then_exit ?_)
    with_reducible refine nx_block_exit ?_
    with_reducible refine nx_normal ?_
    refine awp_seq_region (fun Z hZ => ?_)
    refine sx_assign rfl rfl ?_
    refine sx_nil (hZ _ _ ?_)
    refine awp_forget [(4, _)] (Kn.cons rfl (Kn.nil)) ?_
    refine awp_ret ?_
    exact nx_ret1 rfl rfl rfl
theorem sub45 (a b c d e : Ent) : List.Sublist [d] [a, b, c, d, e] := .cons _ (.cons _ (.cons _ (.cons_cons _ (List.nil_sublist _))))
def xwL : List It := [⟨1, [97]⟩, ⟨2, [98]⟩, ⟨5, [99]⟩]
theorem xw_of : ofQ xwL = 0 ∧ ofL xwL = xwL := ⟨by kernel_rfl, by kernel_rfl⟩
theorem xw_ok : ChOk xwL := by rw [← xw_of.2]; exact ofL_ok xwL
theorem xw_1 : arZ xwL 1 = ⟨⟨1, 0, 0, 0, 1⟩, 2⟩ := by kernel_rfl
theorem xw_3 : arZ xwL 3 = ar0 := by kernel_rfl
theorem xw_h : holesQ xwL 1 0 0 1 1 = [(1, 0), (1, 1)] := by kernel_rfl
theorem xw_b : (boxT xwL 27).length = 2 := by kernel_rfl
theorem xw_a : abV xwL (aboveQ xwL 3 1 2) = .tuple #[tval 1 0 0, .string (str [97]), .bool true] := by kernel_rfl
theorem xw_r : (Rc.mk 1 0 0 1 1).Ok 1 0 0 1 1 := ⟨rfl, by decide, by decide, by decide, by decide, by decide⟩
theorem roX1 (g o : Nat) (xs : List Value) : Ro [.ro g o xs] := fun e he => by rw [List.mem_singleton.1 he]; rfl
theorem xw_ho2 (A : Option Addr) (c : Nat) (hA : SlIn A xwL.length c) : TellsT 22 39 [chV A xwL.length c, (Rc.mk 1 0 0 1 1).val, iq 2] (roE A (icells xwL)) 1 [(1, 0), (1, 1)] 0 := by
  have h := xholes_fn A c xwL hA xw_ok xw_r 2 (by decide) (by decide)
  rw [xw_h] at h
  exact FnX.monoH h fun v H' hv => by
    rcases hv with ⟨_, hv⟩ | ⟨h3, _⟩
    · exact ⟨H', List.Sublist.refl _, hv⟩
    · exact absurd h3 (by decide)
theorem xw_ho1 (A : Option Addr) (c : Nat) (hA : SlIn A xwL.length c) : TellsT 22 39 [chV A xwL.length c, (Rc.mk 1 0 0 1 1).val, iq 1] (roE A (icells xwL)) 1 [] 21 := by
  have h := xholes_fn A c xwL hA xw_ok xw_r 1 (by decide) (by decide)
  rw [xw_h] at h
  exact tellsT_nil 1 (FnX.monoH h fun v H' hv => by
    rcases hv with ⟨h3, _⟩ | ⟨_, hv, _⟩
    · exact absurd h3 (by decide)
    · exact ⟨H', List.Sublist.refl _, hv⟩)
theorem x44wake_fn : Fn Try.prog 9 [] [] fun v _ => v = .bool true := by
  refine Fn.enter (N := 115) Try.func9 rfl (by kernel_rfl) rfl (fun w0 => ?_)

  refine awp_seq_region (fun Z hZ => ?_)
  refine sx_assign rfl rfl ?_
  refine sx_nil (hZ _ _ ?_)
  refine awp_forget [] (Kn.nil) ?_
  refine awp_seq_region (fun Z hZ => ?_)
  refine sx_build tyZ82 tyP82 rfl rfl (by first | (simp only [List.take_succ_cons, List.take_zero, List.drop_succ_cons, List.drop_zero, List.cons_append, List.nil_append, List.append_nil, List.length_cons, List.length_nil, Nat.reduceAdd, Nat.zero_add, Nat.add_zero, Value.cells, wrV, zrep_one, List.replicate_succ, List.replicate_zero, Nat.reduceMul, Nat.zero_mul]; first | done | rfl) | rfl) rfl ?_
  refine sx_build tyZ82 tyP82 rfl rfl (by first | (simp only [List.take_succ_cons, List.take_zero, List.drop_succ_cons, List.drop_zero, List.cons_append, List.nil_append, List.append_nil, List.length_cons, List.length_nil, Nat.reduceAdd, Nat.zero_add, Nat.add_zero, Value.cells, wrV, zrep_one, List.replicate_succ, List.replicate_zero, Nat.reduceMul, Nat.zero_mul]; first | done | rfl) | rfl) rfl ?_
  refine sx_build tyZ82 tyP82 rfl rfl (by first | (simp only [List.take_succ_cons, List.take_zero, List.drop_succ_cons, List.drop_zero, List.cons_append, List.nil_append, List.append_nil, List.length_cons, List.length_nil, Nat.reduceAdd, Nat.zero_add, Nat.add_zero, Value.cells, wrV, zrep_one, List.replicate_succ, List.replicate_zero, Nat.reduceMul, Nat.zero_mul]; first | done | rfl) | rfl) rfl ?_
  refine sx_buildSlice Try.underlying27 tyS82 tyZ82 rfl rfl rfl rfl (by first | (simp only [List.take_succ_cons, List.take_zero, List.drop_succ_cons, List.drop_zero, List.cons_append, List.nil_append, List.append_nil, List.length_cons, List.length_nil, Nat.reduceAdd, Nat.zero_add, Nat.add_zero, Value.cells, wrV, zrep_one, List.replicate_succ, List.replicate_zero, Nat.reduceMul, Nat.zero_mul]; first | done | rfl) | rfl) rfl (fun g1 => ?_)
  refine sx_heap [.ro g1 0 (icells xwL)] (HLe.toRo (cs := icells xwL) [] []) ?_
  refine sx_ofE xwL [.ro g1 0 (icells xwL)] (A := some ⟨g1, 0, none⟩) (c := 3) (fun _ => ⟨_, _, rfl⟩) (fun _ => rfl) (roX1 _ _ _) (List.Sublist.refl _) (by decide) rfl rfl (fun A1 c1 hA1 => ?_)
  rw [xw_of.2] at hA1
  rw [xw_of.1, xw_of.2]
  refine sx_move rfl rfl ?_
  refine sx_extract rfl rfl rfl ?_
  refine sx_extract rfl rfl rfl ?_
  refine sx_alloc tyZ29 rfl (fun g2 => ?_)
  refine sx_store 0 rfl rfl rfl tyS29 (by first | (simp only [Value.cells]; first | done | rfl) | rfl) rfl rfl (by first | (simp only [List.length_cons, List.length_nil, Nat.reduceAdd, Nat.zero_add, Nat.add_zero]; first | done | rfl) | rfl) (by first | (simp only [List.take_succ_cons, List.take_zero, List.drop_succ_cons, List.drop_zero, List.cons_append, List.nil_append, List.append_nil, List.length_cons, List.length_nil, Nat.reduceAdd, Nat.zero_add, Nat.add_zero, Value.cells, wrV]; first | done | rfl) | rfl) (by first | (simp only [List.set_cons_succ, List.set_cons_zero]; first | done | rfl) | rfl) ?_
  refine sx_assign rfl rfl ?_
  refine sx_nil (hZ _ _ ?_)
  refine awp_forget [(1, _)] (Kn.cons rfl (Kn.nil)) ?_
  obtain ⟨gl, ol, rfl⟩ := slIn_pos hA1 (by decide)
  have hb1 := xbox_fn _ c1 xwL hA1 xw_ok 1
  have hb3 := xbox_fn _ c1 xwL hA1 xw_ok 3
  have hf1 := xfull_fn _ c1 xwL hA1 xw_ok 1
  have hf3 := xfull_fn _ c1 xwL hA1 xw_ok 3
  have hc1 := xcount_fn _ c1 xwL hA1 xw_ok 1
  rw [xw_1] at hb1 hf1 hc1
  rw [xw_3] at hb3 hf3
  rw [show fullQx ⟨⟨1, 0, 0, 0, 1⟩, 2⟩ = true from by kernel_rfl] at hf1
  rw [show fullQx ar0 = false from by kernel_rfl] at hf3
  have hab := xabove_fn _ c1 xwL hA1 xw_ok 3 1 2 (by decide) (by decide) (by decide)
  rw [xw_a] at hab
  have hbs := xboxes_fn _ c1 xwL hA1 xw_ok
  rw [xw_b] at hbs
  obtain ⟨BX, hBX⟩ : ∃ B, boxT xwL 27 = B := ⟨_, rfl⟩
  rw [hBX] at hbs
  have hRo := roX1 gl ol (icells xwL)
  refine awp_heap [.own g2 29 [.slice (some ⟨gl, ol, none⟩) xwL.length c1], .ro gl ol (icells xwL)] (HLe.sub (.cons_cons _ (.cons _ (List.Sublist.refl _)))) ?_

  refine awp_seq_region (fun Z hZ => ?_)
  refine sx_loadA 0 rfl rfl tyA29 tyS29 (by first | (simp only [List.length_cons, List.length_nil, Nat.reduceAdd, Nat.zero_add, Nat.add_zero]; first | done | rfl) | rfl) (by first | (simp only [List.take_succ_cons, List.take_zero, List.drop_succ_cons, List.drop_zero, List.cons_append, List.nil_append, List.append_nil, List.length_cons, List.length_nil, Nat.reduceAdd, Nat.zero_add, Nat.add_zero, Value.cells, wrV]; first | done | rfl) | rfl) rfl ?_
  refine sx_callV [.ro gl ol (icells xwL)] hb1 rfl (HLe.drop 1 rfl) hRo rfl ?_
  refine sx_move rfl rfl ?_
  refine sx_extract rfl rfl rfl ?_
  refine sx_extract rfl rfl rfl ?_
  refine sx_alloc tyZ33 rfl (fun g3 => ?_)
  refine sx_store 0 rfl rfl rfl tyS33 (by first | (simp only [Value.cells]; first | done | rfl) | rfl) rfl rfl (by first | (simp only [List.length_cons, List.length_nil, Nat.reduceAdd, Nat.zero_add, Nat.add_zero]; first | done | rfl) | rfl) (by first | (simp only [List.take_succ_cons, List.take_zero, List.drop_succ_cons, List.drop_zero, List.cons_append, List.nil_append, List.append_nil, List.length_cons, List.length_nil, Nat.reduceAdd, Nat.zero_add, Nat.add_zero, Value.cells, wrV]; first | done | rfl) | rfl) (by first | (simp only [List.set_cons_succ, List.set_cons_zero]; first | done | rfl) | rfl) ?_
  refine sx_assign rfl rfl ?_
  refine sx_nil (hZ _ _ ?_)
  refine awp_forget [(1, _), (3, _), (4, _)] (Kn.cons rfl (Kn.cons rfl (Kn.cons rfl (Kn.nil)))) ?_
  refine awp_seq_region (fun Z hZ => ?_)
  refine sx_loadA 1 rfl rfl tyA29 tyS29 (by first | (simp only [List.length_cons, List.length_nil, Nat.reduceAdd, Nat.zero_add, Nat.add_zero]; first | done | rfl) | rfl) (by first | (simp only [List.take_succ_cons, List.take_zero, List.drop_succ_cons, List.drop_zero, List.cons_append, List.nil_append, List.append_nil, List.length_cons, List.length_nil, Nat.reduceAdd, Nat.zero_add, Nat.add_zero, Value.cells, wrV]; first | done | rfl) | rfl) rfl ?_
  refine sx_callV [.ro gl ol (icells xwL)] hb3 rfl (HLe.drop 2 rfl) hRo rfl ?_
  refine sx_move rfl rfl ?_
  refine sx_extract rfl rfl rfl ?_
  refine sx_extract rfl rfl rfl ?_
  refine sx_alloc tyZ33 rfl (fun g4 => ?_)
  refine sx_store 0 rfl rfl rfl tyS33 (by first | (simp only [Value.cells]; first | done | rfl) | rfl) rfl rfl (by first | (simp only [List.length_cons, List.length_nil, Nat.reduceAdd, Nat.zero_add, Nat.add_zero]; first | done | rfl) | rfl) (by first | (simp only [List.take_succ_cons, List.take_zero, List.drop_succ_cons, List.drop_zero, List.cons_append, List.nil_append, List.append_nil, List.length_cons, List.length_nil, Nat.reduceAdd, Nat.zero_add, Nat.add_zero, Value.cells, wrV]; first | done | rfl) | rfl) (by first | (simp only [List.set_cons_succ, List.set_cons_zero]; first | done | rfl) | rfl) ?_
  refine sx_assign rfl rfl ?_
  refine sx_nil (hZ _ _ ?_)
  refine awp_forget [(1, _), (3, _), (4, _), (6, _)] (Kn.cons rfl (Kn.cons rfl (Kn.cons rfl (Kn.cons rfl (Kn.nil))))) ?_
  refine awp_heap [.own g3 33 (Rc.mk 1 0 0 0 1).cells, .own g2 29 [.slice (some ⟨gl, ol, none⟩) xwL.length c1], .ro gl ol (icells xwL)] (HLe.drop 1 rfl) ?_

  refine awp_seq_region (fun Z hZ => ?_)
  refine sx_loadA 1 rfl rfl tyA29 tyS29 (by first | (simp only [List.length_cons, List.length_nil, Nat.reduceAdd, Nat.zero_add, Nat.add_zero]; first | done | rfl) | rfl) (by first | (simp only [List.take_succ_cons, List.take_zero, List.drop_succ_cons, List.drop_zero, List.cons_append, List.nil_append, List.append_nil, List.length_cons, List.length_nil, Nat.reduceAdd, Nat.zero_add, Nat.add_zero, Value.cells, wrV]; first | done | rfl) | rfl) rfl ?_
  refine sx_build tyZ33 tyP33 rfl rfl (by first | (simp only [List.take_succ_cons, List.take_zero, List.drop_succ_cons, List.drop_zero, List.cons_append, List.nil_append, List.append_nil, List.length_cons, List.length_nil, Nat.reduceAdd, Nat.zero_add, Nat.add_zero, Value.cells, wrV, zrep_one, List.replicate_succ, List.replicate_zero, Nat.reduceMul, Nat.zero_mul]; first | done | rfl) | rfl) rfl ?_
  refine sx_callIX (fun u => .tuple #[u, iq (0 : Int)]) [.ro gl ol (icells xwL)] (xw_ho2 _ c1 hA1) rfl (HLe.drop 2 rfl) hRo rfl (fun A2 c2 hA2 => ?_)
  obtain ⟨gh, oh, rfl⟩ := slIn_pos hA2 (by decide)
  refine sx_move rfl rfl ?_
  refine sx_extract rfl rfl rfl ?_
  refine sx_extract rfl rfl rfl ?_
  refine sx_assign rfl rfl ?_
  refine sx_assign rfl rfl ?_
  refine sx_nil (hZ _ _ ?_)
  refine awp_forget [(1, _), (3, _), (4, _), (6, _), (7, _), (8, _)] (Kn.cons rfl (Kn.cons rfl (Kn.cons rfl (Kn.cons rfl (Kn.cons rfl (Kn.cons rfl (Kn.nil))))))) ?_
  refine awp_seq_region (fun Z hZ => ?_)
  refine sx_loadA 1 rfl rfl tyA29 tyS29 (by first | (simp only [List.length_cons, List.length_nil, Nat.reduceAdd, Nat.zero_add, Nat.add_zero]; first | done | rfl) | rfl) (by first | (simp only [List.take_succ_cons, List.take_zero, List.drop_succ_cons, List.drop_zero, List.cons_append, List.nil_append, List.append_nil, List.length_cons, List.length_nil, Nat.reduceAdd, Nat.zero_add, Nat.add_zero, Value.cells, wrV]; first | done | rfl) | rfl) rfl ?_
  refine sx_build tyZ33 tyP33 rfl rfl (by first | (simp only [List.take_succ_cons, List.take_zero, List.drop_succ_cons, List.drop_zero, List.cons_append, List.nil_append, List.append_nil, List.length_cons, List.length_nil, Nat.reduceAdd, Nat.zero_add, Nat.add_zero, Value.cells, wrV, zrep_one, List.replicate_succ, List.replicate_zero, Nat.reduceMul, Nat.zero_mul]; first | done | rfl) | rfl) rfl ?_
  refine sx_callIX (fun u => .tuple #[u, iq (21 : Int)]) [.ro gl ol (icells xwL)] (xw_ho1 _ c1 hA1) rfl (HLe.sub (.cons _ (.cons _ (.cons_cons _ (List.nil_sublist _))))) hRo rfl (fun A3 c3 hA3 => ?_)
  refine sx_move rfl rfl ?_
  refine sx_extract rfl rfl rfl ?_
  refine sx_extract rfl rfl rfl ?_
  refine sx_assign rfl rfl ?_
  refine sx_assign rfl rfl ?_
  refine sx_nil (hZ _ _ ?_)
  refine awp_forget [(1, _), (3, _), (4, _), (6, _), (7, _), (8, _), (10, _)] (Kn.cons rfl (Kn.cons rfl (Kn.cons rfl (Kn.cons rfl (Kn.cons rfl (Kn.cons rfl (Kn.cons rfl (Kn.nil)))))))) ?_
  refine awp_heap [.own g3 33 (Rc.mk 1 0 0 0 1).cells, .own g2 29 [.slice (some ⟨gl, ol, none⟩) xwL.length c1], .ro gl ol (icells xwL), .ro gh oh (tlc 1 [(1, 0), (1, 1)])] (HLe.sub (List.sublist_append_left _ _)) ?_

  refine awp_seq_region (fun Z hZ => ?_)
  refine sx_loadA 1 rfl rfl tyA29 tyS29 (by first | (simp only [List.length_cons, List.length_nil, Nat.reduceAdd, Nat.zero_add, Nat.add_zero]; first | done | rfl) | rfl) (by first | (simp only [List.take_succ_cons, List.take_zero, List.drop_succ_cons, List.drop_zero, List.cons_append, List.nil_append, List.append_nil, List.length_cons, List.length_nil, Nat.reduceAdd, Nat.zero_add, Nat.add_zero, Value.cells, wrV]; first | done | rfl) | rfl) rfl ?_
  refine sx_build tyZ39 tyP39 rfl rfl (by first | (simp only [List.take_succ_cons, List.take_zero, List.drop_succ_cons, List.drop_zero, List.cons_append, List.nil_append, List.append_nil, List.length_cons, List.length_nil, Nat.reduceAdd, Nat.zero_add, Nat.add_zero, Value.cells, wrV, zrep_one, List.replicate_succ, List.replicate_zero, Nat.reduceMul, Nat.zero_mul]; first | done | rfl) | rfl) rfl ?_
  refine sx_callV [.ro gl ol (icells xwL)] hab rfl (HLe.sub (.cons _ (.cons _ (.cons_cons _ (List.nil_sublist _))))) hRo rfl ?_
  refine sx_move rfl rfl ?_
  refine sx_extract rfl rfl rfl ?_
  refine sx_extract rfl rfl rfl ?_
  refine sx_extract rfl rfl rfl ?_
  refine sx_alloc tyZ39 rfl (fun g5 => ?_)
  refine sx_store 0 rfl rfl rfl tyS39 (by first | (simp only [Value.cells]; first | done | rfl) | rfl) rfl rfl (by first | (simp only [List.length_cons, List.length_nil, Nat.reduceAdd, Nat.zero_add, Nat.add_zero]; first | done | rfl) | rfl) (by first | (simp only [List.take_succ_cons, List.take_zero, List.drop_succ_cons, List.drop_zero, List.cons_append, List.nil_append, List.append_nil, List.length_cons, List.length_nil, Nat.reduceAdd, Nat.zero_add, Nat.add_zero, Value.cells, wrV]; first | done | rfl) | rfl) (by first | (simp only [List.set_cons_succ, List.set_cons_zero]; first | done | rfl) | rfl) ?_
  refine sx_assign rfl rfl ?_
  refine sx_assign rfl rfl ?_
  refine sx_nil (hZ _ _ ?_)
  refine awp_forget [(1, _), (3, _), (4, _), (6, _), (7, _), (8, _), (10, _), (11, _), (12, _), (13, _)] (Kn.cons rfl (Kn.cons rfl (Kn.cons rfl (Kn.cons rfl (Kn.cons rfl (Kn.cons rfl (Kn.cons rfl (Kn.cons rfl (Kn.cons rfl (Kn.cons rfl (Kn.nil))))))))))) ?_

  refine awp_seq_meet [(0, .bool true)] [] (fun Z hZ => ?_) ?_
  · refine sx_move rfl rfl ?_
    refine sx_move rfl rfl ?_
    refine sx_force 52 rfl true (by first | rfl | (simp; done)) ?_
    refine sx_on rfl rfl rfl ?_
    refine sx_loadA 1 rfl rfl tyA33 tyS33 (by first | (simp only [List.length_cons, List.length_nil, Nat.reduceAdd, Nat.zero_add, Nat.add_zero]; first | done | rfl) | rfl) (by first | (simp only [List.take_succ_cons, List.take_zero, List.drop_succ_cons, List.drop_zero, List.cons_append, List.nil_append, List.append_nil, List.length_cons, List.length_nil, Nat.reduceAdd, Nat.zero_add, Nat.add_zero, Value.cells, wrV]; first | done | rfl) | rfl) rfl ?_
    refine sx_on rfl rfl rfl ?_
    refine sx_build tyZ33 tyP33 rfl rfl (by first | (simp only [List.take_succ_cons, List.take_zero, List.drop_succ_cons, List.drop_zero, List.cons_append, List.nil_append, List.append_nil, List.length_cons, List.length_nil, Nat.reduceAdd, Nat.zero_add, Nat.add_zero, Value.cells, wrV, zrep_one, List.replicate_succ, List.replicate_zero, Nat.reduceMul, Nat.zero_mul]; first | done | rfl) | rfl) rfl ?_
    refine sx_on rfl rfl rfl ?_
    refine sx_aeql (rc_eqC ⟨1, 0, 0, 0, 1⟩ ⟨1, 0, 0, 0, 1⟩) guard_rcC rfl rfl rfl ?_
    refine sx_pick rfl rfl rfl ?_
    refine sx_move rfl rfl ?_
    refine sx_force 57 rfl true (by first | rfl | (simp; done)) ?_
    refine sx_on rfl rfl rfl ?_
    refine sx_move rfl rfl ?_
    refine sx_on rfl rfl rfl ?_
    refine sx_not rfl rfl ?_
    refine sx_pick rfl rfl rfl ?_
    refine sx_move rfl rfl ?_
    refine sx_force 61 rfl true (by first | rfl | (simp; done)) ?_
    refine sx_on rfl rfl rfl ?_
    refine sx_move rfl rfl ?_
    refine sx_on rfl rfl rfl ?_
    refine sx_eql rfl rfl rfl ?_
    refine sx_pick rfl rfl rfl ?_
    refine sx_move rfl rfl ?_
    refine sx_force 65 rfl true (by first | rfl | (simp; done)) ?_
    refine sx_on rfl rfl rfl ?_
    refine sx_move rfl rfl ?_
    refine sx_on rfl rfl rfl ?_
    refine sx_len Try.underlying54 rfl rfl ?_
    refine sx_on rfl rfl rfl ?_
    refine sx_eql rfl rfl rfl ?_
    refine sx_pick rfl rfl rfl ?_
    refine sx_move rfl rfl ?_
    refine sx_force 70 rfl true (by first | rfl | (simp; done)) ?_
    refine sx_on rfl rfl rfl ?_
    refine sx_move rfl rfl ?_
    refine sx_on rfl rfl rfl ?_
    refine sx_indexAddr (oh + 0) Try.underlying54 tyS39 rfl rfl (by decide) (by simp) rfl ?_
    refine sx_on rfl rfl rfl ?_
    refine sx_loadRo 4 rfl rfl 0 rfl tyA39 tyS39 rfl rfl ?_
    refine sx_on rfl rfl rfl ?_
    refine sx_build tyZ39 tyP39 rfl rfl (by first | (simp only [List.take_succ_cons, List.take_zero, List.drop_succ_cons, List.drop_zero, List.cons_append, List.nil_append, List.append_nil, List.length_cons, List.length_nil, Nat.reduceAdd, Nat.zero_add, Nat.add_zero, Value.cells, wrV, zrep_one, List.replicate_succ, List.replicate_zero, Nat.reduceMul, Nat.zero_mul]; first | done | rfl) | rfl) rfl ?_
    refine sx_on rfl rfl rfl ?_
    refine sx_aeql (ti_eqC 1 1 0 1 1 0) guard_tiC rfl rfl rfl ?_
    refine sx_pick rfl rfl rfl ?_
    refine sx_move rfl rfl ?_
    refine sx_force 77 rfl true (by first | rfl | (simp; done)) ?_
    refine sx_on rfl rfl rfl ?_
    refine sx_move rfl rfl ?_
    refine sx_on rfl rfl rfl ?_
    refine sx_eql rfl rfl rfl ?_
    refine sx_pick rfl rfl rfl ?_
    refine sx_move rfl rfl ?_
    refine sx_force 81 rfl true (by first | rfl | (simp; done)) ?_
    refine sx_on rfl rfl rfl ?_
    refine sx_move rfl rfl ?_
    refine sx_pick rfl rfl rfl ?_
    refine sx_move rfl rfl ?_
    refine sx_force 84 rfl true (by first | rfl | (simp; done)) ?_
    refine sx_on rfl rfl rfl ?_
    refine sx_loadA 0 rfl rfl tyA39 tyS39 (by first | (simp only [List.length_cons, List.length_nil, Nat.reduceAdd, Nat.zero_add, Nat.add_zero]; first | done | rfl) | rfl) (by first | (simp only [List.take_succ_cons, List.take_zero, List.drop_succ_cons, List.drop_zero, List.cons_append, List.nil_append, List.append_nil, List.length_cons, List.length_nil, Nat.reduceAdd, Nat.zero_add, Nat.add_zero, Value.cells, wrV]; first | done | rfl) | rfl) rfl ?_
    refine sx_on rfl rfl rfl ?_
    refine sx_build tyZ39 tyP39 rfl rfl (by first | (simp only [List.take_succ_cons, List.take_zero, List.drop_succ_cons, List.drop_zero, List.cons_append, List.nil_append, List.append_nil, List.length_cons, List.length_nil, Nat.reduceAdd, Nat.zero_add, Nat.add_zero, Value.cells, wrV, zrep_one, List.replicate_succ, List.replicate_zero, Nat.reduceMul, Nat.zero_mul]; first | done | rfl) | rfl) rfl ?_
    refine sx_on rfl rfl rfl ?_
    refine sx_aeql (ti_eqC 1 0 0 1 0 0) guard_tiC rfl rfl rfl ?_
    refine sx_pick rfl rfl rfl ?_
    refine sx_move rfl rfl ?_
    refine sx_force 89 rfl true (by first | rfl | (simp; done)) ?_
    refine sx_on rfl rfl rfl ?_
    refine sx_move rfl rfl ?_
    refine sx_on rfl rfl rfl ?_
    refine sx_seql rfl rfl rfl ?_
    refine sx_pick rfl rfl rfl ?_
    refine sx_move rfl rfl ?_
    refine sx_force 93 rfl true (by first | rfl | (simp; done)) ?_
    refine sx_on rfl rfl rfl ?_
    refine sx_loadA 2 rfl rfl tyA29 tyS29 (by first | (simp only [List.length_cons, List.length_nil, Nat.reduceAdd, Nat.zero_add, Nat.add_zero]; first | done | rfl) | rfl) (by first | (simp only [List.take_succ_cons, List.take_zero, List.drop_succ_cons, List.drop_zero, List.cons_append, List.nil_append, List.append_nil, List.length_cons, List.length_nil, Nat.reduceAdd, Nat.zero_add, Nat.add_zero, Value.cells, wrV]; first | done | rfl) | rfl) rfl ?_
    refine sx_on rfl rfl rfl ?_
    refine sx_callV [.ro gl ol (icells xwL)] hf1 rfl (HLe.sub (sub45 _ _ _ _ _)) hRo rfl ?_
    refine sx_pick rfl rfl rfl ?_
    refine sx_move rfl rfl ?_
    refine sx_force 97 rfl true (by first | rfl | (simp; done)) ?_
    refine sx_on rfl rfl rfl ?_
    refine sx_loadA 2 rfl rfl tyA29 tyS29 (by first | (simp only [List.length_cons, List.length_nil, Nat.reduceAdd, Nat.zero_add, Nat.add_zero]; first | done | rfl) | rfl) (by first | (simp only [List.take_succ_cons, List.take_zero, List.drop_succ_cons, List.drop_zero, List.cons_append, List.nil_append, List.append_nil, List.length_cons, List.length_nil, Nat.reduceAdd, Nat.zero_add, Nat.add_zero, Value.cells, wrV]; first | done | rfl) | rfl) rfl ?_
    refine sx_on rfl rfl rfl ?_
    refine sx_callV [.ro gl ol (icells xwL)] hf3 rfl (HLe.sub (sub45 _ _ _ _ _)) hRo rfl ?_
    refine sx_on rfl rfl rfl ?_
    refine sx_not rfl rfl ?_
    refine sx_pick rfl rfl rfl ?_
    refine sx_move rfl rfl ?_
    refine sx_force 102 rfl true (by first | rfl | (simp; done)) ?_
    refine sx_on rfl rfl rfl ?_
    refine sx_loadA 2 rfl rfl tyA29 tyS29 (by first | (simp only [List.length_cons, List.length_nil, Nat.reduceAdd, Nat.zero_add, Nat.add_zero]; first | done | rfl) | rfl) (by first | (simp only [List.take_succ_cons, List.take_zero, List.drop_succ_cons, List.drop_zero, List.cons_append, List.nil_append, List.append_nil, List.length_cons, List.length_nil, Nat.reduceAdd, Nat.zero_add, Nat.add_zero, Value.cells, wrV]; first | done | rfl) | rfl) rfl ?_
    refine sx_on rfl rfl rfl ?_
    refine sx_callV [.ro gl ol (icells xwL)] hc1 rfl (HLe.sub (sub45 _ _ _ _ _)) hRo rfl ?_
    refine sx_on rfl rfl rfl ?_
    refine sx_eql rfl rfl rfl ?_
    refine sx_pick rfl rfl rfl ?_
    refine sx_move rfl rfl ?_
    refine sx_force 107 rfl true (by first | rfl | (simp; done)) ?_
    refine sx_on rfl rfl rfl ?_
    refine sx_loadA 2 rfl rfl tyA29 tyS29 (by first | (simp only [List.length_cons, List.length_nil, Nat.reduceAdd, Nat.zero_add, Nat.add_zero]; first | done | rfl) | rfl) (by first | (simp only [List.take_succ_cons, List.take_zero, List.drop_succ_cons, List.drop_zero, List.cons_append, List.nil_append, List.append_nil, List.length_cons, List.length_nil, Nat.reduceAdd, Nat.zero_add, Nat.add_zero, Value.cells, wrV]; first | done | rfl) | rfl) rfl ?_
    refine sx_on rfl rfl rfl ?_
    refine sx_callIX (fun u => u) [.ro gl ol (icells xwL)] (FnX.monoH hbs fun v H' h => ⟨H', List.Sublist.refl _, v, rfl, h.1, h.2⟩) rfl (HLe.sub (sub45 _ _ _ _ _)) hRo rfl (fun A4 c4 hA4 => ?_)
    refine sx_on rfl rfl rfl ?_
    refine sx_len Try.underlying44 rfl rfl ?_
    refine sx_on rfl rfl rfl ?_
    refine sx_eql rfl rfl rfl ?_
    refine sx_pick rfl rfl rfl ?_
    refine sx_move rfl rfl ?_
    refine sx_pick rfl rfl rfl ?_
    refine sx_assign rfl rfl ?_
    refine sx_nil (hZ _ _ ?_ ?_)
    · exact Kn.cons rfl Kn.nil
    · exact HLe.sub (List.nil_sublist _)
  refine awp_ret ?_
  exact nx_ret1 rfl rfl rfl
end Go.Proofs.Ytmebmkkllhnmlaa
