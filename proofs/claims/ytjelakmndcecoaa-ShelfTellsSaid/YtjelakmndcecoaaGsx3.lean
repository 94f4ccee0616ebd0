/- The small logic's steps on slices: what is read, what is one's own and grows. No conditions. Steps on slices for regions that draw their order and only read. No conditions. (Written by tools/mksq.py.) The small logic's steps for regions that draw their order, with marks. No conditions. (Written by tools/mksq.py out of Sx2, Sx4, Sx5.) Regions that draw their order and load one entry that no store of theirs touches. No conditions. Steps on bytes made of a text. No conditions. -/
import Derived.Test.YtjelakmndcecoaaGsx2
import Derived.Test.YtjelakmndcecoaaMem
import Derived.ArgAppend
import Derived.Laws.IdiomStrings
namespace Go.Proofs.Ytjelakmndcecoaa
open Go.RowKit
set_option linter.unusedVariables false
set_option linter.unusedSimpArgs false
set_option linter.unusedSectionVars false
/-- A block that holds n elements, with room for c. -/
def RowP (e : TypeId) (size n c : Nat) (xs : List Value) (o : Obj) : Prop :=
  ∃ cur : Array Value, o = .cells cur e (0, 0) ∧ n ≤ c ∧ c ≤ maxLen ∧ cur.size = c * size ∧ cur.toList.take (n * size) = xs ∧ xs.length = n * size
def rowE (v : Value) (e : TypeId) (size : Nat) (xs : List Value) : Heap :=
  match v with
  | .slice (some a) n c => [.ob a.block (RowP e size n c xs)]
  | _ => []
def RowOk (v : Value) (n : Nat) : Prop := (v = .slice none 0 0 ∧ n = 0) ∨ ∃ g c, v = .slice (some ⟨g, 0, none⟩) n c
/-- A slice that came in, and what is read of it. -/
def SlOk (A : Option Addr) (n : Nat) : Prop := (A = none ∧ n = 0) ∨ ∃ g o, A = some ⟨g, o, none⟩
def roE (A : Option Addr) (xs : List Value) : Heap :=
  match A with
  | some a => [.ro a.block a.off xs]
  | none => []
theorem SlOk.some {A : Option Addr} {n : Nat} (h : SlOk A n) (hn : 0 < n) : ∃ g o, A = Option.some ⟨g, o, none⟩ := by
  rcases h with ⟨_, rfl⟩ | h
  · omega
  · exact h
theorem RowOk.nil : RowOk (.slice none 0 0) 0 := .inl ⟨rfl, rfl⟩
theorem RowOk.form {v : Value} {n : Nat} (h : RowOk v n) : ∃ A c, v = .slice A n c ∧ SlOk A n := by
  rcases h with ⟨rfl, rfl⟩ | ⟨g, c, rfl⟩
  · exact ⟨none, 0, rfl, .inl ⟨rfl, rfl⟩⟩
  · exact ⟨_, c, rfl, .inr ⟨g, 0, rfl⟩⟩
theorem RowOk.some {v : Value} {n : Nat} (h : RowOk v n) (hn : 0 < n) : ∃ g c, v = .slice (Option.some ⟨g, 0, none⟩) n c := by
  rcases h with ⟨_, rfl⟩ | h
  · omega
  · exact h
theorem RowOk.mk (g n c : Nat) : RowOk (.slice (Option.some ⟨g, 0, none⟩) n c) n := .inr ⟨g, c, rfl⟩
theorem HLe.sub {H' H : Heap} (h : H'.Sublist H) : HLe H' H := fun _ _ _ hw => hw.sub h
theorem HLe.trans {a b c : Heap} (h : HLe a b) (k : HLe b c) : HLe a c := fun _ _ _ hw => h _ _ _ (k _ _ _ hw)
theorem Enters.mk {P : Program} {f : FuncId} {fn : Func} (hf : P.funcs[f]? = some fn) (hn : (fn.name == "runtime.NumGoroutine") = false) (hb : fn.body.isNone = false) : Enters P f := ⟨fn, hf, hn, hb⟩
theorem Fn.of_bel {P : Program} {f : FuncId} {vs : List Value} {v : Value} (hE : Enters P f) (h : ∀ w, Calls P f vs.toArray w fun e w' => e = .returned v ∧ Bel w w') : Fn P f vs [] fun u _ => u = v :=
  ⟨hE, fun w hw => (h w).mono fun e w' ⟨he, hb⟩ => ⟨v, [], he, rfl, ⟨Only.of_bel hb, by simp, List.Pairwise.nil⟩⟩⟩
theorem Fn.bel {P : Program} {f : FuncId} {vs : List Value} {v : Value} (h : Fn P f vs [] fun u _ => u = v) (w : World) : Calls P f vs.toArray w fun e w' => e = .returned v ∧ Bel w w' :=
  (h.2 w (Sat.nil w)).mono fun e w' he => by
    obtain ⟨u, H', rfl, rfl, hS⟩ := he
    exact ⟨rfl, hS.only.bel⟩
section
variable {w0 w w' : World} {Wr : List Nat} {H H1 : Heap} {size n m c g o i : Nat} {e : TypeId} {xs : List Value} {A : Option Addr} {v : Value}
theorem rd_own (hH : H[i]? = some (.own g e xs)) (hl : xs.length = n * size) (hw : Sat w0 Wr H w) : Rd w size (some ⟨g, 0, none⟩) n xs :=
  ⟨hl, fun h => (by cases h), fun _ => ⟨g, 0, rfl, Ent.lt (hw.mem hH), fun j u hu => by rw [Nat.zero_add]; exact (Ent.cell (hw.mem hH) j).trans hu⟩⟩
theorem rd_row (hH : H[i]? = some (.ob g (RowP e size n c xs))) (hw : Sat w0 Wr H w) : Rd w size (some ⟨g, 0, none⟩) n xs := by
  obtain ⟨ob, h1, cur, rfl, h2, h3, h4, h5, h6⟩ := hw.mem hH
  refine ⟨h6, fun h => (by cases h), fun _ => ⟨g, 0, rfl, Ent.lt (hw.mem hH), fun j u hu => ?_⟩⟩
  rw [Nat.zero_add, cell_of_row w g j cur e (0, 0) h1]
  have hj : j < xs.length := (List.getElem?_eq_some_iff.1 hu).1
  rw [← h5, List.getElem?_take_of_lt (by omega)] at hu
  simpa using hu
theorem own_of_sat {H1 : Heap} (hv : RowOk v n) (hl : xs.length = n * size) (hw : Sat w0 Wr (rowE v e size xs ++ H1) w) : w.ownsRow 0 e size v n xs := by
  rcases hv with ⟨rfl, rfl⟩ | ⟨g, c, rfl⟩
  · exact ⟨hl, .inl ⟨rfl, rfl⟩⟩
  · obtain ⟨ob, h1, cur, rfl, h2, h3, h4, h5, h6⟩ := hw.mem (i := 0) (e := .ob g (RowP e size n c xs)) rfl
    exact ⟨hl, .inr ⟨g, c, cur, rfl, Nat.zero_le _, h1, h2, h3, h4, h5⟩⟩
theorem row_of_own {base : Nat} (h : w.ownsRow base e size v n xs) : RowOk v n ∧ (∀ g c, v = .slice (some ⟨g, 0, none⟩) n c → base ≤ g ∧ (Ent.ob g (RowP e size n c xs)).holds w) := by
  obtain ⟨hl, h | ⟨g, cap, cur, rfl, hb, hh, h1, h2, h3, h4⟩⟩ := h
  · obtain ⟨rfl, rfl⟩ := h
    exact ⟨.inl ⟨rfl, rfl⟩, fun g c hv => by cases hv⟩
  · refine ⟨.inr ⟨g, cap, rfl⟩, fun g' c hv => ?_⟩
    injection hv with hv1 hv2 hv3
    injection hv1 with hv1
    injection hv1 with hv1
    subst hv1; subst hv3
    exact ⟨hb, _, hh, cur, rfl, h1, h2, h3, h4, hl⟩
/-- A row that a call has made. -/
theorem Sat.row (h : Sat w0 Wr H w) (hb : Bel w w') (ho : w'.ownsRow w.heap.size e size v n xs) : Sat w0 Wr (rowE v e size xs ++ H) w' := by
  obtain ⟨h1, h2⟩ := row_of_own ho
  rcases h1 with ⟨rfl, rfl⟩ | ⟨g, c, rfl⟩
  · exact h.bel hb
  · obtain ⟨h3, h4⟩ := h2 g c rfl
    exact h.fresh h4 hb h3
theorem Bel.emp (w : World) : Bel { w with heap := #[] } w := ⟨rfl, rfl, rfl, Nat.zero_le _, fun k hk => by simp at hk⟩
/-- What an append leaves. -/
theorem Sat.app {H1 : Heap} {v' : Value} {n' : Nat} {ys : List Value} (h : Sat w0 Wr (rowE v e size xs ++ H1) w) (hv : RowOk v n) (ho : w'.ownsRow 0 e size v' n' ys) (hg : w.grownBy w' v.ownBlock) (hb : v'.ownBlock = v.ownBlock ∨ v'.ownBlock = some w.heap.size) :
    Sat w0 Wr (rowE v' e size ys ++ H1) w' := by
  obtain ⟨h1, h2⟩ := row_of_own ho
  have hsub : Sat w0 Wr H1 w := h.sub (List.sublist_append_right _ _)
  -- the rest is as it was
  have hrest : ∀ x ∈ H1, some x.g ≠ v.ownBlock := fun x hx => by
    rcases hv with ⟨rfl, rfl⟩ | ⟨g, c, rfl⟩
    · exact fun hh => by cases hh
    · intro hh
      have hgx : x.g = g := by simpa [Value.ownBlock] using hh
      have := (List.pairwise_append.1 h.sep).2.2 (.ob g (RowP e size n c xs)) List.mem_cons_self x hx
      exact this rfl hgx.symm
  have hvg : ∀ k, v.ownBlock = some k → k ∈ Wr ∨ w0.heap.size ≤ k := fun k hk => by
    rcases hv with ⟨rfl, rfl⟩ | ⟨g, c, rfl⟩
    · cases hk
    · have : g = k := by simpa [Value.ownBlock] using hk
      subst this
      exact (h.ents (.ob g (RowP e size n c xs)) (List.mem_append_left _ List.mem_cons_self)).2 rfl
  have honly : Only Wr w0 w' := by
    refine ⟨hg.os.trans h.only.os, hg.tape.trans h.only.tape, hg.output.trans h.only.output, Nat.le_trans h.only.size hg.size, fun i hi hn => ?_⟩
    refine (hg.block i (Nat.lt_of_lt_of_le hi h.only.size) (fun hh => ?_)).trans (h.only.block i hi hn)
    rcases hvg i hh.symm with h3 | h3
    · exact hn h3
    · omega
  have hkeep : ∀ x ∈ H1, x.holds w' ∧ (x.wr = true → x.g ∈ Wr ∨ w0.heap.size ≤ x.g) := fun x hx => by
    have hx1 := hsub.ents x hx
    exact ⟨Ent.keep hx1.1 hg.size (hg.block _ (Ent.lt hx1.1) (hrest x hx)), hx1.2⟩
  rcases h1 with ⟨rfl, rfl⟩ | ⟨g', c', rfl⟩
  · exact ⟨honly, hkeep, hsub.sep⟩
  · have h4 := (h2 g' c' rfl).2
    have hb' : some g' = v.ownBlock ∨ g' = w.heap.size := by
      rcases hb with hb | hb
      · exact .inl (by simpa [Value.ownBlock] using hb)
      · exact .inr (by simpa [Value.ownBlock] using hb)
    refine ⟨honly, ?_, List.Pairwise.cons ?_ hsub.sep⟩
    · intro x hx
      rcases List.mem_cons.1 hx with rfl | hx
      · refine ⟨h4, fun _ => ?_⟩
        rcases hb' with hb' | hb'
        · exact hvg g' hb'.symm
        · exact .inr (by show w0.heap.size ≤ g'; rw [hb']; exact h.only.size)
      · exact hkeep x hx
    · intro x hx _
      show g' ≠ x.g
      rcases hb' with hb' | hb'
      · exact fun hh => hrest x hx (hh ▸ hb')
      · have := Ent.lt (hsub.ents x hx).1
        omega
end
section
variable {P : Program} {N : Frm} {w0 : World} {Wr : List Nat} {ops : Array Oper} {rest : List Oper} {fr : Fr} {H H1 : Heap} {Z : Fr → Heap → Prop}
variable {d ty : Nat} {pos : String} {after : Array Edge}
/-- append onto a row of one's own, from whatever is read. -/
theorem sx_append {t e : TypeId} {size bytes n m c : Nat} {s x : Operand} {v : Value} {xs news : List Value} {A : Option Addr} (hE : ElemOk P t e size bytes) (hs : ev fr s = some v) (hv : RowOk v n) (hl : xs.length = n * size) (hx : ev fr x = some (.slice A m c))
    (hr : ∀ w, Sat w0 Wr H w → Rd w size A m news) (h1 : news.all Value.oneCell' = true) (h63 : n + m ≤ maxLen) (hby : (n + m) * bytes ≤ 140737488355328) (hH : HLe (rowE v e size xs ++ H1) H) (hN : Nat.ble (d + 1) N.n = true)
    (h : ∀ v', RowOk v' (n + m) → sx P N w0 Wr ops rest ((d, v') :: fr) (rowE v' e size (xs ++ news) ++ H1) Z) :
    sx P N w0 Wr ops (⟨some d, .call { callee := .builtin .append, args := #[s, x], argTypes := #[t, t] }, ty, pos, after, none⟩ :: rest) fr H Z := by
  refine sx_make (R := fun v' H' => RowOk v' (n + m) ∧ H' = rowE v' e size (xs ++ news) ++ H1) hN (fun a w ha hw => ?_) (fun v' H' hR => by obtain ⟨h2, rfl⟩ := hR; exact h v' h2)
  have hw' := hH _ _ _ hw
  have hown := own_of_sat hv hl hw'
  obtain ⟨v', w', hrun, h2, h3, h4, h5⟩ := run_app (P := P) (W0 := { w with heap := #[] }) (ty := ty) (c := c) hE (Bel.emp w) (Nat.le_refl _) (Nat.zero_le _) hown (hr w hw) (fun u hu => List.all_eq_true.1 h1 u hu) h63 hby
  refine ⟨v', w', _, ?_, ⟨(row_of_own h2).1, rfl⟩, hw'.app hv h2 h4 h5⟩
  simp only [execOp, resolve, List.map_toArray, List.map_cons, List.map_nil, ha.eval hs, ha.eval hx, Sem.run_bind, Sem.run_pure, Result.andThen_ok, invoke, builtin, hrun]
end
end Go.Proofs.Ytjelakmndcecoaa

namespace Go.Proofs.Ytjelakmndcecoaa
open Go.RowKit
set_option linter.unusedVariables false
set_option linter.unusedSimpArgs false
set_option linter.unusedSectionVars false
section
variable {P : Program} {N : Frm} {w0 : World} {Wr : List Nat} {ops : Array Oper} {rest : List Oper} {fr : Fr} {H : Heap} {Z : Fr → Heap → Prop}
variable {d ty : Nat} {pos : String} {after : Array Edge}
end
end Go.Proofs.Ytjelakmndcecoaa

namespace Go.Proofs.Ytjelakmndcecoaa
open Go.RowKit
set_option linter.unusedVariables false
set_option linter.unusedSimpArgs false
set_option linter.unusedSectionVars false
def Wp (P : Program) (ops : Array Oper) (K : Act → Prop) : List Oper → Act → Prop
  | [], a => K a
  | o :: r, a => ∃ v, YAll P ops o v a ∧ Wp P ops K r (a.put o.dst v)
/-- Operations that are seen to yield the same in every world. -/
def sp (P : Program) (N : Frm) (w0 : World) (Wr : List Nat) (ops : Array Oper) (l : List Oper) (fr : Fr) (H : Heap) (Z : Fr → Heap → Prop) : Prop :=
  ∀ (K : Act → Prop), (∀ fr' a, Z fr' H → FrOk N fr' a → K a) → ∀ a, FrOk N fr a → Wp P ops K l a
def tq (P : Program) (N : Frm) (w0 : World) (Wr : List Nat) (ops : Array Oper) (xs : List (Nat × Bool)) (fr : Fr) (H : Heap) (Z : Fr → Heap → Prop) : Prop :=
  ∀ (K : Act → Prop), (∀ fr' a, Z fr' H → FrOk N fr' a → K a) → ∀ a, FrOk N fr a → Wq P ops (Sat w0 Wr H) K xs a
def tg (P : Program) (N : Frm) (w0 : World) (Wr : List Nat) (ops : Array Oper) (xs : List (Nat × Bool)) (fr : Fr) (H : Heap) (Z : Fr → Heap → Prop) : Prop :=
  ∀ (Q : Exit → Act → World → Prop), (∀ fr' H' a w, Z fr' H' → FrOk N fr' a → Sat w0 Wr H' w → Q .normal a w) → ∀ a w, FrOk N fr a → Sat w0 Wr H w → Wg P ops Q xs a w
section
variable {P : Program} {N : Frm} {w0 : World} {Wr : List Nat} {ops : Array Oper} {rest : List Oper} {fr : Fr} {H : Heap} {Z : Fr → Heap → Prop}
variable {d ty : Nat} {pos : String} {after : Array Edge}
theorem wpOp_any {Q Q' : Exit → Act → World → Prop} {i : Nat} {o : Oper} {K : Act → World → Prop} {a : Act} {w : World} (hi : ops[i]? = some o) (h : wpOp P ops (QN Q) i K a w) : wpOp P ops (QN Q') i K a w := by
  rw [wpOp_iff hi] at h ⊢
  split
  · rename_i hw
    rw [if_pos hw] at h
    unfold Oper.wp at h ⊢
    cases hr : (execOp a.eval o).run P w with
    | ok n w' =>
      rw [hr] at h
      cases n <;> simp only [Oper.upon] at h ⊢ <;> try exact h
      refine Calls.mono h fun e w'' he => ?_
      cases e with
      | returned x => exact he
      | panicked c => cases he.1
      | outgrown => exact (QN_out he).elim
    | halt x w' =>
      rw [hr] at h
      cases x <;> simp only [Oper.upon] at h ⊢ <;> first | exact h | (cases h.1)
  · rename_i hw
    rw [if_neg hw] at h
    exact h
end
section
variable {P : Program} {N : Frm} {w0 : World} {Wr : List Nat} {fr : Fr} {H : Heap} {Q : Exit → Act → World → Prop}
end
end Go.Proofs.Ytjelakmndcecoaa

namespace Go.Proofs.Ytjelakmndcecoaa
open Go.RowKit
set_option linter.unusedVariables false
set_option linter.unusedSimpArgs false
set_option linter.unusedSectionVars false
section
variable {P : Program} {ops : Array Oper} {Q : Exit → Act → World → Prop} {C : World → Prop} {a b : Act} {w : World} {i j : Nat} {o oi oj : Oper} {v u : Value}
def YC (P : Program) (ops : Array Oper) (C : World → Prop) (o : Oper) (v : Value) (a : Act) : Prop := ∀ w, C w → YAt P ops o v a w
def vst (P : Program) (ops : Array Oper) (C : World → Prop) (Q : Exit → Act → World → Prop) (x : Nat × Bool) (K : Act → World → Prop) (a : Act) (w : World) : Prop :=
  match x.2 with
  | true => ∃ o v, ops[x.1]? = some o ∧ YC P ops C o v a ∧ K (a.put o.dst v) w
  | false => wpOp P ops (QN Q) x.1 (fun a w' => C w' ∧ K a w') a w
def Wv (P : Program) (ops : Array Oper) (C : World → Prop) (Q : Exit → Act → World → Prop) : List (Nat × Bool) → Act → World → Prop
  | [], a, w => QN Q .normal a w
  | x :: r, a, w => vst P ops C Q x (Wv P ops C Q r) a w
theorem vst_mono {x : Nat × Bool} {K K' : Act → World → Prop} (h : ∀ a w, K a w → K' a w) (hh : vst P ops C Q x K a w) : vst P ops C Q x K' a w := by
  unfold vst at hh ⊢
  split
  · rename_i hx
    rw [hx] at hh
    obtain ⟨o, v, h1, h2, h3⟩ := hh
    exact ⟨o, v, h1, h2, h _ _ h3⟩
  · rename_i hx
    rw [hx] at hh
    exact wpOp_mono (fun a w ⟨hc, hk⟩ => ⟨hc, h a w hk⟩) hh
theorem vst_op {x : Nat × Bool} {K : Act → World → Prop} (hC : C w) (hh : vst P ops C Q x K a w) : wpOp P ops (QN Q) x.1 (fun a w' => C w' ∧ K a w') a w := by
  unfold vst at hh
  split at hh
  · obtain ⟨o, v, h1, h2, h3⟩ := hh
    exact (h2 w hC).wp h1 ⟨hC, h3⟩
  · exact hh
theorem vst_swap {x y : Nat × Bool} {K : Act → World → Prop} (hi : ops[x.1]? = some oi) (hj : ops[y.1]? = some oj) (hap : oi.apart ops oj = true) (hsi : ∀ cs b, oi.op ≠ .select cs b) (hsj : ∀ cs b, oj.op ≠ .select cs b)
    (hc : x.2 = true ∨ y.2 = true) (h : vst P ops C Q x (vst P ops C Q y K) a w) : vst P ops C Q y (vst P ops C Q x K) a w := by
  obtain ⟨h1, h2, h3⟩ := Oper.apart_spec hap
  have h4 : ∀ t, oj.dst = some t → oi.dst ≠ some t := fun t ht hi' => h2 t hi' ht
  obtain ⟨i, bi⟩ := x
  obtain ⟨j, bj⟩ := y
  cases bi <;> cases bj
  · simp at hc
  · simp only [vst] at h ⊢
    have h' := wpOp_near hi h
    by_cases hv : ∃ v, YC P ops C oj v a
    · obtain ⟨v, hv⟩ := hv
      refine ⟨oj, v, hj, hv, ?_⟩
      rw [wpOp_put hi hsi h3 h4]
      refine wpOp_mono (fun b w' hb => ?_) h'
      obtain ⟨⟨hC', o, u, e, hu, hk⟩, hn⟩ := hb
      rw [hj] at e; obtain rfl := Option.some.inj e
      have : u = v := (hu w' hC').uniq ((hv w' hC').near hn hsj h1)
      exact ⟨hC', this ▸ hk⟩
    · refine (wpOp_false hi (wpOp_mono (fun b w' hb => ?_) h')).elim
      obtain ⟨⟨hC', o, u, e, hu, hk⟩, hn⟩ := hb
      rw [hj] at e; obtain rfl := Option.some.inj e
      exact hv ⟨u, fun w'' hC'' => (hu w'' hC'').back hn hsj h1⟩
  · simp only [vst] at h ⊢
    obtain ⟨o, v, e, hv, hk⟩ := h
    rw [hi] at e; obtain rfl := Option.some.inj e
    rw [wpOp_put hj hsj h1 h2] at hk
    exact wpOp_mono (fun b w' ⟨⟨hC', hb⟩, hn⟩ => ⟨hC', oi, v, hi, fun w'' hC'' => (hv w'' hC'').near hn hsi h3, hb⟩) (wpOp_near hj hk)
  · simp only [vst] at h ⊢
    obtain ⟨o, v, e, hv, o', u, e', hu, hk⟩ := h
    rw [hi] at e; obtain rfl := Option.some.inj e
    rw [hj] at e'; obtain rfl := Option.some.inj e'
    exact ⟨oj, u, hj, fun w'' hC'' => (hu w'' hC'').back ⟨v, rfl⟩ hsj h1, oi, v, hi, fun w'' hC'' => (hv w'' hC'').near ⟨u, rfl⟩ hsi h3, by rw [← Act.put_comm a v u h2]; exact hk⟩
def MayV (ops : Array Oper) (x y : Nat × Bool) : Prop := ∃ oi oj, ops[x.1]? = some oi ∧ ops[y.1]? = some oj ∧ oi.apart ops oj = true ∧ (x.2 = true ∨ y.2 = true)
theorem v_front (hsel : ∀ (j : Nat) (o : Oper) cs b, ops[j]? = some o → o.op ≠ .select cs b) {y : Nat × Bool} {r : List (Nat × Bool)} : ∀ (p : List (Nat × Bool)) (a : Act) (w : World),
    (∀ x ∈ p, MayV ops x y) → Wv P ops C Q (p ++ y :: r) a w → vst P ops C Q y (Wv P ops C Q (p ++ r)) a w
  | [], a, w, _, h => h
  | x :: p, a, w, hp, h => by
    obtain ⟨oi, oj, h1, h2, h3, h4⟩ := hp x List.mem_cons_self
    have h5 : vst P ops C Q x (vst P ops C Q y (Wv P ops C Q (p ++ r))) a w := vst_mono (fun b w' hb => v_front hsel p b w' (fun k hk => hp k (List.mem_cons_of_mem _ hk)) hb) h
    exact vst_swap h1 h2 h3 (fun cs b => hsel x.1 oi cs b h1) (fun cs b => hsel y.1 oj cs b h2) h4 h5
theorem any_of_v (hsel : ∀ (j : Nat) (o : Oper) cs b, ops[j]? = some o → o.op ≠ .select cs b) (hedge : ∀ (j : Nat) (o : Oper), ops[j]? = some o → ∀ e ∈ o.after, Region.binds .any e = true → e.on < ops.size) :
    ∀ (n : Nat) (ord : List (Nat × Bool)) (listed : Array Bool) (a : Act) (w : World), ord.length = n → C w → Left ops (ord.map Prod.fst) listed →
    (ord.Pairwise fun x y => Dep ops x.1 y.1 ∨ MayV ops x y) → Wv P ops C Q ord a w → wpAny P .any ops (QN Q) n listed a w := by
  intro n
  induction n with
  | zero =>
    intro ord listed a w hl hC hL hp h
    obtain rfl := List.eq_nil_of_length_eq_zero hl
    refine ⟨List.eq_nil_iff_forall_not_mem.2 fun j hj => ?_, h⟩
    obtain ⟨h0, o, ho, _⟩ := mem_ready.1 hj
    have := (hL.mem j (Array.getElem?_eq_some_iff.1 ho).1).1 h0
    simp at this
  | succ n ih =>
    intro ord listed a w hl hC hL hp h
    refine ⟨fun hnil => ?_, fun j hj => ?_⟩
    · exfalso
      match ord, hl with
      | x :: r, _ =>
        have := hL.first hedge
        rw [hnil] at this
        cases this
    · have hdeps := hL.deps hedge hj
      obtain ⟨h0, o, ho, hall⟩ := mem_ready.1 hj
      have hjm := (hL.mem j (Array.getElem?_eq_some_iff.1 ho).1).1 h0
      obtain ⟨bj, hjb⟩ := mem_fst hjm
      obtain ⟨p, r, rfl⟩ := List.append_of_mem hjb
      have hpp := List.pairwise_append.1 hp
      have hswap : ∀ x ∈ p, MayV ops x (j, bj) := fun x hx => by
        rcases hpp.2.2 x hx (j, bj) List.mem_cons_self with hd | hd
        · exact absurd (List.mem_map.2 ⟨x, List.mem_append_left _ hx, rfl⟩) (hdeps x.1 hd)
        · exact hd
      have hL' : Left ops ((p ++ r).map Prod.fst) (listed.setIfInBounds j true) := by
        rw [List.map_append]
        exact Left.step (by simpa using hL) hedge hj
      refine wpOp_mono (fun b w' hb => ih (p ++ r) _ b w' (by simp at hl ⊢; omega) hb.1 hL' ?_ hb.2) (vst_op hC (v_front hsel p a w hswap h))
      exact List.pairwise_append.2 ⟨hpp.1, (List.pairwise_cons.1 hpp.2.1).2, fun x hx y hy => hpp.2.2 x hx y (List.mem_cons_of_mem _ hy)⟩
def vB (ops : Array Oper) (A : List (List Nat)) : List (Nat × Bool) → Bool
  | [] => true
  | x :: r => (r.all fun y => (A.getD y.1 []).contains x.1 || (apB ops x.1 y.1 && (x.2 || y.2))) && vB ops A r
theorem vB_ok {A : List (List Nat)} (hA : ∀ j i, i ∈ A.getD j [] → Dep ops i j) : ∀ {l : List (Nat × Bool)}, vB ops A l = true → l.Pairwise fun x y => Dep ops x.1 y.1 ∨ MayV ops x y
  | [], _ => List.Pairwise.nil
  | x :: r, h => by
    simp only [vB, Bool.and_eq_true] at h
    refine List.Pairwise.cons (fun y hy => ?_) (vB_ok hA h.2)
    have := List.all_eq_true.1 h.1 y hy
    simp only [Bool.or_eq_true, Bool.and_eq_true] at this
    rcases this with h1 | ⟨h1, h2⟩
    · exact .inl (hA _ _ (by simpa using h1))
    · obtain ⟨oi, oj, e1, e2, e3⟩ := apB_ok h1
      exact .inr ⟨oi, oj, e1, e2, e3, h2⟩
def calmB (l : List Oper) (ls : List (Nat × Bool)) : Bool :=
  Region.noSelect l.toArray && Nat.beq ls.length l.length && decide (ls.map Prod.fst).Nodup && extB l.toArray [] (ls.map Prod.fst) && vB l.toArray (ancs l) ls
theorem wp_region_calm {N : Frm} {id : Nat} {l : List Oper} {a : Act} {w : World} (ls : List (Nat × Bool)) (hm : P.follows .mixedOrders = true) (hB : calmB l ls = true) (hC : C w.drew) (h : Wv P l.toArray C Q ls a w.drew) : wq P N (.region id l.toArray true) Q a w := by
  simp only [calmB, Bool.and_eq_true, decide_eq_true_eq] at hB
  obtain ⟨⟨⟨⟨hsel, hlen⟩, hnd⟩, hext⟩, hpairs⟩ := hB
  have hlen := Nat.eq_of_beq_eq_true hlen
  obtain ⟨he1, he2⟩ := ext_ok hext (by simp) hnd
  have hall : ∀ k, k < l.length → k ∈ ls.map Prod.fst := all_in l.length _ hnd (by simpa using hlen) (fun x hx => by simpa using he2 x hx)
  have hedge : ∀ (j : Nat) (o : Oper), l.toArray[j]? = some o → ∀ e ∈ o.after, Region.binds .any e = true → e.on < l.toArray.size := fun j o ho e he hb =>
    ext_edges _ _ hext (by simp) j (hall j (by simpa using (Array.getElem?_eq_some_iff.1 ho).1)) o ho e he hb
  refine wq_any hm ?_
  have hA := ancs_ok l
  have := any_of_v (P := P) (Q := Q) (C := C) (Region.noSelect_spec hsel) hedge ls.length ls (Array.replicate l.toArray.size false) a w.drew rfl hC
    ⟨hnd, by simp, he2, fun k hk => by
      have h1 : k ∈ ls.map Prod.fst := hall k (by simpa using hk)
      have hk' : k < l.length := by simpa using hk
      have h2 : (Array.replicate l.toArray.size false).getD k true = false := by simp [Array.getD_eq_getD_getElem?, hk']
      exact ⟨fun _ => h1, fun _ => h2⟩, he1, fun j o ho hj => absurd (hall j (by simpa using (Array.getElem?_eq_some_iff.1 ho).1)) hj⟩
    (vB_ok hA hpairs) h
  have e : ls.length = l.toArray.size := by simpa using hlen
  rw [e] at this
  exact this
end
def tv (P : Program) (N : Frm) (w0 : World) (Wr : List Nat) (ops : Array Oper) (e0 : Ent) (xs : List (Nat × Bool)) (fr : Fr) (H : Heap) (Z : Fr → Heap → Prop) : Prop :=
  ∀ (Q : Exit → Act → World → Prop), (∀ fr' H' a w, Z fr' H' → FrOk N fr' a → Sat w0 Wr H' w → Q .normal a w) → ∀ a w, FrOk N fr a → Sat w0 Wr H w → Wv P ops e0.holds Q xs a w
section
variable {P : Program} {N : Frm} {w0 : World} {Wr : List Nat} {ops : Array Oper} {fr : Fr} {H : Heap} {Z : Fr → Heap → Prop} {e0 : Ent}
variable {d ty : Nat} {pos : String} {after : Array Edge}
end
end Go.Proofs.Ytjelakmndcecoaa

namespace Go.Proofs.Ytjelakmndcecoaa
open Go.RowKit
set_option linter.unusedVariables false
set_option linter.unusedSimpArgs false
set_option linter.unusedSectionVars false
/-- A conversion's row of bytes: the mark stands behind its last cell. -/
def BrP (e : TypeId) (l : List UInt8) (o : Obj) : Prop := ∃ cur : Array Value, o = .cells cur e (cur.size, cur.size + 1) ∧ cur.toList.take l.length = bv l ∧ l.length ≤ cur.size
section
variable {w0 w : World} {Wr : List Nat} {H : Heap} {g i : Nat} {e : TypeId} {l : List UInt8}
end
section
variable {P : Program} {N : Frm} {w0 : World} {Wr : List Nat} {ops : Array Oper} {rest : List Oper} {fr : Fr} {H H1 : Heap} {Z : Fr → Heap → Prop}
variable {d ty : Nat} {pos : String} {after : Array Edge}
theorem sq_offU {op : Op} {j t : Nat} {b' : Bool} {oj : Oper} (hj : ops[j]? = some oj) (ht : oj.dst = some t) (hb : lk fr t = some undef) (hN : Nat.ble (d + 1) N.n = true)
    (h : sq P N w0 Wr ops rest ((d, undef) :: fr) H Z) : sq P N w0 Wr ops (⟨some d, op, ty, pos, after, some (j, b')⟩ :: rest) fr H Z :=
  fun Q hQ a ha => by
    have hy : yielded ops a.tmps j = none := by
      have := ha.at_ t _ hb
      simp [yielded, hj, ht, this, undef]
    unfold wpQuiet
    have h2 : Region.wanted (⟨some d, op, ty, pos, after, some (j, b')⟩ : Oper) (yielded ops a.tmps) = false := by simp [Region.wanted, hy]
    rw [if_neg (by simp [h2])]
    exact h Q hQ _ (ha.put hN undef)
end
end Go.Proofs.Ytjelakmndcecoaa
