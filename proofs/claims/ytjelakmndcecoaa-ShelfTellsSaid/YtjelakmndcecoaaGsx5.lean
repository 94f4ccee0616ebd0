/- The small logic's steps for functions that are ranged over: a yield's call, the statement itself, the marks that a function bears. No conditions. The small logic's rule for a range over a function, and for the end of a function that has one. No conditions. The small logic's steps for function values, scopes and labels, loops that leave marks. No conditions. The small logic: rows that are made at once, and what is read of rows that may be written. No conditions but of lengths. -/
import Derived.Test.YtjelakmndcecoaaGsx4
import Derived.Scope
namespace Go.Proofs.Ytjelakmndcecoaa
open Go.RowKit
set_option linter.unusedVariables false
set_option linter.unusedSimpArgs false
set_option linter.unusedSectionVars false
/-- All of it may be written. -/
def Wrs (T : Heap) : Prop := ∀ e ∈ T, e.wr = true
theorem Wrs.nil : Wrs [] := fun _ h => by cases h
theorem Wrs.cons {e : Ent} {T : Heap} (he : e.wr = true) (h : Wrs T) : Wrs (e :: T) := fun x hx => by
  rcases List.mem_cons.1 hx with rfl | hx
  · exact he
  · exact h x hx
theorem Wrs.append {T U : Heap} (h : Wrs T) (k : Wrs U) : Wrs (T ++ U) := fun e he => (List.mem_append.1 he).elim (h e) (k e)
theorem Wrs.filter {T : Heap} (h : Wrs T) : T.filter Ent.wr = T := List.filter_eq_self.2 h
def isDef : Obj → Prop := fun o => o = .deferred (some [])
def isLoop (r : Loop) : Obj → Prop := fun o => o = .loop r
/-- A yield's call, in this world. -/
def YRun (P : Program) (l : Nat) (vs : List Value) (w : World) (R : Ending → World → Prop) : Prop :=
  ∃ f tmps assign body, (Instr.yield l vs.toArray).run P w = .ok (.round l f tmps assign body) w ∧ RoundIn Fence.wide 0 P l f tmps assign body w R
/-- Yielded these, over this memory, the loop's round says go on or stop, and leaves in memory what R says. -/
def YOk (P : Program) (l : Nat) (vs : List Value) (H : Heap) (R : Value → Heap → Prop) : Prop :=
  ∀ w, Sat w (wrs H) H w → YRun P l vs w fun e w' => ∃ v H', e = .returned v ∧ R v H' ∧ Sat w (wrs H) H' w'
/-- What a round may do: memory goes on, or the loop stops. -/
def Goes (J S : Heap → Prop) (v : Value) (H' : Heap) : Prop := ∃ b, v = .bool b ∧ (b = true → J H') ∧ (b = false → S H')
/-- A function that is ranged over: it yields these, one behind the other, as far as the loop goes on. -/
def Iter (P : Program) (f : FuncId) (caps : List Value) (RO : Heap) (items : List (List Value)) : Prop :=
  ∀ (l : Nat) (J : Nat → Heap → Prop) (Jr : Heap) (S : Heap → Prop), (∀ k T, J k T → Wrs T) → (∀ T, S T → Wrs T) → Ro Jr →
    (∀ k vs T, items[k]? = some vs → J k T → YOk P l vs (T ++ Jr) (Goes (J (k + 1)) S)) →
    ∀ T, J 0 T → Fn P f (.func (.yield l) #[] #[] :: caps) (RO ++ (T ++ Jr)) fun _ H' => J items.length H' ∨ S H'
section
variable {P : Program} {N : Frm} {w0 : World} {Wr : List Nat} {ops : Array Oper} {rest : List Oper} {fr : Fr} {H : Heap} {Z : Fr → Heap → Prop}
variable {d ty : Nat} {pos : String} {after : Array Edge}
/-- The rest of a region in which yields are called goes well. -/
def sy (P : Program) (N : Frm) (w0 : World) (Wr : List Nat) (ops : Array Oper) (l : List Oper) (fr : Fr) (H : Heap) (Z : Fr → Heap → Prop) : Prop :=
  ∀ (Q : Exit → Act → World → Prop), (∀ fr' H' a w, Z fr' H' → FrOk N fr' a → Sat w0 Wr H' w → Q .normal a w) → ∀ a w, FrOk N fr a → Sat w0 Wr H w → wpListIn N.fence 0 P ops Q l a w
end
section
variable {P : Program} {N : Frm} {w0 : World} {Wr : List Nat} {fr : Fr} {H : Heap} {Q : Exit → Act → World → Prop}
end
end Go.Proofs.Ytjelakmndcecoaa

namespace Go.Proofs.Ytjelakmndcecoaa
open Go.RowKit
set_option linter.unusedVariables false
set_option linter.unusedSimpArgs false
set_option linter.unusedSectionVars false
section
variable {P : Program} {w0 w w' : World} {Wr : List Nat} {H : Heap}
theorem Only.putObj (w : World) (l : Nat) (o : Obj) : Only [l] w (w.putObj l o) :=
  ⟨rfl, rfl, rfl, by simp, fun i _ hi => World.putObj_heap_other (by simpa using hi)⟩
/-- A block that is not known turns. -/
theorem Sat.turnOut {l : Nat} {o : Obj} (h : Sat w0 Wr H w) (hl : l ∈ Wr ∨ w0.heap.size ≤ l) (hn : ∀ e ∈ H, e.g ≠ l) : Sat w0 Wr H (w.putObj l o) :=
  ⟨h.only.trans (Only.putObj w l o) (by simpa using hl), fun e he => ⟨Ent.keep (h.ents e he).1 (by simp) (World.putObj_heap_other (hn e he)), (h.ents e he).2⟩, h.sep⟩
theorem Sat.base (h : Sat w0 Wr H w) : Sat w (wrs H) H w := ⟨Only.refl _ _, fun e he => ⟨(h.ents e he).1, fun hw => .inl (mem_wrs.2 ⟨e, he, hw, rfl⟩)⟩, h.sep⟩
theorem Sat.head {e : Ent} (h : Sat w0 Wr (e :: H) w) (he : e.wr = true) : ∀ x ∈ H, x.g ≠ e.g := fun x hx => by
  have := (List.pairwise_cons.1 h.sep).1 x hx (by simp [he])
  exact fun hg => this hg.symm
theorem Sat.tail {e : Ent} (h : Sat w0 Wr (e :: H) w) : Sat w0 Wr H w := h.sub (List.sublist_cons_self _ _)
end
/-- How a round's body may be left: its memory is then what the family says, or the loop is left. -/
def RPost (w0 : World) (Wr : List Nat) (J : Heap → Prop) (S : Code → Heap → Prop) : Exit → Act → World → Prop
  | .normal, _, w => ∃ T, J T ∧ Sat w0 Wr T w
  | .ret, _, w => ∃ T, S .ret T ∧ Sat w0 Wr T w
  | .exit id, _, w => ∃ T, S (.exit id) T ∧ Sat w0 Wr T w
  | _, _, _ => False
/-- How the assignment to the loop's own variables is left: the body goes on, from this frame, with these new entries. -/
def APost (N : Frm) (w0 : World) (Wr : List Nat) (H : Heap) (Z : Fr → Heap → Prop) : Exit → Act → World → Prop :=
  fun e a w => e = .normal ∧ ∃ fr1 X, Wrs X ∧ Z fr1 X ∧ FrOk N fr1 a ∧ Sat w0 Wr (X ++ H) w
def zipFr : List Nat → List Value → Fr → Fr
  | p :: ps, v :: vs, fr => zipFr ps vs ((p, v) :: fr)
  | _, _, fr => fr
section
variable {P : Program} {n : Nat} {ds : List Nat} {w0 : World} {Wr : List Nat} {fr : Fr} {H : Heap} {Q : Exit → Act → World → Prop}
/-- The entries without these, one behind the other. -/
def eraseAll : List Nat → Heap → Heap
  | [], H => H
  | i :: is, H => eraseAll is (H.eraseIdx i)
def MarksAt : List Nat → List Nat → Heap → Prop
  | [], [], _ => True
  | D :: ds, i :: is, H => H[i]? = some (.ob D isDef) ∧ MarksAt ds is (H.eraseIdx i)
  | _, _, _ => False
theorem eraseIdx_perm {α : Type} : ∀ (l : List α) (i : Nat) (e : α), l[i]? = some e → l.Perm (e :: l.eraseIdx i)
  | x :: r, 0, e, h => by simp at h; subst h; simp
  | x :: r, i + 1, e, h => by
    have := eraseIdx_perm r i e (by simpa using h)
    exact ((this.cons x).trans (List.Perm.swap e x _))
  | [], i, e, h => by simp at h
theorem unmark {fn : Func} {tmps : Array Value} {R : Ending → World → Prop} : ∀ (ds is : List Nat) (H : Heap) (w : World), MarksAt ds is H → Sat w0 Wr H w → (∀ w', Sat w0 Wr (eraseAll is H) w' → LeavesIn Fence.wide 0 P fn tmps R [] .returning w') →
    LeavesInM Fence.wide 0 P fn tmps R (ds.map markOf) .returning w
  | [], [], H, w, _, hw, h => h w hw
  | D :: ds, i :: is, H, w, hm, hw, h => by
    have hp := hw.perm (eraseIdx_perm H i _ hm.1)
    have hD : w.heap[D]? = some (.deferred (some [])) := by
      obtain ⟨o, h1, h2⟩ := (hp.ents _ List.mem_cons_self).1
      rw [h1, h2]
    refine ⟨by simp, .inl ⟨D, _, rfl, run_takeDeferred hD, unmark ds is (H.eraseIdx i) _ hm.2 (Sat.turnOut hp.tail ((hp.ents _ List.mem_cons_self).2 rfl) (fun x hx => hp.head rfl x hx)) h⟩⟩
  | [], _ :: _, _, _, hm, _, _ => hm.elim
  | _ :: _, [], _, _, hm, _, _ => hm.elim
/-- What the body of a function that bears marks must achieve. -/
abbrev bodyM (P : Program) (fn : Func) (R : Ending → World → Prop) : Exit → Act → World → Prop := bodyPostM Fence.wide 0 P fn R
theorem nx_unmark {fn : Func} {R : Ending → World → Prop} (is : List Nat) (hm : MarksAt ds is H) (h : nx ⟨n, none, []⟩ w0 Wr fr (eraseAll is H) (bodyPost P fn R) .ret) : nx ⟨n, none, ds⟩ w0 Wr fr H (bodyM P fn R) .ret := fun a w ha hw => by
  show LeavesInM Fence.wide 0 P fn a.tmps R a.defers .returning w
  rw [ha.defers]
  refine unmark ds is H w hm hw fun w' hw' => ?_
  obtain ⟨_, v, h1, h2⟩ := h { tmps := a.tmps, defers := [] } w' ⟨ha.size, rfl, ha.at_⟩ hw'
  exact ⟨v, h1, h2⟩
theorem Fn.enterM {f : FuncId} {fn : Func} {c : Code} {args : List Value} {R : Value → Heap → Prop} (hf : P.funcs[f]? = some fn) (hb : fn.body = some c) (hn : (fn.name == "runtime.NumGoroutine") = false) (hN : args.length + (fn.ntmps - args.length) = n)
    (h : ∀ w0, awp P ⟨n, none, []⟩ w0 (wrs H) c (enumFr 0 args) H (bodyM P fn (FnPost w0 (wrs H) R))) : Fn P f args H R := by
  refine ⟨⟨fn, hf, hn, by simp [hb]⟩, fun w hw => callsIn_wide.1 (callsIn_of_wp_marks (n := 0) hf hb trivial (h w _ w ⟨?_, rfl, ?_⟩ hw (fun e => by cases e)))⟩
  · simp [← hN]
  · intro t v ht
    obtain ⟨k, rfl, hk⟩ := lk_enum args 0 t v ht
    have hl : k < args.length := (List.getElem?_eq_some_iff.1 hk).1
    simp only [Nat.zero_add]
    rw [Array.getElem?_append_left (by simpa using hl)]
    simpa using hk
end
end Go.Proofs.Ytjelakmndcecoaa

namespace Go.Proofs.Ytjelakmndcecoaa
open Go.RowKit
set_option linter.unusedVariables false
set_option linter.unusedSimpArgs false
set_option linter.unusedSectionVars false
section
variable {P : Program} {N : Frm} {w0 : World} {Wr : List Nat} {ops : Array Oper} {rest : List Oper} {fr : Fr} {H : Heap} {Z : Fr → Heap → Prop}
variable {d ty : Nat} {pos : String} {after : Array Edge}
end
theorem rowE_wrs (v : Value) (e : TypeId) (size : Nat) (xs : List Value) : Wrs (rowE v e size xs) := fun x hx => by
  unfold rowE at hx
  split at hx
  · rw [List.mem_singleton.1 hx]; rfl
  · cases hx
theorem rowE_flt (v : Value) (e : TypeId) (size : Nat) (xs : List Value) : (rowE v e size xs).filter Ent.wr = rowE v e size xs := (rowE_wrs v e size xs).filter
section
variable {P : Program} {N : Frm} {w0 : World} {Wr : List Nat} {ops : Array Oper} {rest : List Oper} {fr : Fr} {H : Heap} {Z : Fr → Heap → Prop}
variable {d ty : Nat} {pos : String} {after : Array Edge}
/-- A call that takes a part of memory; the rest stays. -/
theorem sx_callO {f : FuncId} {xs : List Operand} {vs : List Value} {ts : Array TypeId} {dst : Option Nat} {R : Value → Heap → Prop} (Hc K : Heap) (hc : Fn P f vs Hc R) (hx : evs fr xs = some vs) (hH : HLe (Hc ++ K) H) (hN : dstB N dst = true)
    (h : ∀ v H', R v H' → sx P N w0 Wr ops rest (match dst with | some d => (d, v) :: fr | none => fr) (H'.filter Ent.wr ++ K) Z) :
    sx P N w0 Wr ops (⟨dst, .call { callee := .value (.func f), args := xs.toArray, argTypes := ts }, ty, pos, after, none⟩ :: rest) fr H Z :=
  sx_callA Hc [] K (by rw [List.append_nil]; exact hc) hx hH (List.nil_sublist _) Ro.nil hN h
theorem sx_max {t t' : TypeId} {x y : Operand} {k : IntKind} {m n : Int} (hx : ev fr x = some (.int k m)) (hy : ev fr y = some (.int k n)) (r : Int) (hr : max m n = r) (hN : Nat.ble (d + 1) N.n = true)
    (h : sx P N w0 Wr ops rest ((d, .int k r) :: fr) H Z) : sx P N w0 Wr ops (⟨some d, .call { callee := .builtin .max, args := #[x, y], argTypes := #[t, t'] }, ty, pos, after, none⟩ :: rest) fr H Z :=
  sx_val _ hN (fun a w ha _ => by
    subst hr
    have e1 := ha.eval hx
    have e2 := ha.eval hy
    simp [execOp, resolve, invoke, builtin, e1, e2, Sem.run_bind, Builtin.max_, Builtin.max2]
    try (rw [Int.max_def]; split <;> split <;> simp_all <;> omega)) h
end
/-- A block of one's own may be taken as one that is only read. -/
theorem HLe.toRo {g : Nat} {t : TypeId} {cs : List Value} (A B : Heap) : HLe (A ++ .ro g 0 cs :: B) (A ++ .own g t cs :: B) := fun w0 Wr w h => by
  have hm := h.ents (.own g t cs) (by simp)
  have hro : (Ent.ro g 0 cs).holds w := ⟨Ent.lt hm.1, fun j u hu => by rw [Nat.zero_add, Ent.cell hm.1]; exact hu⟩
  refine ⟨h.only, fun e he => ?_, ?_⟩
  · rcases List.mem_append.1 he with he | he
    · exact h.ents e (List.mem_append_left _ he)
    · rcases List.mem_cons.1 he with rfl | he
      · exact ⟨hro, fun hh => by cases hh⟩
      · exact h.ents e (List.mem_append_right _ (List.mem_cons_of_mem _ he))
  · have hs := List.pairwise_append.1 h.sep
    have hs2 := List.pairwise_cons.1 hs.2.1
    refine List.pairwise_append.2 ⟨hs.1, List.Pairwise.cons (fun b hb hh => hs2.1 b hb (by simp [Ent.wr])) hs2.2, fun a ha b hb hh => ?_⟩
    rcases List.mem_cons.1 hb with rfl | hb
    · exact hs.2.2 a ha (.own g t cs) List.mem_cons_self (by simp [Ent.wr])
    · exact hs.2.2 a ha b (List.mem_cons_of_mem _ hb) hh
section
variable {P : Program} {N : Frm} {n : Nat} {ds : List Nat} {w0 : World} {Wr : List Nat} {fr : Fr} {H : Heap} {Q : Exit → Act → World → Prop}
theorem nx_normalM {R : Option Nat} {ds ds' : List Nat} {y : Code} (h : awp P ⟨n, R, ds'⟩ w0 Wr y fr H Q) : nx ⟨n, R, ds'⟩ w0 Wr fr H (Exit.then (wq P ⟨n, R, ds⟩ y Q) Q) .normal := h
theorem awp_label {l : Nat} (h : nx N w0 Wr fr H Q .normal) : awp P N w0 Wr (.label l) fr H Q := fun a w ha hw _ => wpIn_label (h a w ha hw)
theorem awp_scope {c : Code} (h : awp P ⟨n, none, ds⟩ w0 Wr c fr H (Exit.noGoto Q)) : awp P ⟨n, none, ds⟩ w0 Wr (.scope c) fr H Q := fun a w ha hw _ => wpIn_wide.2 (wp_scope_straight (wq_none (h a w ha hw)))
theorem nx_scope_normal (h : nx N w0 Wr fr H Q .normal) : nx N w0 Wr fr H (Exit.noGoto Q) .normal := h
theorem nx_scope_ret (h : nx N w0 Wr fr H Q .ret) : nx N w0 Wr fr H (Exit.noGoto Q) .ret := h
theorem nx_scope_exit {id : Nat} (h : nx N w0 Wr fr H Q (.exit id)) : nx N w0 Wr fr H (Exit.noGoto Q) (.exit id) := h
end
end Go.Proofs.Ytjelakmndcecoaa

namespace Go.Proofs.Ytjelakmndcecoaa
open Go.RowKit
set_option linter.unusedVariables false
set_option linter.unusedSimpArgs false
set_option linter.unusedSectionVars false
section
variable {P : Program} {N : Frm} {w0 : World} {Wr : List Nat} {ops : Array Oper} {rest : List Oper} {fr : Fr} {H : Heap} {Z : Fr → Heap → Prop} {d ty : Nat} {pos : String} {after : Array Edge}
/-- A call that only reads what a view of the memory tells, and hands back a value. -/
theorem sx_callV {f : FuncId} {xs : List Operand} {vs : List Value} {ts : Array TypeId} {v : Value} (U : Heap) (hc : Fn P f vs U fun u _ => u = v) (hx : evs fr xs = some vs) (hU : HLe U H) (hroU : Ro U) (hN : Nat.ble (d + 1) N.n = true)
    (h : sx P N w0 Wr ops rest ((d, v) :: fr) H Z) :
    sx P N w0 Wr ops (⟨some d, .call { callee := .value (.func f), args := xs.toArray, argTypes := ts }, ty, pos, after, none⟩ :: rest) fr H Z :=
  sx_callW (R := fun u H' => u = v ∧ H' = H) hc.1 hx hN (fun w hw => by
    have hu := hU _ _ _ hw
    have hpre : Sat w (wrs U) U w := hu.base
    exact (hc.2 w hpre).mono fun e w' he => by
      obtain ⟨u, H', h1, h2, h3⟩ := he
      have h0 : wrs U = [] := by have := hroU.wrs []; simpa [wrs] using this
      rw [h0] at h3
      exact ⟨u, H, h1, ⟨h2, rfl⟩, hw.bel h3.only.bel⟩) (fun u H' hR => by obtain ⟨rfl, rfl⟩ := hR; exact h)
theorem madeCells_eq (zs : List Value) (n : Nat) : madeCells zs.toArray (n * zs.length) = (List.replicate n zs).flatten.toArray := by
  apply Array.ext'
  simp only [madeCells, Array.toList_map, Array.toList_range]
  induction n with
  | zero => simp
  | succ n ih =>
    have hz : zs.length = 0 ∨ 0 < zs.length := by omega
    rcases hz with hz | hz
    · have : zs = [] := List.length_eq_zero_iff.1 hz
      subst this
      simp
    rw [List.replicate_succ', List.flatten_append, ← ih, Nat.succ_mul, List.range_add, List.map_append]
    congr 1
    simp only [List.flatten_cons, List.flatten_nil, List.append_nil, List.map_map]
    refine List.ext_getElem (by simp) fun i h1 h2 => ?_
    have hi : i < zs.length := h2
    simp [Nat.mul_add_mod_of_lt hi, Nat.mod_eq_of_lt hi, hi, Nat.mul_comm n]
/-- A row of zeros that is made at once. -/
theorem sx_makeSlice {t e size bytes n : Nat} {x y : Operand} {kl kc : IntKind} {zs : List Value} {z : Value} (ht : P.underlying t = some (.slice e)) (hi : (P.info? e).map (fun i => (i.zero, i.size, i.bytes)) = some (some z, size, bytes)) (hz : z.cells.toList = zs) (hs : zs.length = size)
    (hx : ev fr x = some (.int kl (n : Int))) (hy : ev fr y = some (.int kc (n : Int))) (hby : bytes * n ≤ 281474976710656) (hn : n ≤ maxLen) (hN : Nat.ble (d + 1) N.n = true)
    (h : ∀ g, sx P N w0 Wr ops rest ((d, .slice (some ⟨g, 0, none⟩) n n) :: fr) (.own g e (List.replicate n zs).flatten :: H) Z) :
    sx P N w0 Wr ops (⟨some d, .makeSlice t x y, ty, pos, after, none⟩ :: rest) fr H Z := by
  refine sx_make (R := fun v H' => ∃ g, v = .slice (some ⟨g, 0, none⟩) n n ∧ H' = .own g e (List.replicate n zs).flatten :: H) hN (fun a w ha hw => ?_) (fun v H' hR => by obtain ⟨g, rfl, rfl⟩ := hR; exact h g)
  obtain ⟨i, h1, h2⟩ := Option.map_eq_some_iff.1 hi
  obtain ⟨h3, h4, h5⟩ : i.zero = some z ∧ i.size = size ∧ i.bytes = bytes := by simpa using h2
  have hn' : (n : Int) ≤ 9223372036854775807 := by have : n ≤ 9223372036854775807 := hn; omega
  have hb : (i.bytes : Int) * (n : Int) ≤ 281474976710656 := by
    rw [h5]
    have : ((bytes * n : Nat) : Int) ≤ 281474976710656 := by omega
    rwa [Int.natCast_mul] at this
  have hr := run_make (P := P) w t e i z ht h1 h3 kl kc (n : Int) (n : Int) (by omega) (Int.le_refl _) hb hn'
  have hc : z.cells = zs.toArray := by rw [← hz]
  rw [Int.toNat_natCast, h4, ← hs, hc, madeCells_eq] at hr
  exact ⟨_, _, _, by simp only [execOp, ha.eval hx, ha.eval hy, Sem.run_bind, hr]; rfl, ⟨_, rfl, rfl⟩, hw.alloc _ _⟩
end
theorem fm_set {α : Type} {f : α → List Value} {n : Nat} (hf : ∀ x, (f x).length = n) {v : Value} {x y : α} {j : Nat} (hy : f y = (f x).set j v) (hj : j < n) : ∀ {L : List α} {i : Nat}, L[i]? = some x → (L.flatMap f).set (i * n + j) v = (L.set i y).flatMap f
  | [], i, h => by simp at h
  | z :: r, 0, h => by
    obtain rfl : z = x := by simpa using h
    simp only [Nat.zero_mul, Nat.zero_add, List.flatMap_cons, List.set_cons_zero, hy]
    rw [List.set_append_left _ _ (by rw [hf]; exact hj)]
  | z :: r, i + 1, h => by
    simp only [List.flatMap_cons, List.set_cons_succ]
    rw [List.set_append_right _ _ (by rw [hf, Nat.succ_mul]; omega), hf, show (i + 1) * n + j - n = i * n + j by rw [Nat.succ_mul]; omega, fm_set hf hy hj (by simpa using h)]
theorem ble_of {a b : Nat} (h : a ≤ b) : Nat.ble a b = true := Nat.ble_eq_true_of_le h
/-- Known cells of a row are a row. -/
theorem HLe.ownRow {g : Nat} {t : TypeId} {size n : Nat} {cs : List Value} (A B : Heap) (hl : cs.length = n * size) (hn : n ≤ maxLen) : HLe (A ++ .ob g (RowP t size n n cs) :: B) (A ++ .own g t cs :: B) := fun w0 Wr w h => by
  have hm := h.ents (.own g t cs) (by simp)
  have hro : (Ent.ob g (RowP t size n n cs)).holds w := ⟨_, hm.1, cs.toArray, rfl, Nat.le_refl _, hn, by simp [hl], by simp [← hl], hl⟩
  refine ⟨h.only, fun e he => ?_, ?_⟩
  · rcases List.mem_append.1 he with he | he
    · exact h.ents e (List.mem_append_left _ he)
    · rcases List.mem_cons.1 he with rfl | he
      · exact ⟨hro, fun _ => hm.2 rfl⟩
      · exact h.ents e (List.mem_append_right _ (List.mem_cons_of_mem _ he))
  · have hs := h.sep
    simp only [Sep, List.pairwise_append, List.pairwise_cons] at hs ⊢
    obtain ⟨h1, ⟨h2, h3⟩, h4⟩ := hs
    refine ⟨h1, ⟨fun b hb _ => h2 b hb (by simp [Ent.wr]), h3⟩, fun a ha b hb => ?_⟩
    rcases List.mem_cons.1 hb with rfl | hb
    · intro hw
      exact h4 a ha (.own g t cs) List.mem_cons_self (by simp [Ent.wr])
    · exact h4 a ha b (List.mem_cons_of_mem _ hb)
/-- A row may be only read. -/
theorem HLe.rowRo {g : Nat} {t : TypeId} {size n c : Nat} {cs : List Value} (A B : Heap) : HLe (A ++ .ro g 0 cs :: B) (A ++ .ob g (RowP t size n c cs) :: B) := fun w0 Wr w h => by
  have hm := h.ents (.ob g (RowP t size n c cs)) (by simp)
  obtain ⟨o, ho, cur, rfl, h1, h2, h3, h4, h5⟩ := hm.1
  have hro : (Ent.ro g 0 cs).holds w := ⟨(Array.getElem?_eq_some_iff.1 ho).1, fun j u hu => by
    have hj : j < n * size := by rw [← h5]; exact (List.getElem?_eq_some_iff.1 hu).1
    rw [← h4, List.getElem?_take, if_pos hj] at hu
    rw [Nat.zero_add]
    simp only [World.cell?, ho]
    simpa using hu⟩
  refine ⟨h.only, fun e he => ?_, ?_⟩
  · rcases List.mem_append.1 he with he | he
    · exact h.ents e (List.mem_append_left _ he)
    · rcases List.mem_cons.1 he with rfl | he
      · exact ⟨hro, fun hh => by cases hh⟩
      · exact h.ents e (List.mem_append_right _ (List.mem_cons_of_mem _ he))
  · have hs := h.sep
    simp only [Sep, List.pairwise_append, List.pairwise_cons] at hs ⊢
    obtain ⟨h1, ⟨h2, h3⟩, h4⟩ := hs
    refine ⟨h1, ⟨fun b hb hw => h2 b hb (by simp [Ent.wr]), h3⟩, fun a ha b hb => ?_⟩
    rcases List.mem_cons.1 hb with rfl | hb
    · intro hw
      exact h4 a ha (.ob g (RowP t size n c cs)) List.mem_cons_self (by simp [Ent.wr])
    · exact h4 a ha b (List.mem_cons_of_mem _ hb)
/-- A row of one's own may be only read. -/
theorem RowOk.ro {v : Value} {n : Nat} (h : RowOk v n) : ∃ A c, v = .slice A n c ∧ SlOk A n ∧ ∀ (X Y : Heap) (t : TypeId) (size : Nat) (xs : List Value), HLe (X ++ (roE A xs ++ Y)) (X ++ (rowE (.slice A n c) t size xs ++ Y)) := by
  rcases h with ⟨rfl, rfl⟩ | ⟨g, c, rfl⟩
  · exact ⟨none, 0, rfl, .inl ⟨rfl, rfl⟩, fun X Y t size xs => HLe.refl _⟩
  · exact ⟨_, c, rfl, .inr ⟨g, 0, rfl⟩, fun X Y t size xs => HLe.rowRo X Y⟩
end Go.Proofs.Ytjelakmndcecoaa
