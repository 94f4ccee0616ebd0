/- A small logic of walks, over any program: a frame known as a list of slots, memory known as a list of blocks; steps of operations, of control, of calls. No conditions. -/
import Derived.Test.YtfffhnefjaomnaaBase
namespace Go.Proofs.Ytfffhnefjaomnaa
open Go.RowKit
set_option linter.unusedVariables false
set_option linter.unusedSimpArgs false
set_option linter.unusedSectionVars false

/-- What is known of memory: a block of one's own, whole; cells that are only read; a block of another kind. -/
inductive Ent where
  | own (g : Nat) (t : TypeId) (cs : List Value)
  | ro (g o : Nat) (cs : List Value)
  | ob (g : Nat) (p : Obj → Prop)
def Ent.g : Ent → Nat
  | .own g _ _ | .ro g _ _ | .ob g _ => g
def Ent.wr : Ent → Bool
  | .ro .. => false
  | _ => true
def Ent.holds (w : World) : Ent → Prop
  | .own g t cs => w.heap[g]? = some (.cells cs.toArray t (0, 0))
  | .ro g o cs => g < w.heap.size ∧ ∀ (j : Nat) (u : Value), cs[j]? = some u → w.cell? ⟨g, o + j, none⟩ = some u
  | .ob g p => ∃ o, w.heap[g]? = some o ∧ p o
abbrev Heap := List Ent
abbrev Fr := List (Nat × Value)
/-- Two entries stand apart, if one of them may be written. -/
def Ent.apart (a b : Ent) : Prop := (a.wr || b.wr) = true → a.g ≠ b.g
def Sep (H : Heap) : Prop := H.Pairwise Ent.apart
/-- Of what stood only these blocks may have turned. -/
structure Only (Wr : List Nat) (w w' : World) : Prop where
  os : w'.os = w.os
  tape : w'.tape = w.tape
  output : w'.output = w.output
  size : w.heap.size ≤ w'.heap.size
  block : ∀ i, i < w.heap.size → i ∉ Wr → w'.heap[i]? = w.heap[i]?
structure Sat (w0 : World) (Wr : List Nat) (H : Heap) (w : World) : Prop where
  only : Only Wr w0 w
  ents : ∀ e ∈ H, e.holds w ∧ (e.wr = true → e.g ∈ Wr ∨ w0.heap.size ≤ e.g)
  sep : Sep H
def lk : Fr → Nat → Option Value
  | [], _ => none
  | (t, v) :: r, k => bif Nat.beq t k then some v else lk r k
def ev (fr : Fr) : Operand → Option Value
  | .tmp t => lk fr t
  | .const v => some v
  | .func f => some (.func (.func f) #[] #[])
  | .global g => some (.pointer (some ⟨g, 0, none⟩))
/-- A frame's make: how many slots it has; the round that it is of; the marks that it bears. -/
structure Frm where
  n : Nat
  R : Option Nat
  ds : List Nat
def markOf (D : Nat) : Deferred := { target := .collected D, args := #[] }
structure FrOk (N : Frm) (fr : Fr) (a : Act) : Prop where
  size : a.tmps.size = N.n
  defers : a.defers = N.ds.map markOf
  at_ : ∀ t v, lk fr t = some v → a.tmps[t]? = some v

section
variable {Wr Wr' : List Nat} {w0 w w' : World} {H H' : Heap} {e : Ent} {N : Frm} {fr fr' : Fr} {a : Act}
theorem Only.refl (Wr : List Nat) (w : World) : Only Wr w w := ⟨rfl, rfl, rfl, Nat.le_refl _, fun _ _ _ => rfl⟩
theorem Only.trans {w2 : World} (h : Only Wr w0 w) (k : Only Wr' w w2) (hs : ∀ i ∈ Wr', i ∈ Wr ∨ w0.heap.size ≤ i) : Only Wr w0 w2 :=
  ⟨k.os.trans h.os, k.tape.trans h.tape, k.output.trans h.output, Nat.le_trans h.size k.size, fun i hi hn =>
    (k.block i (Nat.lt_of_lt_of_le hi h.size) (fun hm => by rcases hs i hm with h1 | h1; exact hn h1; omega)).trans (h.block i hi hn)⟩
theorem Only.of_bel (h : Bel w w') : Only Wr w w' := ⟨h.os, h.tape, h.output, h.size, fun i hi _ => h.block i hi⟩
theorem Only.bel (h : Only [] w w') : Bel w w' := ⟨h.os, h.tape, h.output, h.size, fun i hi => h.block i hi (by simp)⟩
theorem Ent.lt (h : e.holds w) : e.g < w.heap.size := by
  cases e with
  | own g t cs =>
    rcases Nat.lt_or_ge g w.heap.size with h' | h'
    · exact h'
    · simp only [Ent.holds] at h; rw [Array.getElem?_eq_none h'] at h; cases h
  | ro g o cs => exact h.1
  | ob g p =>
    obtain ⟨o, h, _⟩ := h
    rcases Nat.lt_or_ge g w.heap.size with h' | h'
    · exact h'
    · rw [Array.getElem?_eq_none h'] at h; cases h
/-- An entry holds on where its block is as it was. -/
theorem Ent.keep (h : e.holds w) (hs : w.heap.size ≤ w'.heap.size) (hb : w'.heap[e.g]? = w.heap[e.g]?) : e.holds w' := by
  cases e with
  | own g t cs => exact hb.trans h
  | ro g o cs =>
    refine ⟨Nat.lt_of_lt_of_le h.1 hs, fun j u hu => ?_⟩
    rw [World.cell?_of_block (w := w) (a := ⟨g, o + j, none⟩) hb]
    exact h.2 j u hu
  | ob g p =>
    obtain ⟨o, h, hp⟩ := h
    exact ⟨o, hb.trans h, hp⟩
theorem Sat.nil (w : World) : Sat w [] [] w := ⟨Only.refl _ _, by simp, List.Pairwise.nil⟩
theorem Sat.mem (h : Sat w0 Wr H w) {i : Nat} (hi : H[i]? = some e) : e.holds w := (h.ents e (List.mem_of_getElem? hi)).1
/-- More is known than asked. -/
theorem Sat.sub (h : Sat w0 Wr H w) (hs : H'.Sublist H) : Sat w0 Wr H' w := ⟨h.only, fun e he => h.ents e (hs.subset he), h.sep.sublist hs⟩
theorem Sat.perm (h : Sat w0 Wr H w) (hs : H.Perm H') : Sat w0 Wr H' w :=
  ⟨h.only, fun e he => h.ents e (hs.mem_iff.2 he), (hs.pairwise_iff (fun {a b} h1 h2 => by rw [Bool.or_comm] at h2; exact (h1 h2).symm)).1 h.sep⟩
/-- The world goes on, and nothing that is known turns. -/
theorem Sat.bel (h : Sat w0 Wr H w) (hb : Bel w w') : Sat w0 Wr H w' :=
  ⟨h.only.trans (Only.of_bel (Wr := []) hb) (by simp), fun e he => ⟨Ent.keep (h.ents e he).1 hb.size (Below.block hb _ (Ent.lt (h.ents e he).1)), (h.ents e he).2⟩, h.sep⟩
theorem Sat.drew (h : Sat w0 Wr H w) : Sat w0 Wr H w.drew := h.bel (Bel.drew (Bel.refl _))
/-- A new entry at a new block. -/
theorem Sat.fresh (h : Sat w0 Wr H w) (he : e.holds w') (hb : Bel w w') (hg : w.heap.size ≤ e.g) : Sat w0 Wr (e :: H) w' := by
  have h' := h.bel hb
  refine ⟨h'.only, ?_, List.Pairwise.cons ?_ h'.sep⟩
  · intro x hx
    rcases List.mem_cons.1 hx with rfl | hx
    · exact ⟨he, fun _ => .inr (Nat.le_trans h.only.size hg)⟩
    · exact h'.ents x hx
  · intro x hx _
    have := Ent.lt (h.ents x hx).1
    omega
theorem Sat.alloc (h : Sat w0 Wr H w) (cs : List Value) (t : TypeId) : Sat w0 Wr (.own w.heap.size t cs :: H) (w.alloc (.cells cs.toArray t)) := by
  refine h.fresh ?_ ((Bel.refl w).alloc _) (Nat.le_refl _)
  show (w.heap.push _)[w.heap.size]? = _
  simp
theorem Sat.allocOb (h : Sat w0 Wr H w) (o : Obj) (p : Obj → Prop) (hp : p o) : Sat w0 Wr (.ob w.heap.size p :: H) (w.alloc o) := by
  refine h.fresh ⟨o, ?_, hp⟩ ((Bel.refl w).alloc _) (Nat.le_refl _)
  show (w.heap.push _)[w.heap.size]? = _
  simp
/-- One block turns, and what is known of it. -/
theorem Sat.turn (h : Sat w0 Wr H w) {i : Nat} (hi : H[i]? = some e) (hw : e.wr = true) {e' : Ent} (hg : e'.g = e.g) (ho : Only [e.g] w w') (he : e'.holds w') : Sat w0 Wr (H.set i e') w' := by
  have hm := h.ents e (List.mem_of_getElem? hi)
  have hil : i < H.length := (List.getElem?_eq_some_iff.1 hi).1
  have hie : H[i] = e := (List.getElem?_eq_some_iff.1 hi).2
  refine ⟨h.only.trans ho (by simpa using hm.2 hw), ?_, ?_⟩
  · intro x hx
    obtain ⟨j, hj, hxj⟩ := List.mem_iff_getElem.1 hx
    rw [List.getElem_set] at hxj
    by_cases hij : i = j
    · rw [if_pos hij] at hxj
      subst hxj
      exact ⟨he, fun _ => hg ▸ hm.2 hw⟩
    · rw [if_neg hij] at hxj
      have hj' : j < H.length := by simpa using hj
      have hxm := h.ents x (hxj ▸ List.getElem_mem hj')
      refine ⟨Ent.keep hxm.1 ho.size (ho.block _ (Ent.lt hxm.1) ?_), hxm.2⟩
      simp only [List.mem_singleton]
      rcases Nat.lt_or_gt_of_ne hij with hlt | hlt
      · have := List.pairwise_iff_getElem.1 h.sep i j hil hj' hlt
        rw [hie, hxj] at this
        exact fun e => this (by simp [hw]) e.symm
      · have := List.pairwise_iff_getElem.1 h.sep j i hj' hil hlt
        rw [hie, hxj] at this
        exact this (by simp [hw])
  · refine List.pairwise_iff_getElem.2 fun j k hj hk hjk => ?_
    have hj' : j < H.length := by simpa using hj
    have hk' : k < H.length := by simpa using hk
    have hp := List.pairwise_iff_getElem.1 h.sep j k hj' hk' hjk
    simp only [List.getElem_set]
    by_cases h1 : i = j
    · subst h1
      rw [if_pos rfl, if_neg (by omega)]
      rw [hie] at hp
      intro _
      rw [hg]
      exact hp (by simp [hw])
    · rw [if_neg h1]
      by_cases h2 : i = k
      · subst h2
        rw [if_pos rfl]
        rw [hie] at hp
        intro _
        rw [hg]
        exact hp (by simp [hw])
      · rw [if_neg h2]; exact hp
theorem Only.setCell (w : World) (g o : Nat) (u : Value) : Only [g] w (w.setCell ⟨g, o, none⟩ u) :=
  ⟨rfl, rfl, rfl, by simp [World.setCell], fun i _ hn => Below.heap_setCell w _ u i (by simpa using hn)⟩
theorem Ent.setCell {g : Nat} {t : TypeId} {cs : List Value} (h : (Ent.own g t cs).holds w) (o : Nat) (u : Value) : (Ent.own g t (cs.set o u)).holds (w.setCell ⟨g, o, none⟩ u) := by
  simp only [Ent.holds] at h ⊢
  simp [World.setCell, Array.getElem?_modify, h]
theorem Ent.cell {g : Nat} {t : TypeId} {cs : List Value} (h : (Ent.own g t cs).holds w) (o : Nat) : w.cell? ⟨g, o, none⟩ = cs[o]? := by
  rw [cell_of_row w g o cs.toArray t (0, 0) h]; simp
theorem Ent.free {g : Nat} {t : TypeId} {cs : List Value} (h : (Ent.own g t cs).holds w) (o : Nat) : w.frozen? ⟨g, o, none⟩ = false := by
  simp only [Ent.holds] at h
  simp [World.frozen?, h]

theorem FrOk.eval (h : FrOk N fr a) {x : Operand} {v : Value} (hx : ev fr x = some v) : a.eval x = v := by
  cases x with
  | tmp t =>
    have := h.at_ t v hx
    simp [Act.eval, Array.getD_eq_getD_getElem?, this]
  | const u => exact Option.some.inj hx
  | func f => exact Option.some.inj hx
  | global g => exact Option.some.inj hx
theorem FrOk.put (h : FrOk N fr a) {d : Nat} (hd : Nat.ble (d + 1) N.n = true) (v : Value) : FrOk N ((d, v) :: fr) (a.put (some d) v) := by
  have hd' : d < N.n := Nat.le_of_ble_eq_true hd
  refine ⟨by simp [Act.put, h.size], h.defers, fun t u hu => ?_⟩
  simp only [Act.put]
  rw [Array.getElem?_setIfInBounds]
  simp only [lk] at hu
  by_cases hdt : d = t
  · subst hdt
    have e : Nat.beq d d = true := Nat.beq_refl d
    rw [e] at hu
    simp only [cond_true] at hu
    rw [if_pos rfl, h.size, if_pos hd']
    exact hu
  · have e : Nat.beq d t = false := by
      cases hb : Nat.beq d t with
      | false => rfl
      | true => exact absurd (Nat.eq_of_beq_eq_true hb) hdt
    rw [e] at hu
    simp only [cond_false] at hu
    rw [if_neg hdt]
    exact h.at_ t u hu
theorem FrOk.skip (h : FrOk N fr a) (v : Value) : FrOk N fr (a.put none v) := h
/-- fr' is known by fr. -/
def Kn (fr' fr : Fr) : Prop := ∀ p ∈ fr', lk fr p.1 = some p.2
theorem lk_mem : ∀ {fr : Fr} {t : Nat} {v : Value}, lk fr t = some v → (t, v) ∈ fr
  | [], _, _, h => by cases h
  | (k, u) :: r, t, v, h => by
    simp only [lk] at h
    cases hb : Nat.beq k t with
    | true => rw [hb] at h; obtain rfl := Option.some.inj h; obtain rfl := Nat.eq_of_beq_eq_true hb; exact List.mem_cons_self
    | false => rw [hb] at h; exact List.mem_cons_of_mem _ (lk_mem h)
theorem FrOk.kn (h : FrOk N fr a) (hk : Kn fr' fr) : FrOk N fr' a := ⟨h.size, h.defers, fun t v hv => h.at_ t v (hk _ (lk_mem hv))⟩
theorem Kn.nil : Kn [] fr := by intro p hp; cases hp
theorem Kn.cons {t : Nat} {v : Value} (h : lk fr t = some v) (hk : Kn fr' fr) : Kn ((t, v) :: fr') fr := by
  intro p hp
  rcases List.mem_cons.1 hp with rfl | hp
  · exact h
  · exact hk p hp
end

section
variable {P : Program} {N : Frm} {w0 : World} {Wr : List Nat} {ops : Array Oper} {rest : List Oper} {fr : Fr} {H : Heap} {Z : Fr → Heap → Prop}
/-- The rest of a region goes well, and Z is what holds behind it. -/
def sx (P : Program) (N : Frm) (w0 : World) (Wr : List Nat) (ops : Array Oper) (l : List Oper) (fr : Fr) (H : Heap) (Z : Fr → Heap → Prop) : Prop :=
  ∀ (Q : Exit → Act → World → Prop), (∀ fr' H' a w, Z fr' H' → FrOk N fr' a → Sat w0 Wr H' w → Q .normal a w) → ∀ a w, FrOk N fr a → Sat w0 Wr H w → wpList P ops Q l a w
theorem sx_nil (h : Z fr H) : sx P N w0 Wr ops [] fr H Z := fun _ hQ a w ha hw => hQ _ _ a w h ha hw
theorem sx_op {o : Oper} (hg : o.guard = none)
    (h : ∀ (a : Act) (w : World) (K : Act → World → Prop) (Q : Exit → Act → World → Prop), FrOk N fr a → Sat w0 Wr H w →
      (∀ v w' fr' H', sx P N w0 Wr ops rest fr' H' Z → FrOk N fr' (a.put o.dst v) → Sat w0 Wr H' w' → K (a.put o.dst v) w') → o.wp P a w K Q) :
    sx P N w0 Wr ops (o :: rest) fr H Z :=
  fun Q hQ a w ha hw => wpList_plain hg fun K hK => h a w K Q ha hw fun _ _ _ _ hs hf hS => hK _ _ (hs Q hQ _ _ hf hS)
/-- An operation that yields a value, and leaves the world alone. -/
theorem sx_val {op : Op} {d ty : Nat} {pos : String} {after : Array Edge} (v : Value) (hN : Nat.ble (d + 1) N.n = true)
    (hrun : ∀ (a : Act) (w : World), FrOk N fr a → Sat w0 Wr H w → (execOp a.eval ⟨some d, op, ty, pos, after, none⟩).run P w = .ok (.value v) w)
    (h : sx P N w0 Wr ops rest ((d, v) :: fr) H Z) : sx P N w0 Wr ops (⟨some d, op, ty, pos, after, none⟩ :: rest) fr H Z :=
  sx_op rfl fun a w K Q ha hw hK => by
    unfold Oper.wp
    rw [hrun a w ha hw]
    exact hK v w _ H h (ha.put hN v) hw
/-- An operation that yields nothing, and turns memory. -/
theorem sx_do {op : Op} {ty : Nat} {pos : String} {after : Array Edge} {H' : Heap}
    (hrun : ∀ (a : Act) (w : World), FrOk N fr a → Sat w0 Wr H w → ∃ w', (execOp a.eval ⟨none, op, ty, pos, after, none⟩).run P w = .ok .skip w' ∧ Sat w0 Wr H' w')
    (h : sx P N w0 Wr ops rest fr H' Z) : sx P N w0 Wr ops (⟨none, op, ty, pos, after, none⟩ :: rest) fr H Z :=
  sx_op rfl fun a w K Q ha hw hK => by
    obtain ⟨w', h1, h2⟩ := hrun a w ha hw
    unfold Oper.wp
    rw [h1]
    exact hK undef w' fr H' h (ha.skip _) h2
/-- An operation that yields a value that depends on the world, and turns memory. -/
theorem sx_make {op : Op} {d ty : Nat} {pos : String} {after : Array Edge} {R : Value → Heap → Prop} (hN : Nat.ble (d + 1) N.n = true)
    (hrun : ∀ (a : Act) (w : World), FrOk N fr a → Sat w0 Wr H w → ∃ v w' H', (execOp a.eval ⟨some d, op, ty, pos, after, none⟩).run P w = .ok (.value v) w' ∧ R v H' ∧ Sat w0 Wr H' w')
    (h : ∀ v H', R v H' → sx P N w0 Wr ops rest ((d, v) :: fr) H' Z) : sx P N w0 Wr ops (⟨some d, op, ty, pos, after, none⟩ :: rest) fr H Z :=
  sx_op rfl fun a w K Q ha hw hK => by
    obtain ⟨v, w', H', h1, h2, h3⟩ := hrun a w ha hw
    unfold Oper.wp
    rw [h1]
    exact hK v w' _ H' (h v H' h2) (ha.put hN v) h3
/-- Slots and blocks may be forgotten. -/
theorem sx_forget {l : List Oper} (fr' : Fr) (hk : Kn fr' fr) (h : sx P N w0 Wr ops l fr' H Z) : sx P N w0 Wr ops l fr H Z :=
  fun Q hQ a w ha hw => h Q hQ a w (ha.kn hk) hw
theorem sx_perm {l : List Oper} (H' : Heap) (hk : H.Perm H') (h : sx P N w0 Wr ops l fr H' Z) : sx P N w0 Wr ops l fr H Z :=
  fun Q hQ a w ha hw => h Q hQ a w ha (hw.perm hk)
theorem sx_drop {l : List Oper} (H' : Heap) (hk : H'.Sublist H) (h : sx P N w0 Wr ops l fr H' Z) : sx P N w0 Wr ops l fr H Z :=
  fun Q hQ a w ha hw => h Q hQ a w ha (hw.sub hk)
end
end Go.Proofs.Ytfffhnefjaomnaa
