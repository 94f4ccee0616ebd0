/- Walks and plain laws for this claim (texts SxZ, SxX, SxS, Cm1, SxP, LayCh, LayGr, joined). Each theorem states its own conditions. -/
import Derived.Test.YtkojkeabelckjaaGreatDoorJ07
import Derived.Lib.AppendStr
import Derived.Test.YtkojkeabelckjaaGreatDoorJ05
import Derived.WalkKit
import Derived.Test.YtkojkeabelckjaaGreatDoorJ06
import Derived.Shelf.Strconv.Itoa0
import Derived.Shelf.Spec.SlicesGrow

section
set_option linter.all false
namespace Go.Proofs.YtkojkeabelckjaaGreatDoor
open Go.RowKit
section
variable {P : Program} {N : Frm} {w0 w : World} {Wr : List Nat} {ops : Array Oper} {rest : List Oper} {fr : Fr} {H : Heap} {Z : Fr → Heap → Prop} {d ty : Nat} {pos : String} {after : Array Edge}
theorem sx_slice3 {t e n g o len c : Nat} {x lo hi mx : Operand} {k1 k2 k3 : IntKind} {i j m : Nat} (o' : Nat) (ht : P.underlying t = some (.slice e)) (hs : tySize P e = some n) (hx : ev fr x = some (.slice (some ⟨g, o, none⟩) len c)) (hl : ev fr lo = some (.int k1 (i : Int))) (hh : ev fr hi = some (.int k2 (j : Int))) (hm : ev fr mx = some (.int k3 (m : Int))) (h0 : i < m) (h1 : i ≤ j) (h2 : j ≤ m) (h3 : m ≤ c) (ho : o + i * n = o') (hN : Nat.ble (d + 1) N.n = true)
  (h : sx P N w0 Wr ops rest ((d, .slice (some ⟨g, o', none⟩) (j - i) (m - i)) :: fr) H Z) : sx P N w0 Wr ops (⟨some d, .slice t x (some lo) (some hi) (some mx), ty, pos, after, none⟩ :: rest) fr H Z :=
 jE3 (.slice (some ⟨g, o', none⟩) (j - i) (m - i)) hN (fun a w ha _ => by
  have hb1 : ∀ code, (Instr.sliceBound (.int k3 (m : Int)) c code).run P w = .ok m w := fun code => by
   have := jH4 (P := P) (k := k3) (i := (m : Int)) (y := c) (code := code) (w := w) ⟨by omega, by omega⟩
   simpa using this
  have hb2 : ∀ code, (Instr.sliceBound (.int k2 (j : Int)) m code).run P w = .ok j w := fun code => by
   have := jH4 (P := P) (k := k2) (i := (j : Int)) (y := m) (code := code) (w := w) ⟨by omega, by omega⟩
   simpa using this
  have hb3 : ∀ code, (Instr.sliceBound (.int k1 (i : Int)) j code).run P w = .ok i w := fun code => by
   have := jH4 (P := P) (k := k1) (i := (i : Int)) (y := j) (code := code) (w := w) ⟨by omega, by omega⟩
   simpa using this
  have hne : ¬ m = i := by omega
  subst ho
  simp [execOp, Instr.sliceAt, Instr.slice, Instr.sliceBounds, ha.eval hx, ha.eval hl, ha.eval hh, ha.eval hm, Sem.run_bind, run_underlying ht, jB2 hs, hb1, hb2, hb3, hne, jH6]) h
theorem sx_sliceEqNil {t t' e : TypeId} {x : Operand} {A : Option Addr} {n c : Nat} (ht : P.underlying t = some (.slice e)) (hx : ev fr x = some (.slice A n c)) (hN : Nat.ble (d + 1) N.n = true)
  (h : sx P N w0 Wr ops rest ((d, .bool A.isNone) :: fr) H Z) : sx P N w0 Wr ops (⟨some d, .binOp .eql t x (.const (.slice none 0 0)) t', ty, pos, after, none⟩ :: rest) fr H Z :=
 jE3 _ hN (fun a w ha _ => by
  have e' : a.eval (.const (.slice none 0 0)) = .slice none 0 0 := rfl
  have hq : (Op.equal t (.slice A n c) (.slice none 0 0)).run P w = .ok A.isNone w := by
   unfold Op.equal Op.maxDepth Op.equalIn
   cases A <;> simp [Sem.run_bind, run_underlying ht]
  have hg : (eqGuard .eql t x (.const (.slice none 0 0)) (.slice A n c) (.slice none 0 0)).run P w = .ok () w := by
   unfold eqGuard
   split <;> rfl
  simp only [execOp, ha.eval hx, e', Sem.run_bind, hg, Result.andThen_ok, binOp]
  simp [hq]) h
theorem sx_buildSlice0 {t e n : Nat} (ht : P.underlying t = some (.slice e)) (hs : tySize P e = some n) (hN : Nat.ble (d + 1) N.n = true)
  (h : ∀ g, sx P N w0 Wr ops rest ((d, .slice (some ⟨g, 0, none⟩) 0 0) :: fr) (.own g e [] :: H) Z) : sx P N w0 Wr ops (⟨some d, .buildSlice t 0 #[], ty, pos, after, none⟩ :: rest) fr H Z := by
 refine sx_make (R := fun v H' => ∃ g, v = .slice (some ⟨g, 0, none⟩) 0 0 ∧ H' = .own g e [] :: H) hN (fun a w ha hw => ?_) (fun v H' hR => by obtain ⟨g, rfl, rfl⟩ := hR; exact h g)
 refine ⟨_, w.alloc (.cells #[] e), _, ?_, ⟨w.heap.size, rfl, rfl⟩, hw.alloc [] e⟩
 simp [execOp, Instr.buildSlice, Sem.run_bind, run_underlying ht, jB2 hs, Instr.fill, newRow, newObj, show Array.range 0 = #[] from rfl]
 rfl
theorem sx_callFV {f : FuncId} {caps : List Value} {x : Operand} {xs : List Operand} {vs : List Value} {ts : Array TypeId} {v : Value} (U : Heap) (hc : Fn P f (vs ++ caps) U fun u _ => u = v) (hf : ev fr x = some (.func (.func f) #[] caps.toArray)) (hx : evs fr xs = some vs) (hU : HLe U H) (hroU : Ro U) (hN : Nat.ble (d + 1) N.n = true)
  (h : sx P N w0 Wr ops rest ((d, v) :: fr) H Z) :
  sx P N w0 Wr ops (⟨some d, .call { callee := .value x, args := xs.toArray, argTypes := ts }, ty, pos, after, none⟩ :: rest) fr H Z :=
 sx_callFW (R := fun u H' => u = v ∧ H' = H) hc.1 hf hx hN (fun w hw => by
  have hu := hU _ _ _ hw
  have hpre : Sat w (wrs U) U w := hu.base
  exact (hc.2 w hpre).mono fun e w' he => by
   obtain ⟨u, H', h1, h2, h3⟩ := he
   have h0 : wrs U = [] := by have := hroU.wrs []; simpa [wrs] using this
   rw [h0] at h3
   exact ⟨u, H, h1, ⟨h2, rfl⟩, hw.bel h3.only.bel⟩) (fun u H' hR => by obtain ⟨rfl, rfl⟩ := hR; exact h)
theorem sq_min {t t' : TypeId} {x y : Operand} {k : IntKind} {m n : Int} (hx : ev fr x = some (.int k m)) (hy : ev fr y = some (.int k n)) (r : Int) (hr : min m n = r) (hN : Nat.ble (d + 1) N.n = true)
  (h : sq P N w0 Wr ops rest ((d, .int k r) :: fr) H Z) : sq P N w0 Wr ops (⟨some d, .call { callee := .builtin .min, args := #[x, y], argTypes := #[t, t'] }, ty, pos, after, none⟩ :: rest) fr H Z :=
 sq_val _ hN (fun a w ha _ => by
  subst hr
  have e1 := ha.eval hx
  have e2 := ha.eval hy
  simp [execOp, resolve, invoke, builtin, e1, e2, Sem.run_bind, Builtin.min_, Builtin.min2]
  try (rw [Int.min_def]; split <;> split <;> simp_all <;> omega)) h
theorem sx_pure {p : Prop} {l : List Oper} (hp : ∀ w, Sat w0 Wr H w → p) (h : p → sx P N w0 Wr ops l fr H Z) : sx P N w0 Wr ops l fr H Z := fun Q hQ a w ha hw => h (hp w hw) Q hQ a w ha hw
theorem awp_pure {p : Prop} {c : Code} {Q : Exit → Act → World → Prop} (hp : ∀ w, Sat w0 Wr H w → p) (h : p → awp P N w0 Wr c fr H Q) : awp P N w0 Wr c fr H Q := fun a w ha hw => h (hp w hw) a w ha hw
theorem row_cap {A : Option Addr} {n c size : Nat} {e : TypeId} {xs : List Value} (hv : RowOk (.slice A n c) n) (hin : ∀ x ∈ rowE (.slice A n c) e size xs, x ∈ H) (hw : Sat w0 Wr H w) : n ≤ c ∧ c ≤ maxLen := by
 rcases hv with ⟨h, _⟩ | ⟨g, c', h⟩
 ·simp only [Value.slice.injEq] at h
  obtain ⟨_, rfl, rfl⟩ := h
  exact ⟨Nat.le_refl _, Nat.zero_le _⟩
 ·simp only [Value.slice.injEq] at h
  obtain ⟨rfl, _, rfl⟩ := h
  obtain ⟨o, _, cur, _, h1, h2, _⟩ := (hw.ents _ (hin _ (List.mem_singleton.2 rfl))).1
  exact ⟨h1, h2⟩
theorem rd_arg {A : Option Addr} {n size : Nat} {xs : List Value} {T : Heap} (hA : jH1 A n) (hT : 0 < n → T = roE A xs) (hl : xs.length = n * size) (hnil : A = none → n = 0) (hle : HLe T H) (hw : Sat w0 Wr H w) : Rd w size A n xs := by
 refine ⟨hl, hnil, fun hn => ?_⟩
 obtain ⟨g, o, rfl⟩ := hA hn
 obtain rfl := hT hn
 have h := ((hle _ _ _ hw).ents (.ro g o xs) List.mem_cons_self).1
 exact ⟨g, o, rfl, h.1, h.2⟩
end
theorem HLe.view {g o k : Nat} {xs ys : List Value} {H : Heap} (hm : Ent.ro g o xs ∈ H) (hys : ∀ j u, ys[j]? = some u → xs[k + j]? = some u) : HLe (.ro g (o + k) ys :: H) H := fun w0 Wr w h => by
 have hh := (h.ents _ hm).1
 refine ⟨h.only, fun e he => ?_, List.Pairwise.cons (fun b hb hw => ?_) h.sep⟩
 ·rcases List.mem_cons.1 he with rfl | he
  ·exact ⟨⟨hh.1, fun j u hu => by rw [Nat.add_assoc]; exact hh.2 (k + j) u (hys j u hu)⟩, fun hw => by cases hw⟩
  ·exact h.ents e he
 ·have hbw : b.wr = true := by simpa [Ent.wr] using hw
  obtain ⟨i, hi⟩ := List.mem_iff_getElem?.1 hm
  obtain ⟨j, hj⟩ := List.mem_iff_getElem?.1 hb
  have hne : i ≠ j := fun e => by
   rw [e, hj] at hi
   rw [Option.some.inj hi] at hbw
   cases hbw
  have hp := h.sep
  rw [Sep, List.pairwise_iff_getElem] at hp
  obtain ⟨hi1, hi2⟩ := List.getElem?_eq_some_iff.1 hi
  obtain ⟨hj1, hj2⟩ := List.getElem?_eq_some_iff.1 hj
  rcases Nat.lt_or_gt_of_ne hne with hlt | hlt
  ·have := hp i j hi1 hj1 hlt (by rw [hi2, hj2]; simp [hbw])
   rw [hi2, hj2] at this
   exact this
  ·have := hp j i hj1 hi1 hlt (by rw [hi2, hj2]; simp [hbw])
   rw [hi2, hj2] at this
   exact this.symm
theorem HLe.toEnd (X R Y : Heap) : HLe ((X ++ Y) ++ R) (X ++ (R ++ Y)) := fun _ _ _ hw => hw.perm (by rw [List.append_assoc]; exact List.Perm.append_left X List.perm_append_comm)
theorem nx_ret4h {P : Program} {n : Nat} {ro : Option Nat} {w0 : World} {Wr : List Nat} {fr : Fr} {H : Heap} {fn : Func} {R : Value → Heap → Prop} {r s t q : ResultVar} {v u x y : Value} (HH : Heap) (hr : fn.results = #[r, s, t, q]) (h1 : ResOk P fr H r v) (h2 : ResOk P fr H s u) (h3 : ResOk P fr H t x) (h4 : ResOk P fr H q y) (hk : HLe HH H) (hR : R (.tuple #[v, u, x, y]) HH) : nx ⟨n, ro, []⟩ w0 Wr fr H (bodyPost P fn (FnPost w0 Wr R)) .ret :=
 fun a w ha hw => ⟨ha.defers, _, by
  have e1 := h1.run' ha hw
  have e2 := h2.run' ha hw
  have e3 := h3.run' ha hw
  have e4 := h4.run' ha hw
  rw [results_eq]
  simp [hr, Sem.run_bind, e1, e2, e3, e4], _, HH, rfl, hR, hk _ _ _ hw⟩
section
variable {P : Program} {N : Frm} {w0 : World} {Wr : List Nat} {ops : Array Oper} {C : World → Prop} {Q Q' : Exit → Act → World → Prop} {fr : Fr} {H : Heap}
theorem vst_any {x : Nat × Bool} {o : Oper} {K : Act → World → Prop} {a : Act} {w : World} (ho : ops[x.1]? = some o) (h : vst P ops C Q x K a w) : vst P ops C Q' x K a w := by
 unfold vst at h ⊢
 split at h
 ·exact h
 ·exact wpOp_any ho h
def QF (P : Program) (ops : Array Oper) (Q : Exit → Act → World → Prop) (f : Nat) : Exit → Act → World → Prop := fun _ a w => wpOp P ops (QN Q) f (fun a w => QN Q .normal a w) a w
theorem any_of_f {f : Nat} (hsel : ∀ (j : Nat) (o : Oper) cs b, ops[j]? = some o → o.op ≠ .select cs b) (hedge : ∀ (j : Nat) (o : Oper), ops[j]? = some o → ∀ e ∈ o.after, Region.binds .any e = true → e.on < ops.size) :
  ∀ (n : Nat) (ord : List (Nat × Bool)) (listed : Array Bool) (a : Act) (w : World), ord.length = n → C w → Left ops ((ord ++ [(f, false)]).map Prod.fst) listed →
  (ord.Pairwise fun x y => Dep ops x.1 y.1 ∨ MayV ops x y) → (∀ x ∈ ord, Dep ops x.1 f) → Wv P ops C (QF P ops Q f) ord a w → wpAny P .any ops (QN Q) (n + 1) listed a w := by
 intro n
 induction n with
 | zero =>
  intro ord listed a w hl hC hL hp hd h
  obtain rfl := List.eq_nil_of_length_eq_zero hl
  refine ⟨fun hnil => ?_, fun j hj => ?_⟩
  ·have := hL.first hedge
   rw [hnil] at this
   cases this
  ·obtain ⟨h0, o, ho, _⟩ := mem_ready.1 hj
   have hjm := (hL.mem j (Array.getElem?_eq_some_iff.1 ho).1).1 h0
   obtain rfl : j = f := by simpa using hjm
   have hL' : Left ops [] (listed.setIfInBounds j true) := Left.step (p := []) (r := []) (by simpa using hL) hedge hj
   refine wpOp_mono (fun b w' hb => ?_) h.2
   refine ⟨List.eq_nil_iff_forall_not_mem.2 fun k hk => ?_, hb⟩
   obtain ⟨h0, o, ho, _⟩ := mem_ready.1 hk
   have := (hL'.mem k (Array.getElem?_eq_some_iff.1 ho).1).1 h0
   simp at this
 | succ n ih =>
  intro ord listed a w hl hC hL hp hd h
  refine ⟨fun hnil => ?_, fun j hj => ?_⟩
  ·exfalso
   match ord, hl with
   | x :: r, _ =>
    have := hL.first hedge
    rw [hnil] at this
    cases this
  ·have hdeps := hL.deps hedge hj
   obtain ⟨h0, o, ho, hall⟩ := mem_ready.1 hj
   have hjm := (hL.mem j (Array.getElem?_eq_some_iff.1 ho).1).1 h0
   rw [List.map_append, List.mem_append] at hjm
   rcases hjm with hjm | hjm
   ·obtain ⟨bj, hjb⟩ := mem_fst hjm
    obtain ⟨p, r, rfl⟩ := List.append_of_mem hjb
    have hpp := List.pairwise_append.1 hp
    have hswap : ∀ x ∈ p, MayV ops x (j, bj) := fun x hx => by
     rcases hpp.2.2 x hx (j, bj) List.mem_cons_self with hd | hd
     ·exact absurd (List.mem_map.2 ⟨x, List.mem_append_left _ (List.mem_append_left _ hx), rfl⟩) (hdeps x.1 hd)
     ·exact hd
    have hL' : Left ops (((p ++ r) ++ [(f, false)]).map Prod.fst) (listed.setIfInBounds j true) := by
     rw [List.append_assoc, List.map_append]
     exact Left.step (by simpa using hL) hedge hj
    have hv : vst P ops C Q (j, bj) (Wv P ops C (QF P ops Q f) (p ++ r)) a w := vst_any ho (v_front hsel p a w hswap h)
    refine wpOp_mono (fun b w' hb => ih (p ++ r) _ b w' (by simp at hl ⊢; omega) hb.1 hL' ?_ (fun x hx => hd x ?_) hb.2) (vst_op hC hv)
    ·exact List.pairwise_append.2 ⟨hpp.1, (List.pairwise_cons.1 hpp.2.1).2, fun x hx y hy => hpp.2.2 x hx y (List.mem_cons_of_mem _ hy)⟩
    ·rcases List.mem_append.1 hx with hx | hx
     ·exact List.mem_append_left _ hx
     ·exact List.mem_append_right _ (List.mem_cons_of_mem _ hx)
   ·obtain rfl : j = f := by simpa using hjm
    match ord, hl with
    | x :: r, _ =>
     exact absurd (List.mem_map.2 ⟨x, List.mem_cons_self, rfl⟩) (hdeps x.1 (hd x List.mem_cons_self))
def lastB (l : List Oper) (ls : List (Nat × Bool)) (f : Nat) : Bool := calmB l (ls ++ [(f, false)]) && vB l.toArray (ancs l) ls && ls.all fun x => ((ancs l).getD f []).contains x.1
theorem wp_region_last {id : Nat} {l : List Oper} {a : Act} {w : World} (ls : List (Nat × Bool)) (f : Nat) (hm : P.follows .mixedOrders = true) (hB : lastB l ls f = true) (hC : C w.drew) (h : Wv P l.toArray C (QF P l.toArray Q f) ls a w.drew) : wq P N (.region id l.toArray true) Q a w := by
 simp only [lastB, calmB, Bool.and_eq_true, decide_eq_true_eq] at hB
 obtain ⟨⟨⟨⟨⟨⟨hsel, hlen⟩, hnd⟩, hext⟩, _⟩, hpairs⟩, hlast⟩ := hB
 have hlen := Nat.eq_of_beq_eq_true hlen
 obtain ⟨he1, he2⟩ := ext_ok hext (by simp) hnd
 have hall : ∀ k, k < l.length → k ∈ (ls ++ [(f, false)]).map Prod.fst := all_in l.length _ hnd (by simpa using hlen) (fun x hx => by simpa using he2 x hx)
 have hedge : ∀ (j : Nat) (o : Oper), l.toArray[j]? = some o → ∀ e ∈ o.after, Region.binds .any e = true → e.on < l.toArray.size := fun j o ho e he hb =>
  ext_edges _ _ hext (by simp) j (hall j (by simpa using (Array.getElem?_eq_some_iff.1 ho).1)) o ho e he hb
 refine wq_any hm ?_
 have hA := ancs_ok l
 have := any_of_f (P := P) (Q := Q) (C := C) (f := f) (Region.noSelect_spec hsel) hedge ls.length ls (Array.replicate l.toArray.size false) a w.drew rfl hC
  ⟨hnd, by simp, he2, fun k hk => by
   have h1 : k ∈ (ls ++ [(f, false)]).map Prod.fst := hall k (by simpa using hk)
   have hk' : k < l.length := by simpa using hk
   have h2 : (Array.replicate l.toArray.size false).getD k true = false := by simp [Array.getD_eq_getD_getElem?, hk']
   exact ⟨fun _ => h1, fun _ => h2⟩, he1, fun j o ho hj => absurd (hall j (by simpa using (Array.getElem?_eq_some_iff.1 ho).1)) hj⟩
  (vB_ok hA hpairs) (fun x hx => hA f x.1 (by have := List.all_eq_true.1 hlast x hx; simpa using this)) h
 have e : ls.length + 1 = l.toArray.size := by simpa using hlen
 rw [e] at this
 exact this
theorem awf_region {id : Nat} {l : List Oper} (H0 : Heap) (ls : List (Nat × Bool)) (f : Nat) {o : Oper} (ho : l.toArray[f]? = some o) (hm : P.follows .mixedOrders = true) (hB : lastB l ls f = true) (hk : HLe H0 H)
  (h : ∀ Z : Fr → Heap → Prop, (∀ fr H, nx N w0 Wr fr H Q .normal → Z fr H) → tw P N w0 Wr l.toArray H0 ls fr H fun fr' H' => sx P N w0 Wr l.toArray [o] fr' H' Z) : awp P N w0 Wr (.region id l.toArray true) fr H Q :=
 fun a w ha hw => wp_region_last (C := Sat w0 Wr H0) ls f hm hB (hk _ _ _ hw.drew)
  (h (fun fr H => nx N w0 Wr fr H Q .normal) (fun _ _ h => h) (QF P l.toArray Q f) (fun fr' H' a w hz hf hs => by
   have h1 := hz (QN Q) (fun fr2 H2 a w hy hf2 hs2 => ⟨rfl, hy a w hf2 hs2⟩) a w hf hs
   show wpOp P l.toArray (QN Q) f (fun a w => QN Q .normal a w) a w
   unfold wpOp
   simp only [ho]
   unfold wpList at h1
   split
   ·rename_i hw'
    rw [if_pos hw'] at h1
    exact h1.imp (Oper.wp_mono fun a w hh => hh) (fun h => h)
   ·rename_i hw'
    rw [if_neg hw'] at h1
    exact h1) a w.drew ha hw.drew)
theorem awf_seq_region {id : Nat} {l : List Oper} {y : Code} (H0 : Heap) (ls : List (Nat × Bool)) (f : Nat) {o : Oper} (ho : l.toArray[f]? = some o) (hm : P.follows .mixedOrders = true) (hB : lastB l ls f = true) (hk : HLe H0 H)
  (h : ∀ Z : Fr → Heap → Prop, (∀ fr H, awp P N w0 Wr y fr H Q → Z fr H) → tw P N w0 Wr l.toArray H0 ls fr H fun fr' H' => sx P N w0 Wr l.toArray [o] fr' H' Z) : awp P N w0 Wr (.seq (.region id l.toArray true) y) fr H Q :=
 aS (awf_region H0 ls f ho hm hB hk fun Z hZ => h Z fun fr H hy => hZ fr H hy)
end
end Go.Proofs.YtkojkeabelckjaaGreatDoor
end

section
set_option linter.all false
namespace Go.Proofs.YtkojkeabelckjaaGreatDoor
open Go.RowKit Go.Lib
section
variable {P : Program} {N : Frm} {w0 w : World} {Wr : List Nat} {ops : Array Oper} {rest : List Oper} {fr : Fr} {H : Heap} {Z : Fr → Heap → Prop} {d ty : Nat} {pos : String} {after : Array Edge}
theorem strCells_str (m : List UInt8) : strCells (str m) = bv m := by simp [strCells, str, bv]
theorem run_appStr {t u e : TypeId} {i : TypeInfo} (ht : P.underlying t = some (.slice e)) (hu : P.underlying u = some .string) (hi : P.info? e = some i) (hz : i.zero = some (.int .u8 0)) (hsize : i.size = 1) (hby : i.bytes = 1)
  {v : Value} {n : Nat} {xs : List Value} (hown : w.ownsRow 0 e 1 v n xs) (s : ByteArray) (hl : n + s.size ≤ 140737488355328) :
  ∃ v' w', (Builtin.append_ #[t, u] ty #[v, .string s]).run P w = .ok v' w' ∧ w'.ownsRow 0 e 1 v' (n + s.size) (xs ++ strCells s) ∧ w.grownBy w' v.ownBlock ∧ (v'.ownBlock = v.ownBlock ∨ v'.ownBlock = some w.heap.size) := by
 obtain ⟨v', w', h1, h2, h3, _⟩ := run_append_own_string (P := P) w 0 t u ty e i ht hu hi hz hsize hby v n xs hown s (by show _ ≤ 9223372036854775807; omega) hl (Nat.zero_le _)
 refine ⟨v', w', h1, h2, h3, ?_⟩
 have hxl : xs.length = n := by simpa using hown.1
 rcases hown.2 with ⟨rfl, rfl⟩ | ⟨g, cap, cur, rfl, hbg, hg, hnc, hcm, hcs, htake⟩
 ·by_cases hm : s.size = 0
  ·have hf := run_firstCells_string (P := P) w 1 s
   rw [hm] at hf
   have h4 : (Builtin.append_ #[t, u] ty #[.slice none 0 0, .string s]).run P w = .ok (.slice none 0 0) w := by
    simp [Builtin.append_, run_underlying ht, run_underlying hu, sizeOf, typeInfo, hi, hsize, Builtin.lenOf, hm, hf]
   rw [h4] at h1
   injection h1 with h1 _
   subst h1
   exact .inl rfl
  ·have hr := run_append_nil_string (P := P) w t u ty e i (.int .u8 0) ht hu hi hz s (by omega) (by omega) (by rw [hby]; omega)
   rw [hr] at h1
   injection h1 with h1 _
   subst h1
   exact .inr rfl
 ·by_cases hroom : n + s.size ≤ cap
  ·have hcs' : cur.size = cap := by simpa using hcs
   have hr := run_append_room_string (P := P) w t u ty e i ht hu hi hsize g n cap cur hg s hroom (by omega)
   rw [hr] at h1
   injection h1 with h1 _
   subst h1
   exact .inl rfl
  ·have holds : ∀ j u, xs[j]? = some u → w.cell? ((⟨g, 0, none⟩ : Addr).add j) = some u := hown.cells (g := g) rfl
   have hr := run_append_grow_string (P := P) w t u ty e i (.int .u8 0) ht hu hi hz ⟨g, 0, none⟩ n cap xs (by rw [hsize]; simpa using hxl) holds s (by omega) (by omega) (by rw [hby]; exact growslice_fits (by omega) (by omega))
   rw [hr] at h1
   injection h1 with h1 _
   subst h1
   exact .inr rfl
theorem sx_appendStr {t u e : TypeId} {s x : Operand} {v : Value} {l m : List UInt8} (H1 : Heap) (ht : P.underlying t = some (.slice e)) (hu : P.underlying u = some .string) (hi : (P.info? e).map (fun i => (i.zero, i.size, i.bytes)) = some (some (.int .u8 0), 1, 1)) (hs : ev fr s = some v) (hv : RowOk v l.length) (hx : ev fr x = some (.string (str m)))
  (hl : l.length + m.length ≤ 140737488355328) (hH : HLe (H1 ++ rowE v e 1 (bv l)) H) (hN : Nat.ble (d + 1) N.n = true)
  (h : ∀ v', RowOk v' (l ++ m).length → sx P N w0 Wr ops rest ((d, v') :: fr) (H1 ++ rowE v' e 1 (bv (l ++ m))) Z) :
  sx P N w0 Wr ops (⟨some d, .call { callee := .builtin .append, args := #[s, x], argTypes := #[t, u] }, ty, pos, after, none⟩ :: rest) fr H Z := by
 obtain ⟨i, h1, h2⟩ := Option.map_eq_some_iff.1 hi
 obtain ⟨h3, h4, h5⟩ : i.zero = some (.int .u8 0) ∧ i.size = 1 ∧ i.bytes = 1 := by simpa using h2
 refine sx_make (R := fun v' H' => RowOk v' (l ++ m).length ∧ H' = H1 ++ rowE v' e 1 (bv (l ++ m))) hN (fun a w ha hw => ?_) (fun v' H' hR => by obtain ⟨h2, rfl⟩ := hR; exact h v' h2)
 have hw' := (HLe.trans (HLe.swap H1 (rowE v e 1 (bv l))) hH) _ _ _ hw
 have hown := own_of_sat hv (by simp [bv_length]) hw'
 obtain ⟨v', w', hrun, g2, g4, g5⟩ := run_appStr (P := P) (ty := ty) ht hu h1 h3 h4 h5 hown (str m) (by rw [str_size]; exact hl)
 rw [strCells_str, ← bv_append, str_size] at g2
 refine ⟨v', w', _, ?_, ⟨by rw [List.length_append]; exact (row_of_own g2).1, rfl⟩, (HLe.swap _ _) _ _ _ (hw'.app hv g2 g4 g5)⟩
 simp only [execOp, resolve, List.map_toArray, List.map_cons, List.map_nil, ha.eval hs, ha.eval hx, Sem.run_bind, Sem.run_pure, Result.andThen_ok, invoke, builtin, hrun]
theorem sx_callU {f : FuncId} {xs : List Operand} {vs : List Value} {ts : Array TypeId} {dst : Option Nat} {R : Value → Heap → Prop} (U : Heap) (hc : Fn P f vs U R) (hx : evs fr xs = some vs) (hU : U.Sublist H) (hroU : Ro U) (hN : dstB N dst = true)
  (h : ∀ v H', R v H' → sx P N w0 Wr ops rest (match dst with | some d => (d, v) :: fr | none => fr) (H'.filter Ent.wr ++ H) Z) :
  sx P N w0 Wr ops (⟨dst, .call { callee := .value (.func f), args := xs.toArray, argTypes := ts }, ty, pos, after, none⟩ :: rest) fr H Z :=
 jD3 U H hc hx ((HLe.swap H U).trans (HLe.dup hU hroU)) hN h
theorem Sat.callV {w' : World} {H' : Heap} (hw : Sat w0 Wr H w) (h3 : Sat w [] H' w') : Sat w0 Wr (H'.filter Ent.wr ++ H) w' := by
 have hH := hw.bel h3.only.bel
 have hfr : ∀ e ∈ H'.filter Ent.wr, w.heap.size ≤ e.g := fun e he => by
  obtain ⟨h1, h2⟩ := List.mem_filter.1 he
  rcases (h3.ents e h1).2 h2 with h | h
  ·cases h
  ·exact h
 refine ⟨hH.only, fun e he => ?_, List.pairwise_append.2 ⟨h3.sep.sublist (List.filter_sublist), hw.sep, fun a ha b hb _ => ?_⟩⟩
 ·rcases List.mem_append.1 he with he | he
  ·exact ⟨(h3.ents e (List.mem_filter.1 he).1).1, fun _ => .inr (Nat.le_trans hw.only.size (hfr e he))⟩
  ·exact hH.ents e he
 ·have h1 := hfr a ha
  have h2 := Ent.lt (hw.ents b hb).1
  omega
theorem sx_callVU {f : FuncId} {xs : List Operand} {vs : List Value} {ts : Array TypeId} {dst : Option Nat} {R : Value → Heap → Prop} (U : Heap) (hc : Fn P f vs U R) (hx : evs fr xs = some vs) (hU : HLe U H) (hroU : Ro U) (hN : dstB N dst = true)
  (h : ∀ v H', R v H' → sx P N w0 Wr ops rest (match dst with | some d => (d, v) :: fr | none => fr) (H'.filter Ent.wr ++ H) Z) :
  sx P N w0 Wr ops (⟨dst, .call { callee := .value (.func f), args := xs.toArray, argTypes := ts }, ty, pos, after, none⟩ :: rest) fr H Z :=
 sx_callW (R := fun u H2 => ∃ H', R u H' ∧ H2 = H'.filter Ent.wr ++ H) hc.1 hx hN (fun w hw => by
  have hpre : Sat w (wrs U) U w := (hU _ _ _ hw).base
  exact (hc.2 w hpre).mono fun e w' he => by
   obtain ⟨u, H', h1, h2, h3⟩ := he
   have h0 : wrs U = [] := by have := hroU.wrs []; simpa [wrs] using this
   rw [h0] at h3
   exact ⟨u, _, h1, ⟨H', h2, rfl⟩, hw.callV h3⟩) (fun u H2 hR => by obtain ⟨H', hR, rfl⟩ := hR; exact h u H' hR)
end
theorem row_view {A : Option Addr} {n c : Nat} (hle : ∀ (X Y : Heap) (t : TypeId) (size : Nat) (xs : List Value), HLe (X ++ (roE A xs ++ Y)) (X ++ (rowE (.slice A n c) t size xs ++ Y))) (X : Heap) (t : TypeId) (size : Nat) (xs : List Value) : HLe (roE A xs) (X ++ rowE (.slice A n c) t size xs) := by
 have h := hle X [] t size xs
 simp only [List.append_nil] at h
 exact (HLe.sub (List.sublist_append_right X _)).trans h
end Go.Proofs.YtkojkeabelckjaaGreatDoor
end

section
set_option linter.all false
namespace Go.Proofs.YtkojkeabelckjaaGreatDoor
open Go.RowKit
set_option maxRecDepth 100000
def cmpQ (a b : Nat) : Int := if a < b then -1 else if b < a then 1 else 0
theorem nan_fn (a : Nat) : Fn Tryz.prog 82 [uq a] [] fun v _ => v = .bool false := by
 refine Fn.enter (N := 6) Tryz.func82 rfl (by kernel_rfl) rfl (fun w0 => ?_)
 refine aR fun Z hZ => sA rfl rfl <| sN (hZ _ _ ?_)
 refine aF [(0, _)] (Kn.cons rfl (Kn.nil)) ?_
 refine aR fun Z hZ => sM rfl rfl <| sM rfl rfl ?_
 refine jE5 rfl rfl rfl ?_
 refine sA rfl rfl <| sN (hZ _ _ ?_)
 refine aF [(2, _)] (Kn.cons rfl (Kn.nil)) ?_
 refine aE ?_
 exact nR1 rfl rfl (congrArg Value.bool (by simp))
theorem cmp_fn (a b : Nat) : Fn Tryz.prog 40 [uq a, uq b] [] fun v _ => v = iq (cmpQ a b) := by
 refine Fn.enter (N := 20) Tryz.func40 rfl (by kernel_rfl) rfl (fun w0 => ?_)
 refine aR fun Z hZ => sA rfl rfl <| sN (hZ _ _ ?_)
 refine aF [(0, _), (1, _)] (kR rfl) ?_
 refine aR fun Z hZ => sM rfl rfl ?_
 refine sCP (nan_fn a) rfl rfl ?_
 refine sA rfl rfl <| sN (hZ _ _ ?_)
 refine aF [(0, _), (1, _), (5, _)] (kR rfl) ?_
 refine aR fun Z hZ => sM rfl rfl ?_
 refine sCP (nan_fn b) rfl rfl ?_
 refine sA rfl rfl <| sN (hZ _ _ ?_)
 refine aF [(0, _), (1, _), (5, _), (6, _)] (kR rfl) ?_
 refine aS ?_
 refine aR fun Z hZ => sM rfl rfl <| sN (hZ _ _ ?_)
 refine aF [(0, _), (1, _), (6, _), (11, _)] (kR rfl) ?_
 refine aC rfl (fun h => ?_) (fun h => ?_)
 ·cases h
 refine aK ?_
 with_reducible refine nN ?_
 refine aS ?_
 refine aR fun Z hZ => sM rfl rfl <| sN (hZ _ _ ?_)
 refine aF [(0, _), (1, _), (13, _)] (kR rfl) ?_
 refine aC rfl (fun h1 => ?_) (fun h1 => ?_)
 ·cases h1
 refine aK ?_
 with_reducible refine nN ?_
 refine aS ?_
 refine aR fun Z hZ => sM rfl rfl <| sM rfl rfl ?_
 refine jC4 rfl rfl rfl ?_
 refine sN (hZ _ _ ?_)
 refine aF [(0, _), (1, _), (16, _)] (kR rfl) ?_
 refine aC rfl (fun h2 => ?_) (fun h2 => ?_)
 ·have h2' : a < b := by simp at h2; omega
  rw [show cmpQ a b = -1 by unfold cmpQ; rw [if_pos h2']]
  refine aR fun Z hZ => sA rfl rfl <| sN (hZ _ _ ?_)
  refine aF [(4, _)] (Kn.cons rfl (Kn.nil)) ?_
  refine aE ?_
  repeat (with_reducible refine nTR ?_)
  exact nR1 rfl rfl rfl
 have h2' : ¬ a < b := by simp at h2; omega
 refine aK ?_
 with_reducible refine nN ?_
 refine aS ?_
 refine aR fun Z hZ => sM rfl rfl <| sM rfl rfl ?_
 refine jF3 rfl rfl rfl ?_
 refine sN (hZ _ _ ?_)
 refine aF [(19, _)] (Kn.cons rfl (Kn.nil)) ?_
 refine aC rfl (fun h3 => ?_) (fun h3 => ?_)
 ·have h3' : b < a := by simp at h3; omega
  rw [show cmpQ a b = 1 by unfold cmpQ; rw [if_neg h2', if_pos h3']]
  refine aR fun Z hZ => sA rfl rfl <| sN (hZ _ _ ?_)
  refine aF [(4, _)] (Kn.cons rfl (Kn.nil)) ?_
  refine aE ?_
  repeat (with_reducible refine nTR ?_)
  exact nR1 rfl rfl rfl
 have h3' : ¬ b < a := by simp at h3; omega
 rw [show cmpQ a b = 0 by unfold cmpQ; rw [if_neg h2', if_neg h3']]
 refine aK ?_
 with_reducible refine nN ?_
 refine aR fun Z hZ => sA rfl rfl <| sN (hZ _ _ ?_)
 refine aF [(4, _)] (Kn.cons rfl (Kn.nil)) ?_
 refine aE ?_
 exact nR1 rfl rfl rfl
theorem cmpQ_lt {a b : Nat} : cmpQ a b < 0 ↔ a < b := by
 unfold cmpQ
 repeat' split
 all_goals omega
theorem cmpQ_eq {a b : Nat} : cmpQ a b = 0 ↔ a = b := by
 unfold cmpQ
 repeat' split
 all_goals omega
theorem nan_is (a : Nat) (W : World) : Calls Tryz.prog 82 #[uq a] W fun e w' => e = .returned (.bool false) ∧ w' = W := by
 go_enter Tryz.func82, Tryz.ntmps82
 go_wp2
 go_ret
 exact ⟨rfl, rfl⟩
theorem cmp_is (a b : Nat) (W : World) : Calls Tryz.prog 40 #[uq a, uq b] W fun e w' => e = .returned (iq (cmpQ a b)) ∧ w' = W := by
 have h1 := nan_is a
 have h2 := nan_is b
 by_cases hab : a < b
 ·rw [show cmpQ a b = -1 by unfold cmpQ; rw [if_pos hab]]
  go_enter Tryz.func40, Tryz.ntmps40
  go_wp2_with (first | (go_at_call 82; refine (h1 _).mono ?_; rintro e w' ⟨rfl, rfl⟩) | (go_at_call 82; refine (h2 _).mono ?_; rintro e w' ⟨rfl, rfl⟩))
  go_ret
  exact ⟨rfl, rfl⟩
 ·by_cases hba : b < a
  ·rw [show cmpQ a b = 1 by unfold cmpQ; rw [if_neg hab, if_pos hba]]
   go_enter Tryz.func40, Tryz.ntmps40
   go_wp2_with (first | (go_at_call 82; refine (h1 _).mono ?_; rintro e w' ⟨rfl, rfl⟩) | (go_at_call 82; refine (h2 _).mono ?_; rintro e w' ⟨rfl, rfl⟩))
   go_ret
   exact ⟨rfl, rfl⟩
  ·rw [show cmpQ a b = 0 by unfold cmpQ; rw [if_neg hab, if_neg hba]]
   go_enter Tryz.func40, Tryz.ntmps40
   go_wp2_with (first | (go_at_call 82; refine (h1 _).mono ?_; rintro e w' ⟨rfl, rfl⟩) | (go_at_call 82; refine (h2 _).mono ?_; rintro e w' ⟨rfl, rfl⟩))
   go_ret
   exact ⟨rfl, rfl⟩
end Go.Proofs.YtkojkeabelckjaaGreatDoor
end

section
set_option linter.all false
namespace Go.Proofs.YtkojkeabelckjaaGreatDoor
open Go.RowKit
structure SlIn (A : Option Addr) (n c : Nat) : Prop where
 ok : SlOk A n
 cap : n ≤ c
 none : A = Option.none → c = 0
theorem SlIn.arg {A : Option Addr} {n c : Nat} (h : SlIn A n c) : jH1 A n := h.ok.arg
theorem SlIn.nil {A : Option Addr} {n c : Nat} (h : SlIn A n c) (ha : A = Option.none) : n = 0 := by
 rcases h.ok with ⟨_, h0⟩ | ⟨g, o, h0⟩
 ·exact h0
 ·rw [ha] at h0; cases h0
def TailA (A : Option Addr) (k size : Nat) (A' : Option Addr) (m : Nat) : Prop := (A = Option.none → A' = Option.none) ∧ (∀ g o, A = some ⟨g, o, Option.none⟩ → ∃ o', A' = some ⟨g, o', Option.none⟩ ∧ (0 < m → o' = o + k * size))
theorem rd_head {w : World} {size n i : Nat} {A : Option Addr} {xs : List Value} (h : Rd w size A n xs) (hi : i ≤ n) : Rd w size A i (xs.take (i * size)) := by
 obtain ⟨h1, h2, h3⟩ := h
 have := Nat.mul_le_mul_right size hi
 refine ⟨by rw [List.length_take, h1]; omega, fun ha => by have := h2 ha; omega, fun hn => ?_⟩
 obtain ⟨g, o, h4, h5, h6⟩ := h3 (by omega)
 refine ⟨g, o, h4, h5, fun j u hu => h6 j u ?_⟩
 rw [List.getElem?_take] at hu
 split at hu
 ·exact hu
 ·cases hu
section
variable {P : Program} {N : Frm} {w0 w : World} {Wr : List Nat} {ops : Array Oper} {rest : List Oper} {fr : Fr} {H : Heap} {Z : Fr → Heap → Prop} {d ty : Nat} {pos : String} {after : Array Edge}
theorem sx_head3 {t e size n c i : Nat} {x l m : Operand} {A : Option Addr} (ht : P.underlying t = some (.slice e)) (hs : tySize P e = some size) (hA : SlIn A n c) (hx : ev fr x = some (.slice A n c)) (hl : ev fr l = some (.int .i64 (i : Int))) (hm : ev fr m = some (.int .i64 (i : Int))) (hi : i ≤ c) (hN : Nat.ble (d + 1) N.n = true)
  (h : sx P N w0 Wr ops rest ((d, .slice A i i) :: fr) H Z) : sx P N w0 Wr ops (⟨some d, .slice t x none (some l) (some m), ty, pos, after, none⟩ :: rest) fr H Z :=
 jE3 (.slice A i i) hN (fun a w ha _ => by
  have e1 := ha.eval hx
  have e2 := ha.eval hl
  have e3 := ha.eval hm
  have b1 : ∀ code, (Instr.sliceBound (.int .i64 (i : Int)) c code).run P w = .ok i w := fun code => by
   have := jH4 (P := P) (k := .i64) (i := (i : Int)) (y := c) (code := code) (w := w) (by omega)
   simpa using this
  have b2 : ∀ code, (Instr.sliceBound (.int .i64 (i : Int)) i code).run P w = .ok i w := fun code => by
   have := jH4 (P := P) (k := .i64) (i := (i : Int)) (y := i) (code := code) (w := w) (by omega)
   simpa using this
  have hb : (Instr.sliceBounds true n c none (some (.int .i64 (i : Int))) (some (.int .i64 (i : Int)))).run P w = .ok (0, i, i) w := by
   simp [Instr.sliceBounds, Sem.run_bind, b1, b2]
  simp only [execOp, Instr.sliceAt, Instr.slice, e1, e2, e3, Sem.run_bind, run_underlying ht, Result.andThen_ok, Option.map_none, Option.map_some, hb, Sem.run_pure, jB2 hs]
  rcases hA.ok with ⟨rfl, rfl⟩ | ⟨g, o, rfl⟩
  ·have := hA.none rfl
   obtain rfl : i = 0 := by omega
   simp
  ·simp [jH6]) h
theorem sx_part {t e size n c : Nat} {x : Operand} {lo hi : Option Operand} {i j : Nat} {A : Option Addr} (ht : P.underlying t = some (.slice e)) (hs : tySize P e = some size) (hA : SlIn A n c) (hx : ev fr x = some (.slice A n c)) (hl : bnd fr 0 lo = some (i : Int)) (hh : bnd fr (n : Int) hi = some (j : Int)) (h1 : i ≤ j) (h2 : j ≤ c) (hN : Nat.ble (d + 1) N.n = true)
  (h : ∀ A', SlIn A' (j - i) (c - i) → TailA A i size A' (j - i) → sx P N w0 Wr ops rest ((d, .slice A' (j - i) (c - i)) :: fr) H Z) : sx P N w0 Wr ops (⟨some d, .slice t x lo hi none, ty, pos, after, none⟩ :: rest) fr H Z := by
 rcases hA.ok with ⟨rfl, rfl⟩ | ⟨g, o, rfl⟩
 ·have hc := hA.none rfl
  subst hc
  obtain rfl : j = 0 := by omega
  obtain rfl : i = 0 := by omega
  refine jE3 (.slice none 0 0) hN (fun a w ha _ => ?_) (h none ⟨.inl ⟨rfl, rfl⟩, Nat.le_refl _, fun _ => rfl⟩ ⟨fun _ => rfl, fun g o h => by cases h⟩)
  have hb := jH7 (P := P) (isS := true) (len := 0) (cap := 0) (w := w) ha hl hh (by omega) (by omega) (by omega)
  simp only [execOp, Instr.sliceAt, Instr.slice, ha.eval hx, Sem.run_bind, run_underlying ht, Result.andThen_ok, Option.map_none, hb, Sem.run_pure, jB2 hs]
  simp
 ·refine sx_slice ht hs hx hl hh (by omega) (by omega) (by omega) hN (fun o' ho => ?_)
  have ht2 : TailA (some ⟨g, o, none⟩) i size (some ⟨g, o', none⟩) (j - i) := by
   refine ⟨fun h => (by cases h), fun g2 o2 he => ?_⟩
   injection he with he
   injection he with e1 e2 _
   subst e1; subst e2
   exact ⟨o', rfl, fun hm => by have := ho (by omega); simpa using this⟩
  have := h (some ⟨g, o', none⟩) ⟨.inr ⟨g, o', rfl⟩, by omega, fun h => (by cases h)⟩ ht2
  simpa using this
theorem sv_part {t e size n c : Nat} {x : Operand} {lo hi : Option Operand} {i j : Nat} {A : Option Addr} (ht : P.underlying t = some (.slice e)) (hs : tySize P e = some size) (hA : SlIn A n c) (hx : ev fr x = some (.slice A n c)) (hl : bnd fr 0 lo = some (i : Int)) (hh : bnd fr (n : Int) hi = some (j : Int)) (h1 : i ≤ j) (h2 : j ≤ c) (hN : Nat.ble (d + 1) N.n = true)
  (h : ∀ A', SlIn A' (j - i) (c - i) → TailA A i size A' (j - i) → sv P N w0 Wr ops rest ((d, .slice A' (j - i) (c - i)) :: fr) H Z) : sv P N w0 Wr ops (⟨some d, .slice t x lo hi none, ty, pos, after, none⟩ :: rest) fr H Z := by
 rcases hA.ok with ⟨rfl, rfl⟩ | ⟨g, o, rfl⟩
 ·have hc := hA.none rfl
  subst hc
  obtain rfl : j = 0 := by omega
  obtain rfl : i = 0 := by omega
  refine sv_val (.slice none 0 0) hN (fun a w ha _ => ?_) (h none ⟨.inl ⟨rfl, rfl⟩, Nat.le_refl _, fun _ => rfl⟩ ⟨fun _ => rfl, fun g o h => by cases h⟩)
  have hb := jH7 (P := P) (isS := true) (len := 0) (cap := 0) (w := w) ha hl hh (by omega) (by omega) (by omega)
  simp only [execOp, Instr.sliceAt, Instr.slice, ha.eval hx, Sem.run_bind, run_underlying ht, Result.andThen_ok, Option.map_none, hb, Sem.run_pure, jB2 hs]
  simp
 ·refine sv_slice ht hs hx hl hh (by omega) (by omega) (by omega) hN (fun o' ho => ?_)
  have ht2 : TailA (some ⟨g, o, none⟩) i size (some ⟨g, o', none⟩) (j - i) := by
   refine ⟨fun h => (by cases h), fun g2 o2 he => ?_⟩
   injection he with he
   injection he with e1 e2 _
   subst e1; subst e2
   exact ⟨o', rfl, fun hm => by have := ho (by omega); simpa using this⟩
  have := h (some ⟨g, o', none⟩) ⟨.inr ⟨g, o', rfl⟩, by omega, fun h => (by cases h)⟩ ht2
  simpa using this
theorem sx_appendCut {t e : TypeId} {size bytes n m c : Nat} {s x : Operand} {A B : Option Addr} {xs news : List Value} (hE : ElemOk P t e size bytes) (hA : SlOk A n) (hs : ev fr s = some (.slice A n n)) (hx : ev fr x = some (.slice B m c))
  (hr : ∀ w, Sat w0 Wr H w → Rd w size A n xs) (hr' : ∀ w, Sat w0 Wr H w → Rd w size B m news) (hB : B ≠ none) (h1 : news.all Value.oneCell' = true) (hm0 : 0 < m) (h63 : n + m ≤ maxLen) (hby : (n + m) * bytes ≤ 140737488355328) (hN : Nat.ble (d + 1) N.n = true)
  (h : ∀ v', RowOk v' (n + m) → sx P N w0 Wr ops rest ((d, v') :: fr) (rowE v' e size (xs ++ news) ++ H) Z) :
  sx P N w0 Wr ops (⟨some d, .call { callee := .builtin .append, args := #[s, x], argTypes := #[t, t] }, ty, pos, after, none⟩ :: rest) fr H Z := by
 have hE' := hE
 rcases hA with ⟨rfl, rfl⟩ | ⟨g, o, rfl⟩
 ·refine sx_make (R := fun v' H' => RowOk v' (0 + m) ∧ H' = rowE v' e size (xs ++ news) ++ H) hN (fun a w ha hw => ?_) (fun v' H' hR => by obtain ⟨h2, rfl⟩ := hR; exact h v' h2)
  have hl : xs = [] := List.length_eq_zero_iff.1 (by simpa using (hr w hw).1)
  subst hl
  have hown := own_of_sat (e := e) (size := size) (xs := []) (H1 := H) RowOk.nil (by simp) (show Sat w0 Wr (rowE (.slice none 0 0) e size [] ++ H) w from hw)
  obtain ⟨v', w', hrun, h2, h3, h4, h5⟩ := run_app (P := P) (W0 := { w with heap := #[] }) (ty := ty) (c := c) hE' (Bel.emp w) (Nat.le_refl _) (Nat.zero_le _) hown (hr' w hw) (fun u hu => List.all_eq_true.1 h1 u hu) h63 hby
  refine ⟨v', w', _, ?_, ⟨(row_of_own h2).1, rfl⟩, Sat.app (H1 := H) (v := .slice none 0 0) (n := 0) (xs := []) hw RowOk.nil h2 h4 h5⟩
  simp only [execOp, resolve, List.map_toArray, List.map_cons, List.map_nil, ha.eval hs, ha.eval hx, Sem.run_bind, Sem.run_pure, Result.andThen_ok, invoke, builtin, hrun]
 ·obtain ⟨b', rfl⟩ : ∃ b', B = some b' := by cases B with | none => exact absurd rfl hB | some b' => exact ⟨b', rfl⟩
  refine sx_make (R := fun v' H' => RowOk v' (n + m) ∧ H' = rowE v' e size (xs ++ news) ++ H) hN (fun a w ha hw => ?_) (fun v' H' hR => by obtain ⟨h2, rfl⟩ := hR; exact h v' h2)
  obtain ⟨ht, i, z, hi, hz, hsize, hbs, hzs, hsz⟩ := hE
  have cells : ∀ {A : Addr} {k : Nat} {ys : List Value}, Rd w size (some A) k ys → ys.length = k * size ∧ ∀ j u, ys[j]? = some u → w.cell? (A.add j) = some u := fun {A k ys} hR => by
   refine ⟨hR.1, fun j u hu => ?_⟩
   rcases Nat.eq_zero_or_pos k with hk | hk
   ·have := hR.1
    rw [hk, Nat.zero_mul] at this
    rw [List.length_eq_zero_iff.1 this] at hu
    simp at hu
   ·obtain ⟨g, o, hA, _, hc⟩ := hR.2.2 hk
    obtain rfl := Option.some.inj hA
    rw [jH6]
    exact hc j u hu
  obtain ⟨l1, c1⟩ := cells (hr w hw)
  obtain ⟨l2, c2⟩ := cells (hr' w hw)
  obtain ⟨v', w', hrun, h2, h3⟩ := run_append_arg_grows (P := P) w t ty e i z size bytes ht hi hz hsize hbs hzs hsz ⟨g, o, none⟩ n n xs l1 c1 b' m c news l2 c2 (by omega) h63 hby
  refine ⟨v', w', _, ?_, ⟨(row_of_own h2).1, rfl⟩, hw.row ⟨h3.os, h3.tape, h3.output, h3.size, fun k hk => h3.block k hk (by simp)⟩ h2⟩
  simp only [execOp, resolve, List.map_toArray, List.map_cons, List.map_nil, ha.eval hs, ha.eval hx, Sem.run_bind, Sem.run_pure, Result.andThen_ok, invoke, builtin, hrun]
theorem sx_callI {f : FuncId} {xs : List Operand} {vs : List Value} {ts : Array TypeId} {e : TypeId} {size n : Nat} {ys : List Value} (U : Heap) (hc : Fn P f vs U fun u H' => RowOk u n ∧ H' = rowE u e size ys) (hx : evs fr xs = some vs) (hU : U.Sublist H) (hroU : Ro U) (hN : Nat.ble (d + 1) N.n = true)
  (h : ∀ A c, SlIn A n c → sx P N w0 Wr ops rest ((d, .slice A n c) :: fr) (roE A ys ++ H) Z) :
  sx P N w0 Wr ops (⟨some d, .call { callee := .value (.func f), args := xs.toArray, argTypes := ts }, ty, pos, after, none⟩ :: rest) fr H Z :=
 sx_callRT U hc hx hU hroU hN (fun v hv => by
  have hn : ∀ A c, v = .slice A n c → A = none → c = 0 := fun A c hv2 ha => by
   rcases hv with ⟨h1, _⟩ | ⟨g, c', h1⟩
   ·rw [h1] at hv2; injection hv2 with _ _ h3; exact h3.symm
   ·rw [h1] at hv2; injection hv2 with h2 _ _; rw [ha] at h2; cases h2
  obtain ⟨A, c, rfl, hA, hle⟩ := hv.ro
  refine sx_pure (fun w hw => row_cap hv (fun x hx => List.mem_append_left _ hx) hw) (fun hcap => ?_)
  exact jC1 (roE A ys ++ H) (hle [] H _ _ _) (h A c ⟨hA, hcap.1, hn A c rfl⟩))
end
def clen_rho : Go.Shelf.Ren := ⟨fun n => match n with | 0 => 0 | 1 => 1 | 2 => 2 | 99 => 152 | 103 => 173 | 119 => 225 | 120 => 224 | 125 => 81 | 128 => 129 | 129 => 130 | 137 => 131 | 150 => 175 | 151 => 211 | 152 => 213 | 153 => 203 | 156 => 62 | 160 => 174 | 161 => 172 | 165 => 104 | 166 => 105 | 168 => 190 | 169 => 106 | 171 => 230 | 172 => 176 | 197 => 191 | 205 => 229 | 206 => 184 | 210 => 199 | 217 => 164 | 224 => 226 | 225 => 227 | 226 => 214 | 227 => 196 | 228 => 210 | 231 => 195 | 232 => 200 | 233 => 197 | 234 => 201 | 235 => 198 | 236 => 202 | 240 => 149 | 241 => 150 | 242 => 208 | 243 => 234 | 244 => 204 | 245 => 205 | 246 => 235 | 247 => 215 | 260 => 209 | 266 => 188 | 271 => 212 | 276 => 182 | 277 => 183 | 278 => 223 | 279 => 216 | 280 => 217 | 281 => 218 | 282 => 219 | 283 => 236 | 284 => 237 | 285 => 238 | 286 => 239 | 287 => 228 | 316 => 141 | 317 => 240 | 318 => 241 | 319 => 242 | 320 => 243 | 321 => 232 | 322 => 233 | 329 => 160 | 330 => 161 | 337 => 244 | 338 => 245 | 347 => 246 | 348 => 247 | 349 => 248 | 350 => 249 | 351 => 250 | 352 => 251 | 353 => 252 | 354 => 253 | 355 => 254 | 356 => 255 | 357 => 256 | 358 => 257 | 359 => 258 | 360 => 259 | 361 => 260 | 362 => 265 | 363 => 269 | 364 => 267 | 365 => 268 | 366 => 270 | 367 => 280 | _ => 0, fun n => match n with | 0 => 0 | 1 => 1 | 2 => 2 | 3 => 3 | 4 => 4 | 5 => 5 | 6 => 6 | 7 => 7 | 8 => 8 | 9 => 9 | 10 => 10 | 11 => 11 | 12 => 12 | 13 => 13 | 14 => 14 | 15 => 15 | 16 => 16 | 17 => 17 | 18 => 18 | 19 => 19 | 20 => 20 | 21 => 21 | 22 => 256 | 23 => 283 | 24 => 103 | 25 => 284 | 27 => 312 | 28 => 247 | 31 => 147 | 37 => 132 | 40 => 332 | 41 => 282 | 46 => 48 | 47 => 172 | 51 => 112 | 52 => 243 | 53 => 45 | 54 => 193 | 55 => 244 | 63 => 317 | 64 => 318 | 67 => 146 | 69 => 190 | 70 => 203 | 71 => 204 | 72 => 205 | 73 => 206 | 74 => 207 | 75 => 208 | 76 => 209 | 77 => 210 | 79 => 301 | 80 => 126 | 81 => 148 | 83 => 338 | 84 => 346 | 85 => 320 | 86 => 321 | 99 => 288 | 104 => 342 | 105 => 302 | 106 => 303 | 108 => 337 | 111 => 289 | 114 => 164 | 115 => 306 | 116 => 307 | 117 => 308 | 118 => 309 | 119 => 328 | 122 => 305 | 123 => 310 | 124 => 311 | 126 => 316 | 127 => 254 | 128 => 313 | 131 => 101 | 137 => 329 | 138 => 330 | 139 => 331 | 143 => 343 | 144 => 344 | 145 => 345 | 148 => 232 | 164 => 290 | 165 => 291 | 166 => 292 | 167 => 319 | 168 => 322 | 169 => 323 | 170 => 324 | 171 => 347 | 172 => 348 | 173 => 349 | 174 => 350 | 175 => 333 | 176 => 334 | 182 => 237 | 183 => 238 | 203 => 339 | 209 => 335 | 210 => 336 | 211 => 351 | 212 => 352 | 213 => 353 | 214 => 341 | 218 => 268 | 219 => 269 | 220 => 218 | 222 => 271 | 228 => 296 | 229 => 297 | 232 => 354 | 233 => 355 | 238 => 356 | 239 => 357 | 240 => 358 | 241 => 359 | 242 => 360 | 243 => 361 | 244 => 362 | 245 => 363 | 246 => 364 | 247 => 365 | 248 => 366 | 249 => 367 | _ => 0, fun n => match n with | 1 => 0 | 3 => 1 | 4 => 2 | 15 => 3 | 16 => 4 | 17 => 5 | 18 => 6 | 19 => 7 | _ => 0⟩
theorem clen0 : Lays.n129 Tryz.prog clen_rho where
 mixed := by kernel_rfl
 f129 := by kernel_rfl
 t3 := by kernel_rfl
 a3 := fun w => by kernel_rfl
 z3 := fun w => by kernel_rfl
 v3 := fun w => by kernel_rfl
 t4 := by kernel_rfl
 a4 := fun w => by kernel_rfl
 z4 := fun w => by kernel_rfl
 v4 := fun w => by kernel_rfl
 t5 := by kernel_rfl
 a5 := fun w => by kernel_rfl
 z5 := fun w => by kernel_rfl
 v5 := fun w => by kernel_rfl
 t9 := by kernel_rfl
 a9 := fun w => by kernel_rfl
 z9 := fun w => by kernel_rfl
 v9 := fun w => by kernel_rfl
 t46 := by kernel_rfl
 a46 := fun w => by kernel_rfl
 z46 := fun w => by kernel_rfl
 v46 := fun w => by kernel_rfl
 t53 := by kernel_rfl
 a53 := fun w => by kernel_rfl
 z53 := fun w => by kernel_rfl
 v53 := fun w => by kernel_rfl
theorem enter_clen : Enters Tryz.prog 130 := Enters.mk Tryz.func130 (by kernel_rfl) (by kernel_rfl)
theorem clen_fn (n : Nat) (h : n < 18446744073709551616) : Fn Tryz.prog 130 [uq n] [] fun v _ => v = iq (Lib.bitLen n) :=
 Fn.of_bel enter_clen fun w => (Any.bits_Len64 clen0 n w (by omega) (by omega)).mono fun e w' ⟨he, hw⟩ => ⟨he, hw ▸ Bel.refl w⟩
def growI_rho : Go.Shelf.Ren := ⟨fun n => match n with | 4 => 157 | _ => 0, fun n => match n with | 0 => 0 | 3 => 3 | 4 => 4 | 9 => 9 | 20 => 20 | 22 => 25 | 25 => 62 | _ => 0, fun n => match n with | _ => 0⟩
theorem growI0 : Lays8.n4 Tryz.prog growI_rho where
 mixed := by kernel_rfl
 f4 := ⟨"slices.Grow[[]gazetteer/chart.Item,gazetteer/chart.Item]", by decide, by kernel_rfl⟩
 t0 := by kernel_rfl
 a0 := fun w => by kernel_rfl
 z0 := fun w => by kernel_rfl
 v0 := fun w => by kernel_rfl
 t3 := by kernel_rfl
 a3 := fun w => by kernel_rfl
 z3 := fun w => by kernel_rfl
 v3 := fun w => by kernel_rfl
 t4 := by kernel_rfl
 a4 := fun w => by kernel_rfl
 z4 := fun w => by kernel_rfl
 v4 := fun w => by kernel_rfl
 t9 := by kernel_rfl
 a9 := fun w => by kernel_rfl
 z9 := fun w => by kernel_rfl
 v9 := fun w => by kernel_rfl
 t20 := by kernel_rfl
 a20 := fun w => by kernel_rfl
 z20 := fun w => by kernel_rfl
 v20 := fun w => by kernel_rfl
 t22 := by kernel_rfl
 a22 := fun w => by kernel_rfl
 z22 := fun w => by kernel_rfl
 v22 := fun w => by kernel_rfl
theorem enter_growI : Enters Tryz.prog 157 := Enters.mk Tryz.func157 (by kernel_rfl) (by kernel_rfl)
theorem growI_fn (n : Nat) (h : n ≤ 1000000) : Fn Tryz.prog 157 [.slice none 0 0, iq n] [] fun v H' => RowOk v 0 ∧ H' = rowE v 62 2 [] := by
 refine ⟨enter_growI, fun w hw => ?_⟩
 rcases Nat.eq_zero_or_pos n with h0 | h0
 ·subst h0
  have h1 : Calls Tryz.prog 157 #[.slice none 0 0, iq (0 : Nat)] w _ := Any8.slices_Grow_room growI0 none 0 0 0 w (Nat.le_refl _) (by omega) (by omega) (Nat.le_refl _)
  exact h1.mono fun e w' ⟨he, hw'⟩ => ⟨_, [], he, ⟨RowOk.nil, rfl⟩, hw' ▸ hw⟩
 ·obtain ⟨i0, hi0, hz0, hs0, hb0⟩ : ∃ i0, Tryz.prog.info? 62 = some i0 ∧ i0.zero = some (.agg #[uq 0, .string ⟨#[]⟩]) ∧ i0.size = 2 ∧ i0.bytes = 24 := by
   exact info_parts (by kernel_rfl)
  have h1 : Calls Tryz.prog 157 #[.slice none 0 0, iq (n : Nat)] w _ := Any8.slices_Grow_grow growI0 i0 _ hi0 hz0 (by omega) none 0 0 n [] w (Nat.le_refl _) (by omega) (by rw [hb0]; omega) (by omega) (by simp) (fun _ => rfl) (fun a h => by cases h)
  refine h1.mono fun e w' ⟨he, hw'⟩ => ⟨_, _, he, ⟨RowOk.mk _ _ _, rfl⟩, ?_⟩
  subst hw'
  have hd := hw.drew
  refine (hd.allocOb _ (RowP 62 2 0 _ []) ⟨_, rfl, Nat.zero_le _, grownCap_le_maxLen w _ _ _ (by unfold maxLen; omega), ?_, by simp, rfl⟩)
  simp only [Array.size_append, List.size_toArray, size_zeroCells, List.length_nil]
  simp only [growI_rho]
  have := grownCap_ge w n 0 62
  simp [Value.cells]
  omega
end Go.Proofs.YtkojkeabelckjaaGreatDoor
end
