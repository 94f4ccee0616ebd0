/- Regions that draw their order and load one entry that no store of theirs touches. No conditions. -/
import Derived.Test.YtfffhnefjaomnaaSxU
namespace Go.Proofs.Ytfffhnefjaomnaa
open Go.RowKit
set_option linter.unusedVariables false
set_option linter.unusedSimpArgs false
set_option linter.unusedSectionVars false
section
variable {P : Program} {ops : Array Oper} {Q : Exit → Act → World → Prop} {C : World → Prop} {a b : Act} {w : World} {i j : Nat} {o oi oj : Oper} {v u : Value}
def YC (P : Program) (ops : Array Oper) (C : World → Prop) (o : Oper) (v : Value) (a : Act) : Prop := ∀ w, C w → YAt P ops o v a w
def vst (P : Program) (ops : Array Oper) (C : World → Prop) (Q : Exit → Act → World → Prop) (x : Nat × Bool) (K : Act → World → Prop) (a : Act) (w : World) : Prop :=
  match x.2 with
  | true => ∃ o v, ops[x.1]? = some o ∧ YC P ops C o v a ∧ K (a.put o.dst v) w
  | false => wpOp P ops (QN Q) x.1 (fun a w' => C w' ∧ K a w') a w
def Wv (P : Program) (ops : Array Oper) (C : World → Prop) (Q : Exit → Act → World → Prop) : List (Nat × Bool) → Act → World → Prop
  | [], a, w => QN Q .normal a w
  | x :: r, a, w => vst P ops C Q x (Wv P ops C Q r) a w
theorem vst_mono {x : Nat × Bool} {K K' : Act → World → Prop} (h : ∀ a w, K a w → K' a w) (hh : vst P ops C Q x K a w) : vst P ops C Q x K' a w := by
  unfold vst at hh ⊢
  split
  · rename_i hx
    rw [hx] at hh
    obtain ⟨o, v, h1, h2, h3⟩ := hh
    exact ⟨o, v, h1, h2, h _ _ h3⟩
  · rename_i hx
    rw [hx] at hh
    exact wpOp_mono (fun a w ⟨hc, hk⟩ => ⟨hc, h a w hk⟩) hh
theorem vst_op {x : Nat × Bool} {K : Act → World → Prop} (hC : C w) (hh : vst P ops C Q x K a w) : wpOp P ops (QN Q) x.1 (fun a w' => C w' ∧ K a w') a w := by
  unfold vst at hh
  split at hh
  · obtain ⟨o, v, h1, h2, h3⟩ := hh
    exact (h2 w hC).wp h1 ⟨hC, h3⟩
  · exact hh
theorem vst_swap {x y : Nat × Bool} {K : Act → World → Prop} (hi : ops[x.1]? = some oi) (hj : ops[y.1]? = some oj) (hap : oi.apart ops oj = true) (hsi : ∀ cs b, oi.op ≠ .select cs b) (hsj : ∀ cs b, oj.op ≠ .select cs b)
    (hc : x.2 = true ∨ y.2 = true) (h : vst P ops C Q x (vst P ops C Q y K) a w) : vst P ops C Q y (vst P ops C Q x K) a w := by
  obtain ⟨h1, h2, h3⟩ := Oper.apart_spec hap
  have h4 : ∀ t, oj.dst = some t → oi.dst ≠ some t := fun t ht hi' => h2 t hi' ht
  obtain ⟨i, bi⟩ := x
  obtain ⟨j, bj⟩ := y
  cases bi <;> cases bj
  · simp at hc
  · simp only [vst] at h ⊢
    have h' := wpOp_near hi h
    by_cases hv : ∃ v, YC P ops C oj v a
    · obtain ⟨v, hv⟩ := hv
      refine ⟨oj, v, hj, hv, ?_⟩
      rw [wpOp_put hi hsi h3 h4]
      refine wpOp_mono (fun b w' hb => ?_) h'
      obtain ⟨⟨hC', o, u, e, hu, hk⟩, hn⟩ := hb
      rw [hj] at e; obtain rfl := Option.some.inj e
      have : u = v := (hu w' hC').uniq ((hv w' hC').near hn hsj h1)
      exact ⟨hC', this ▸ hk⟩
    · refine (wpOp_false hi (wpOp_mono (fun b w' hb => ?_) h')).elim
      obtain ⟨⟨hC', o, u, e, hu, hk⟩, hn⟩ := hb
      rw [hj] at e; obtain rfl := Option.some.inj e
      exact hv ⟨u, fun w'' hC'' => (hu w'' hC'').back hn hsj h1⟩
  · simp only [vst] at h ⊢
    obtain ⟨o, v, e, hv, hk⟩ := h
    rw [hi] at e; obtain rfl := Option.some.inj e
    rw [wpOp_put hj hsj h1 h2] at hk
    exact wpOp_mono (fun b w' ⟨⟨hC', hb⟩, hn⟩ => ⟨hC', oi, v, hi, fun w'' hC'' => (hv w'' hC'').near hn hsi h3, hb⟩) (wpOp_near hj hk)
  · simp only [vst] at h ⊢
    obtain ⟨o, v, e, hv, o', u, e', hu, hk⟩ := h
    rw [hi] at e; obtain rfl := Option.some.inj e
    rw [hj] at e'; obtain rfl := Option.some.inj e'
    exact ⟨oj, u, hj, fun w'' hC'' => (hu w'' hC'').back ⟨v, rfl⟩ hsj h1, oi, v, hi, fun w'' hC'' => (hv w'' hC'').near ⟨u, rfl⟩ hsi h3, by rw [← Act.put_comm a v u h2]; exact hk⟩
def MayV (ops : Array Oper) (x y : Nat × Bool) : Prop := ∃ oi oj, ops[x.1]? = some oi ∧ ops[y.1]? = some oj ∧ oi.apart ops oj = true ∧ (x.2 = true ∨ y.2 = true)
theorem v_front (hsel : ∀ (j : Nat) (o : Oper) cs b, ops[j]? = some o → o.op ≠ .select cs b) {y : Nat × Bool} {r : List (Nat × Bool)} : ∀ (p : List (Nat × Bool)) (a : Act) (w : World),
    (∀ x ∈ p, MayV ops x y) → Wv P ops C Q (p ++ y :: r) a w → vst P ops C Q y (Wv P ops C Q (p ++ r)) a w
  | [], a, w, _, h => h
  | x :: p, a, w, hp, h => by
    obtain ⟨oi, oj, h1, h2, h3, h4⟩ := hp x List.mem_cons_self
    have h5 : vst P ops C Q x (vst P ops C Q y (Wv P ops C Q (p ++ r))) a w := vst_mono (fun b w' hb => v_front hsel p b w' (fun k hk => hp k (List.mem_cons_of_mem _ hk)) hb) h
    exact vst_swap h1 h2 h3 (fun cs b => hsel x.1 oi cs b h1) (fun cs b => hsel y.1 oj cs b h2) h4 h5
theorem any_of_v (hsel : ∀ (j : Nat) (o : Oper) cs b, ops[j]? = some o → o.op ≠ .select cs b) (hedge : ∀ (j : Nat) (o : Oper), ops[j]? = some o → ∀ e ∈ o.after, Region.binds .any e = true → e.on < ops.size) :
    ∀ (n : Nat) (ord : List (Nat × Bool)) (listed : Array Bool) (a : Act) (w : World), ord.length = n → C w → Left ops (ord.map Prod.fst) listed →
    (ord.Pairwise fun x y => Dep ops x.1 y.1 ∨ MayV ops x y) → Wv P ops C Q ord a w → wpAny P .any ops (QN Q) n listed a w := by
  intro n
  induction n with
  | zero =>
    intro ord listed a w hl hC hL hp h
    obtain rfl := List.eq_nil_of_length_eq_zero hl
    refine ⟨List.eq_nil_iff_forall_not_mem.2 fun j hj => ?_, h⟩
    obtain ⟨h0, o, ho, _⟩ := mem_ready.1 hj
    have := (hL.mem j (Array.getElem?_eq_some_iff.1 ho).1).1 h0
    simp at this
  | succ n ih =>
    intro ord listed a w hl hC hL hp h
    refine ⟨fun hnil => ?_, fun j hj => ?_⟩
    · exfalso
      match ord, hl with
      | x :: r, _ =>
        have := hL.first hedge
        rw [hnil] at this
        cases this
    · have hdeps := hL.deps hedge hj
      obtain ⟨h0, o, ho, hall⟩ := mem_ready.1 hj
      have hjm := (hL.mem j (Array.getElem?_eq_some_iff.1 ho).1).1 h0
      obtain ⟨bj, hjb⟩ := mem_fst hjm
      obtain ⟨p, r, rfl⟩ := List.append_of_mem hjb
      have hpp := List.pairwise_append.1 hp
      have hswap : ∀ x ∈ p, MayV ops x (j, bj) := fun x hx => by
        rcases hpp.2.2 x hx (j, bj) List.mem_cons_self with hd | hd
        · exact absurd (List.mem_map.2 ⟨x, List.mem_append_left _ hx, rfl⟩) (hdeps x.1 hd)
        · exact hd
      have hL' : Left ops ((p ++ r).map Prod.fst) (listed.setIfInBounds j true) := by
        rw [List.map_append]
        exact Left.step (by simpa using hL) hedge hj
      refine wpOp_mono (fun b w' hb => ih (p ++ r) _ b w' (by simp at hl ⊢; omega) hb.1 hL' ?_ hb.2) (vst_op hC (v_front hsel p a w hswap h))
      exact List.pairwise_append.2 ⟨hpp.1, (List.pairwise_cons.1 hpp.2.1).2, fun x hx y hy => hpp.2.2 x hx y (List.mem_cons_of_mem _ hy)⟩
def vB (ops : Array Oper) (A : List (List Nat)) : List (Nat × Bool) → Bool
  | [] => true
  | x :: r => (r.all fun y => (A.getD y.1 []).contains x.1 || (apB ops x.1 y.1 && (x.2 || y.2))) && vB ops A r
theorem vB_ok {A : List (List Nat)} (hA : ∀ j i, i ∈ A.getD j [] → Dep ops i j) : ∀ {l : List (Nat × Bool)}, vB ops A l = true → l.Pairwise fun x y => Dep ops x.1 y.1 ∨ MayV ops x y
  | [], _ => List.Pairwise.nil
  | x :: r, h => by
    simp only [vB, Bool.and_eq_true] at h
    refine List.Pairwise.cons (fun y hy => ?_) (vB_ok hA h.2)
    have := List.all_eq_true.1 h.1 y hy
    simp only [Bool.or_eq_true, Bool.and_eq_true] at this
    rcases this with h1 | ⟨h1, h2⟩
    · exact .inl (hA _ _ (by simpa using h1))
    · obtain ⟨oi, oj, e1, e2, e3⟩ := apB_ok h1
      exact .inr ⟨oi, oj, e1, e2, e3, h2⟩
def calmB (l : List Oper) (ls : List (Nat × Bool)) : Bool :=
  Region.noSelect l.toArray && Nat.beq ls.length l.length && decide (ls.map Prod.fst).Nodup && extB l.toArray [] (ls.map Prod.fst) && vB l.toArray (ancs l) ls
theorem wp_region_calm {N : Frm} {id : Nat} {l : List Oper} {a : Act} {w : World} (ls : List (Nat × Bool)) (hm : P.follows .mixedOrders = true) (hB : calmB l ls = true) (hC : C w.drew) (h : Wv P l.toArray C Q ls a w.drew) : wq P N (.region id l.toArray true) Q a w := by
  simp only [calmB, Bool.and_eq_true, decide_eq_true_eq] at hB
  obtain ⟨⟨⟨⟨hsel, hlen⟩, hnd⟩, hext⟩, hpairs⟩ := hB
  have hlen := Nat.eq_of_beq_eq_true hlen
  obtain ⟨he1, he2⟩ := ext_ok hext (by simp) hnd
  have hall : ∀ k, k < l.length → k ∈ ls.map Prod.fst := all_in l.length _ hnd (by simpa using hlen) (fun x hx => by simpa using he2 x hx)
  have hedge : ∀ (j : Nat) (o : Oper), l.toArray[j]? = some o → ∀ e ∈ o.after, Region.binds .any e = true → e.on < l.toArray.size := fun j o ho e he hb =>
    ext_edges _ _ hext (by simp) j (hall j (by simpa using (Array.getElem?_eq_some_iff.1 ho).1)) o ho e he hb
  refine wq_any hm ?_
  have hA := ancs_ok l
  have := any_of_v (P := P) (Q := Q) (C := C) (Region.noSelect_spec hsel) hedge ls.length ls (Array.replicate l.toArray.size false) a w.drew rfl hC
    ⟨hnd, by simp, he2, fun k hk => by
      have h1 : k ∈ ls.map Prod.fst := hall k (by simpa using hk)
      have hk' : k < l.length := by simpa using hk
      have h2 : (Array.replicate l.toArray.size false).getD k true = false := by simp [Array.getD_eq_getD_getElem?, hk']
      exact ⟨fun _ => h1, fun _ => h2⟩, he1, fun j o ho hj => absurd (hall j (by simpa using (Array.getElem?_eq_some_iff.1 ho).1)) hj⟩
    (vB_ok hA hpairs) h
  have e : ls.length = l.toArray.size := by simpa using hlen
  rw [e] at this
  exact this
end
def tv (P : Program) (N : Frm) (w0 : World) (Wr : List Nat) (ops : Array Oper) (e0 : Ent) (xs : List (Nat × Bool)) (fr : Fr) (H : Heap) (Z : Fr → Heap → Prop) : Prop :=
  ∀ (Q : Exit → Act → World → Prop), (∀ fr' H' a w, Z fr' H' → FrOk N fr' a → Sat w0 Wr H' w → Q .normal a w) → ∀ a w, FrOk N fr a → Sat w0 Wr H w → Wv P ops e0.holds Q xs a w
section
variable {P : Program} {N : Frm} {w0 : World} {Wr : List Nat} {ops : Array Oper} {fr : Fr} {H : Heap} {Z : Fr → Heap → Prop} {e0 : Ent}
variable {d ty : Nat} {pos : String} {after : Array Edge}
theorem tv_nil (h : Z fr H) : tv P N w0 Wr ops e0 [] fr H Z := fun _ hQ a w ha hw => ⟨rfl, hQ _ _ a w h ha hw⟩
theorem tv_p {i : Nat} {o : Oper} {xs : List (Nat × Bool)} (ho : ops[i]? = some o) (h : sp P N w0 Wr ops [o] fr H fun fr' H' => tv P N w0 Wr ops e0 xs fr' H' Z) : tv P N w0 Wr ops e0 ((i, true) :: xs) fr H Z :=
  fun Q hQ a w ha hw => by
    obtain ⟨v, hv, hk⟩ := h (fun a => Wv P ops e0.holds Q xs a w) (fun fr' a ht hf => ht Q hQ a w hf hw) a ha
    exact ⟨o, v, ho, fun w _ => hv w, hk⟩
theorem tv_load {t : TypeId} {x : Operand} {g o i : Nat} {e : TypeId} {cs : List Value} {agg : Bool} {n : Nat} {v : Value} {xs : List (Nat × Bool)} (ho : ops[i]? = some ⟨some d, .load t x, ty, pos, after, none⟩) (hx : ev fr x = some (ptr g o)) (ht : tyAgg P t = some agg) (hn : tySize P t = some n) (hv : rdV agg n cs o = some v) (hN : Nat.ble (d + 1) N.n = true)
    (h : tv P N w0 Wr ops (.own g e cs) xs ((d, v) :: fr) H Z) : tv P N w0 Wr ops (.own g e cs) ((i, true) :: xs) fr H Z :=
  fun Q hQ a w ha hw => ⟨_, v, ho, fun w hc => .inl ⟨rfl, by
    have hc := Ent.cell hc
    simp only [execOp, Instr.loadAt, ha.eval hx, ptr, Instr.sureAddr, Sem.run_bind, Sem.run_pure, Result.andThen_ok]
    rw [run_loadVar ht hn hv (fun j u hu => (hc j).trans hu)]
    rfl⟩, h Q hQ _ w (ha.put hN v) hw⟩
theorem tv_g (k : Nat) {i : Nat} {o : Oper} {xs : List (Nat × Bool)} (ho : ops[i]? = some o) (h : sx P N w0 Wr ops [o] fr H fun fr' H' => H'[k]? = some e0 ∧ tv P N w0 Wr ops e0 xs fr' H' Z) : tv P N w0 Wr ops e0 ((i, false) :: xs) fr H Z :=
  fun Q hQ a w ha hw => by
    have h1 := h (QN fun _ a w => e0.holds w ∧ Wv P ops e0.holds Q xs a w) (fun fr' H' a w ht hf hS => ⟨rfl, hS.mem ht.1, ht.2 Q hQ a w hf hS⟩) a w ha hw
    show wpOp P ops (QN Q) i (fun a w' => e0.holds w' ∧ Wv P ops e0.holds Q xs a w') a w
    refine wpOp_any (Q := fun _ a w => e0.holds w ∧ Wv P ops e0.holds Q xs a w) ho ?_
    unfold wpOp
    simp only [ho]
    unfold wpList at h1
    split
    · rename_i hw'
      rw [if_pos hw'] at h1
      exact h1.imp (Oper.wp_mono fun a w hh => hh.2) id
    · rename_i hw'
      rw [if_neg hw'] at h1
      exact h1.2
theorem awv_region {Q : Exit → Act → World → Prop} {id : Nat} {l : List Oper} (k : Nat) (ls : List (Nat × Bool)) (hm : P.follows .mixedOrders = true) (hB : calmB l ls = true) (hk : H[k]? = some e0)
    (h : ∀ Z : Fr → Heap → Prop, (∀ fr H, nx N w0 Wr fr H Q .normal → Z fr H) → tv P N w0 Wr l.toArray e0 ls fr H Z) : awp P N w0 Wr (.region id l.toArray true) fr H Q :=
  fun a w ha hw => wp_region_calm (C := e0.holds) ls hm hB (hw.drew.mem hk)
    (h (fun fr H => nx N w0 Wr fr H Q .normal) (fun _ _ h => h) Q (fun fr' H' a w hz hf hs => hz a w hf hs) a w.drew ha hw.drew)
theorem awv_seq_region {Q : Exit → Act → World → Prop} {id : Nat} {l : List Oper} {y : Code} (k : Nat) (ls : List (Nat × Bool)) (hm : P.follows .mixedOrders = true) (hB : calmB l ls = true) (hk : H[k]? = some e0)
    (h : ∀ Z : Fr → Heap → Prop, (∀ fr H, awp P N w0 Wr y fr H Q → Z fr H) → tv P N w0 Wr l.toArray e0 ls fr H Z) : awp P N w0 Wr (.seq (.region id l.toArray true) y) fr H Q :=
  awp_seq (awv_region k ls hm hB hk fun Z hZ => h Z fun fr H hy => hZ fr H hy)
end
end Go.Proofs.Ytfffhnefjaomnaa
