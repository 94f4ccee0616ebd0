/- Regions that draw their order: each operation with a mark that tells whether it is seen to yield the same in every world. No conditions. -/
import Derived.Test.YtfffhnefjaomnaaSxH
namespace Go.Proofs.Ytfffhnefjaomnaa
open Go.RowKit
set_option linter.unusedVariables false
set_option linter.unusedSimpArgs false
set_option linter.unusedSectionVars false
section
variable {P : Program} {ops : Array Oper} {Q : Exit → Act → World → Prop} {C : World → Prop} {a b : Act} {w : World} {i j : Nat} {o oi oj : Oper} {v u : Value}
/-- Seen to yield the same in every world. -/
def YAll (P : Program) (ops : Array Oper) (o : Oper) (v : Value) (a : Act) : Prop := ∀ w, YAt P ops o v a w
theorem YAt.uniq (h : YAt P ops o v a w) (k : YAt P ops o u a w) : v = u := by
  rcases h with ⟨h1, h2⟩ | ⟨h1, rfl⟩
  · rcases k with ⟨k1, k2⟩ | ⟨k1, rfl⟩
    · rw [h2] at k2; injection k2 with k2; injection k2
    · rw [h1] at k1; cases k1
  · rcases k with ⟨k1, k2⟩ | ⟨k1, rfl⟩
    · rw [h1] at k1; cases k1
    · rfl
theorem YAt.back {d : Option Nat} (hy : YAt P ops o v b w) (h : Near a d b) (hs : ∀ cs b, o.op ≠ .select cs b) (hd : ∀ t, d = some t → t ∉ o.looksAt ops) : YAt P ops o v a w := by
  obtain ⟨h1, h2⟩ := h.eval (ops := ops) o hs hd
  unfold YAt at hy
  rw [h1, h2] at hy
  exact hy
def stp (P : Program) (ops : Array Oper) (C : World → Prop) (x : Nat × Bool) (K : Act → Prop) (a : Act) : Prop :=
  ∃ o v, ops[x.1]? = some o ∧ (match x.2 with | true => YAll P ops o v a | false => YieldsIn P ops C o v a) ∧ K (a.put o.dst v)
def Wq (P : Program) (ops : Array Oper) (C : World → Prop) (K : Act → Prop) : List (Nat × Bool) → Act → Prop
  | [], a => K a
  | x :: r, a => stp P ops C x (Wq P ops C K r) a
def gst (P : Program) (ops : Array Oper) (Q : Exit → Act → World → Prop) (x : Nat × Bool) (K : Act → World → Prop) (a : Act) (w : World) : Prop :=
  match x.2 with
  | true => ∃ o v, ops[x.1]? = some o ∧ YAll P ops o v a ∧ K (a.put o.dst v) w
  | false => wpOp P ops (QN Q) x.1 K a w
def Wg (P : Program) (ops : Array Oper) (Q : Exit → Act → World → Prop) : List (Nat × Bool) → Act → World → Prop
  | [], a, w => QN Q .normal a w
  | x :: r, a, w => gst P ops Q x (Wg P ops Q r) a w
theorem stp_mono {x : Nat × Bool} {K K' : Act → Prop} (h : ∀ a, K a → K' a) (hh : stp P ops C x K a) : stp P ops C x K' a := by
  obtain ⟨o, v, h1, h2, h3⟩ := hh
  exact ⟨o, v, h1, h2, h _ h3⟩
theorem gst_mono {x : Nat × Bool} {K K' : Act → World → Prop} (h : ∀ a w, K a w → K' a w) (hh : gst P ops Q x K a w) : gst P ops Q x K' a w := by
  unfold gst at hh ⊢
  split
  · rename_i hx
    rw [hx] at hh
    obtain ⟨o, v, h1, h2, h3⟩ := hh
    exact ⟨o, v, h1, h2, h _ _ h3⟩
  · rename_i hx
    rw [hx] at hh
    exact wpOp_mono h hh
theorem gst_op {x : Nat × Bool} {K : Act → World → Prop} (hh : gst P ops Q x K a w) : wpOp P ops (QN Q) x.1 K a w := by
  unfold gst at hh
  split at hh
  · obtain ⟨o, v, h1, h2, h3⟩ := hh
    exact (h2 w).wp h1 h3
  · exact hh
theorem stp_op {x : Nat × Bool} {K : Act → Prop} {K' : Act → World → Prop} (hC : C w) (h : ∀ a w', C w' → K a → K' a w') (hh : stp P ops C x K a) : wpOp P ops (QN Q) x.1 K' a w := by
  obtain ⟨o, v, h1, h2, h3⟩ := hh
  split at h2
  · exact (h2 w).wp h1 (h _ _ hC h3)
  · exact wpOp_of_qOp hC h (h2.qOp h1 h3)
/-- The mark's evidence does not hang on a slot that is not looked at. -/
theorem ev_put {t : Bool} {d : Option Nat} (hs : ∀ cs b, o.op ≠ .select cs b) (hd : ∀ k, d = some k → k ∉ o.looksAt ops) :
    (match t with | true => YAll P ops o v (a.put d u) | false => YieldsIn P ops C o v (a.put d u)) ↔ (match t with | true => YAll P ops o v a | false => YieldsIn P ops C o v a) := by
  cases t
  · have h1 := execOp_put o hs a d u hd
    have h2 := wanted_put o a d u hd
    exact ⟨fun h => h.of_same h1.symm h2.symm, fun h => h.of_same h1 h2⟩
  · have hn : Near a d (a.put d u) := ⟨u, rfl⟩
    exact ⟨fun h w => (h w).back hn hs hd, fun h w => (h w).near hn hs hd⟩
theorem stp_swap {x y : Nat × Bool} {K : Act → Prop} (hi : ops[x.1]? = some oi) (hj : ops[y.1]? = some oj) (hap : oi.apart ops oj = true) (hsi : ∀ cs b, oi.op ≠ .select cs b) (hsj : ∀ cs b, oj.op ≠ .select cs b)
    (h : stp P ops C x (stp P ops C y K) a) : stp P ops C y (stp P ops C x K) a := by
  obtain ⟨h1, h2, h3⟩ := Oper.apart_spec hap
  obtain ⟨o, v, e1, hv, o', u, e2, hu, hk⟩ := h
  rw [hi] at e1; obtain rfl := Option.some.inj e1
  rw [hj] at e2; obtain rfl := Option.some.inj e2
  exact ⟨oj, u, hj, (ev_put hsj h1).1 hu, oi, v, hi, (ev_put hsi h3).2 hv, by rw [← Act.put_comm a v u h2]; exact hk⟩
theorem gst_swap {x y : Nat × Bool} {K : Act → World → Prop} (hi : ops[x.1]? = some oi) (hj : ops[y.1]? = some oj) (hap : oi.apart ops oj = true) (hsi : ∀ cs b, oi.op ≠ .select cs b) (hsj : ∀ cs b, oj.op ≠ .select cs b)
    (hc : x.2 = true ∨ y.2 = true ∨ clsOk (opCls P oi.op) (opCls P oj.op) = true) (h : gst P ops Q x (gst P ops Q y K) a w) : gst P ops Q y (gst P ops Q x K) a w := by
  obtain ⟨h1, h2, h3⟩ := Oper.apart_spec hap
  have h4 : ∀ t, oj.dst = some t → oi.dst ≠ some t := fun t ht hi' => h2 t hi' ht
  obtain ⟨i, bi⟩ := x
  obtain ⟨j, bj⟩ := y
  cases bi <;> cases bj
  · -- neither is marked
    simp only [gst] at h ⊢
    exact wpOp_swap hi hj hap hsi hsj (cls_ok (by simpa using hc)) h
  · -- the second one is marked
    simp only [gst] at h ⊢
    have h' := wpOp_near hi h
    by_cases hv : ∃ v, YAll P ops oj v a
    · obtain ⟨v, hv⟩ := hv
      refine ⟨oj, v, hj, hv, ?_⟩
      rw [wpOp_put hi hsi h3 h4]
      refine wpOp_mono (fun b w' hb => ?_) h'
      obtain ⟨⟨o, u, e, hu, hk⟩, hn⟩ := hb
      rw [hj] at e; obtain rfl := Option.some.inj e
      have : u = v := (hu w').uniq ((hv w').near hn hsj h1)
      exact this ▸ hk
    · refine (wpOp_false hi (wpOp_mono (fun b w' hb => ?_) h')).elim
      obtain ⟨⟨o, u, e, hu, hk⟩, hn⟩ := hb
      rw [hj] at e; obtain rfl := Option.some.inj e
      exact hv ⟨u, fun w'' => (hu w'').back hn hsj h1⟩
  · -- the first one is marked
    simp only [gst] at h ⊢
    obtain ⟨o, v, e, hv, hk⟩ := h
    rw [hi] at e; obtain rfl := Option.some.inj e
    rw [wpOp_put hj hsj h1 h2] at hk
    exact wpOp_mono (fun b w' ⟨hb, hn⟩ => ⟨oi, v, hi, fun w'' => (hv w'').near hn hsi h3, hb⟩) (wpOp_near hj hk)
  · simp only [gst] at h ⊢
    obtain ⟨o, v, e, hv, o', u, e', hu, hk⟩ := h
    rw [hi] at e; obtain rfl := Option.some.inj e
    rw [hj] at e'; obtain rfl := Option.some.inj e'
    exact ⟨oj, u, hj, fun w'' => (hu w'').back ⟨v, rfl⟩ hsj h1, oi, v, hi, fun w'' => (hv w'').near ⟨u, rfl⟩ hsi h3, by rw [← Act.put_comm a v u h2]; exact hk⟩
/-- A pair that may change places, marks and all. -/
def MayG (P : Program) (ops : Array Oper) (x y : Nat × Bool) : Prop := ∃ oi oj, ops[x.1]? = some oi ∧ ops[y.1]? = some oj ∧ oi.apart ops oj = true ∧ (x.2 = true ∨ y.2 = true ∨ clsOk (opCls P oi.op) (opCls P oj.op) = true)
def MayQ (ops : Array Oper) (x y : Nat × Bool) : Prop := ∃ oi oj, ops[x.1]? = some oi ∧ ops[y.1]? = some oj ∧ oi.apart ops oj = true
theorem g_front (hsel : ∀ (j : Nat) (o : Oper) cs b, ops[j]? = some o → o.op ≠ .select cs b) {y : Nat × Bool} {r : List (Nat × Bool)} : ∀ (p : List (Nat × Bool)) (a : Act) (w : World),
    (∀ x ∈ p, MayG P ops x y) → Wg P ops Q (p ++ y :: r) a w → gst P ops Q y (Wg P ops Q (p ++ r)) a w
  | [], a, w, _, h => h
  | x :: p, a, w, hp, h => by
    obtain ⟨oi, oj, h1, h2, h3, h4⟩ := hp x List.mem_cons_self
    have h5 : gst P ops Q x (gst P ops Q y (Wg P ops Q (p ++ r))) a w := gst_mono (fun b w' hb => g_front hsel p b w' (fun k hk => hp k (List.mem_cons_of_mem _ hk)) hb) h
    exact gst_swap h1 h2 h3 (fun cs b => hsel x.1 oi cs b h1) (fun cs b => hsel y.1 oj cs b h2) h4 h5
theorem s_front (hsel : ∀ (j : Nat) (o : Oper) cs b, ops[j]? = some o → o.op ≠ .select cs b) {y : Nat × Bool} {r : List (Nat × Bool)} {K : Act → Prop} : ∀ (p : List (Nat × Bool)) (a : Act),
    (∀ x ∈ p, MayQ ops x y) → Wq P ops C K (p ++ y :: r) a → stp P ops C y (Wq P ops C K (p ++ r)) a
  | [], a, _, h => h
  | x :: p, a, hp, h => by
    obtain ⟨oi, oj, h1, h2, h3⟩ := hp x List.mem_cons_self
    have h5 : stp P ops C x (stp P ops C y (Wq P ops C K (p ++ r))) a := stp_mono (fun b hb => s_front hsel p b (fun k hk => hp k (List.mem_cons_of_mem _ hk)) hb) h
    exact stp_swap h1 h2 h3 (fun cs b => hsel x.1 oi cs b h1) (fun cs b => hsel y.1 oj cs b h2) h5
theorem mem_fst {l : List (Nat × Bool)} {j : Nat} (h : j ∈ l.map Prod.fst) : ∃ b, (j, b) ∈ l := by
  obtain ⟨⟨k, b⟩, h1, rfl⟩ := List.mem_map.1 h
  exact ⟨b, h1⟩
theorem any_of_tag (hsel : ∀ (j : Nat) (o : Oper) cs b, ops[j]? = some o → o.op ≠ .select cs b) (hedge : ∀ (j : Nat) (o : Oper), ops[j]? = some o → ∀ e ∈ o.after, Region.binds .any e = true → e.on < ops.size) :
    ∀ (n : Nat) (ord : List (Nat × Bool)) (listed : Array Bool) (a : Act) (w : World), ord.length = n → Left ops (ord.map Prod.fst) listed →
    (ord.Pairwise fun x y => Dep ops x.1 y.1 ∨ MayG P ops x y) → Wg P ops Q ord a w → wpAny P .any ops (QN Q) n listed a w := by
  intro n
  induction n with
  | zero =>
    intro ord listed a w hl hL hp h
    obtain rfl := List.eq_nil_of_length_eq_zero hl
    refine ⟨List.eq_nil_iff_forall_not_mem.2 fun j hj => ?_, h⟩
    obtain ⟨h0, o, ho, _⟩ := mem_ready.1 hj
    have := (hL.mem j (Array.getElem?_eq_some_iff.1 ho).1).1 h0
    simp at this
  | succ n ih =>
    intro ord listed a w hl hL hp h
    refine ⟨fun hnil => ?_, fun j hj => ?_⟩
    · exfalso
      match ord, hl with
      | x :: r, _ =>
        have := hL.first hedge
        rw [hnil] at this
        cases this
    · have hdeps := hL.deps hedge hj
      obtain ⟨h0, o, ho, hall⟩ := mem_ready.1 hj
      have hjm := (hL.mem j (Array.getElem?_eq_some_iff.1 ho).1).1 h0
      obtain ⟨bj, hjb⟩ := mem_fst hjm
      obtain ⟨p, r, rfl⟩ := List.append_of_mem hjb
      have hpp := List.pairwise_append.1 hp
      have hswap : ∀ x ∈ p, MayG P ops x (j, bj) := fun x hx => by
        rcases hpp.2.2 x hx (j, bj) List.mem_cons_self with hd | hd
        · exact absurd (List.mem_map.2 ⟨x, List.mem_append_left _ hx, rfl⟩) (hdeps x.1 hd)
        · exact hd
      have hL' : Left ops ((p ++ r).map Prod.fst) (listed.setIfInBounds j true) := by
        rw [List.map_append]
        exact Left.step (by simpa using hL) hedge hj
      refine wpOp_mono (fun b w' hb => ih (p ++ r) _ b w' (by simp at hl ⊢; omega) hL' ?_ hb) (gst_op (g_front hsel p a w hswap h))
      exact List.pairwise_append.2 ⟨hpp.1, (List.pairwise_cons.1 hpp.2.1).2, fun x hx y hy => hpp.2.2 x hx y (List.mem_cons_of_mem _ hy)⟩
theorem g_of_q {ls : List (Nat × Bool)} : ∀ (qs : List (Nat × Bool)) (a : Act) (w : World), C w → (∀ x ∈ qs, x.2 = true) → Wq P ops C (fun a => ∀ w, C w → Wg P ops Q ls a w) qs a → Wg P ops Q (qs ++ ls) a w
  | [], a, w, hC, _, h => h w hC
  | (i, b) :: r, a, w, hC, hb, h => by
    obtain rfl : b = true := hb (i, b) List.mem_cons_self
    obtain ⟨o, v, h1, h2, h3⟩ := h
    exact ⟨o, v, h1, h2, g_of_q r _ w hC (fun x hx => hb x (List.mem_cons_of_mem _ hx)) h3⟩
theorem any_of_headT (hsel : ∀ (j : Nat) (o : Oper) cs b, ops[j]? = some o → o.op ≠ .select cs b) (hedge : ∀ (j : Nat) (o : Oper), ops[j]? = some o → ∀ e ∈ o.after, Region.binds .any e = true → e.on < ops.size) {ls : List (Nat × Bool)}
    (hpl : ls.Pairwise fun x y => Dep ops x.1 y.1 ∨ MayG P ops x y) :
    ∀ (n : Nat) (qs : List (Nat × Bool)) (listed : Array Bool) (a : Act) (w : World), qs.length = n → C w → Left ops ((qs ++ ls).map Prod.fst) listed →
    (qs.Pairwise fun x y => Dep ops x.1 y.1 ∨ MayQ ops x y) → (∀ y ∈ ls, ∀ x ∈ qs, Dep ops x.1 y.1 ∨ (x.2 = true ∧ MayQ ops x y)) →
    Wq P ops C (fun a => ∀ w, C w → Wg P ops Q ls a w) qs a → wpAny P .any ops (QN Q) (n + ls.length) listed a w := by
  intro n
  induction n with
  | zero =>
    intro qs listed a w hl hC hL hpq hcross h
    obtain rfl := List.eq_nil_of_length_eq_zero hl
    rw [Nat.zero_add]
    exact any_of_tag hsel hedge ls.length ls listed a w rfl (by simpa using hL) hpl (h w hC)
  | succ n ih =>
    intro qs listed a w hl hC hL hpq hcross h
    by_cases hpure : ∀ x ∈ qs, x.2 = true
    · have hlen : (qs ++ ls).length = n + 1 + ls.length := by simp [hl]
      refine any_of_tag hsel hedge _ (qs ++ ls) listed a w hlen hL ?_ (g_of_q qs a w hC hpure h)
      refine List.pairwise_append.2 ⟨hpq.imp_of_mem fun {x y} hx _ hxy => ?_, hpl, fun x hx y hy => ?_⟩
      · rcases hxy with hd | ⟨oi, oj, h1, h2, h3⟩
        · exact .inl hd
        · exact .inr ⟨oi, oj, h1, h2, h3, .inl (hpure x hx)⟩
      · rcases hcross y hy x hx with hd | ⟨_, oi, oj, h1, h2, h3⟩
        · exact .inl hd
        · exact .inr ⟨oi, oj, h1, h2, h3, .inl (hpure x hx)⟩
    obtain ⟨x0, hx0, hx0b⟩ : ∃ x ∈ qs, x.2 ≠ true := by
      apply Classical.byContradiction
      intro hno
      refine hpure fun x hx => ?_
      apply Classical.byContradiction
      intro hne
      exact hno ⟨x, hx, hne⟩
    rw [show n + 1 + ls.length = (n + ls.length) + 1 by omega]
    refine ⟨fun hnil => ?_, fun j hj => ?_⟩
    · exfalso
      match qs, hl with
      | i :: r, _ =>
        have := hL.first hedge
        rw [hnil] at this
        cases this
    · have hdeps := hL.deps hedge hj
      obtain ⟨h0, o, ho, hall⟩ := mem_ready.1 hj
      have hjm := (hL.mem j (Array.getElem?_eq_some_iff.1 ho).1).1 h0
      obtain ⟨bj, hjb⟩ := mem_fst hjm
      have hjq : (j, bj) ∈ qs := by
        rcases List.mem_append.1 hjb with h1 | h1
        · exact h1
        · rcases hcross (j, bj) h1 x0 hx0 with hd | ⟨h2, _⟩
          · exact absurd (List.mem_map.2 ⟨x0, List.mem_append_left _ hx0, rfl⟩) (hdeps x0.1 hd)
          · exact absurd h2 hx0b
      obtain ⟨p, r, rfl⟩ := List.append_of_mem hjq
      have hpp := List.pairwise_append.1 hpq
      have hswap : ∀ x ∈ p, MayQ ops x (j, bj) := fun x hx => by
        rcases hpp.2.2 x hx (j, bj) List.mem_cons_self with hd | hd
        · exact absurd (List.mem_map.2 ⟨x, List.mem_append_left _ (List.mem_append_left _ hx), rfl⟩) (hdeps x.1 hd)
        · exact hd
      have hL' : Left ops (((p ++ r) ++ ls).map Prod.fst) (listed.setIfInBounds j true) := by
        have : ((p ++ r) ++ ls).map Prod.fst = p.map Prod.fst ++ (r ++ ls).map Prod.fst := by simp
        rw [this]
        exact Left.step (by simpa using hL) hedge hj
      refine stp_op hC (fun b w' hC' hb => ih (p ++ r) _ b w' (by simp at hl ⊢; omega) hC' hL' ?_ (fun y hy x hx => hcross y hy x ?_) hb) (s_front hsel p a hswap h)
      · exact List.pairwise_append.2 ⟨hpp.1, (List.pairwise_cons.1 hpp.2.1).2, fun x hx y hy => hpp.2.2 x hx y (List.mem_cons_of_mem _ hy)⟩
      · rcases List.mem_append.1 hx with hx | hx
        · exact List.mem_append_left _ hx
        · exact List.mem_append_right _ (List.mem_cons_of_mem _ hx)
/-- The Bools. -/
def apB (ops : Array Oper) (i j : Nat) : Bool := match ops[i]?, ops[j]? with | some oi, some oj => oi.apart ops oj | _, _ => false
def clB (P : Program) (ops : Array Oper) (i j : Nat) : Bool := match ops[i]?, ops[j]? with | some oi, some oj => clsOk (opCls P oi.op) (opCls P oj.op) | _, _ => false
def qB (ops : Array Oper) (A : List (List Nat)) : List (Nat × Bool) → Bool
  | [] => true
  | x :: r => (r.all fun y => (A.getD y.1 []).contains x.1 || apB ops x.1 y.1) && qB ops A r
def gB (P : Program) (ops : Array Oper) (A : List (List Nat)) : List (Nat × Bool) → Bool
  | [] => true
  | x :: r => (r.all fun y => (A.getD y.1 []).contains x.1 || (apB ops x.1 y.1 && (x.2 || y.2 || clB P ops x.1 y.1))) && gB P ops A r
def tagB (P : Program) (l : List Oper) (qs ls : List (Nat × Bool)) : Bool :=
  Region.noSelect l.toArray && Nat.beq (qs ++ ls).length l.length && decide ((qs ++ ls).map Prod.fst).Nodup && extB l.toArray [] ((qs ++ ls).map Prod.fst) &&
  qB l.toArray (ancs l) qs && (ls.all fun y => qs.all fun x => ((ancs l).getD y.1 []).contains x.1 || (x.2 && apB l.toArray x.1 y.1)) && gB P l.toArray (ancs l) ls
theorem apB_ok {i j : Nat} (h : apB ops i j = true) : ∃ oi oj, ops[i]? = some oi ∧ ops[j]? = some oj ∧ oi.apart ops oj = true := by
  unfold apB at h
  split at h
  · rename_i oi oj h1 h2; exact ⟨oi, oj, h1, h2, h⟩
  · cases h
theorem qB_ok {A : List (List Nat)} (hA : ∀ j i, i ∈ A.getD j [] → Dep ops i j) : ∀ {l : List (Nat × Bool)}, qB ops A l = true → l.Pairwise fun x y => Dep ops x.1 y.1 ∨ MayQ ops x y
  | [], _ => List.Pairwise.nil
  | x :: r, h => by
    simp only [qB, Bool.and_eq_true] at h
    refine List.Pairwise.cons (fun y hy => ?_) (qB_ok hA h.2)
    have := List.all_eq_true.1 h.1 y hy
    simp only [Bool.or_eq_true] at this
    rcases this with h1 | h1
    · exact .inl (hA _ _ (by simpa using h1))
    · exact .inr (apB_ok h1)
theorem gB_ok {A : List (List Nat)} (hA : ∀ j i, i ∈ A.getD j [] → Dep ops i j) : ∀ {l : List (Nat × Bool)}, gB P ops A l = true → l.Pairwise fun x y => Dep ops x.1 y.1 ∨ MayG P ops x y
  | [], _ => List.Pairwise.nil
  | x :: r, h => by
    simp only [gB, Bool.and_eq_true] at h
    refine List.Pairwise.cons (fun y hy => ?_) (gB_ok hA h.2)
    have := List.all_eq_true.1 h.1 y hy
    simp only [Bool.or_eq_true, Bool.and_eq_true] at this
    rcases this with h1 | ⟨h1, h2⟩
    · exact .inl (hA _ _ (by simpa using h1))
    · obtain ⟨oi, oj, e1, e2, e3⟩ := apB_ok h1
      refine .inr ⟨oi, oj, e1, e2, e3, ?_⟩
      rcases h2 with (h2 | h2) | h2
      · exact .inl h2
      · exact .inr (.inl h2)
      · exact .inr (.inr (by simpa [clB, e1, e2] using h2))
theorem wp_region_tag {N : Frm} {id : Nat} {l : List Oper} {a : Act} {w : World} (qs ls : List (Nat × Bool)) (hm : P.follows .mixedOrders = true) (hB : tagB P l qs ls = true) (hC : C w.drew) (h : Wq P l.toArray C (fun a => ∀ w, C w → Wg P l.toArray Q ls a w) qs a) : wq P N (.region id l.toArray true) Q a w := by
  simp only [tagB, Bool.and_eq_true, decide_eq_true_eq] at hB
  obtain ⟨⟨⟨⟨⟨⟨hsel, hlen⟩, hnd⟩, hext⟩, hhead⟩, hcross⟩, hpairs⟩ := hB
  have hlen := Nat.eq_of_beq_eq_true hlen
  obtain ⟨he1, he2⟩ := ext_ok hext (by simp) hnd
  have hall : ∀ k, k < l.length → k ∈ (qs ++ ls).map Prod.fst := all_in l.length _ hnd (by simpa using hlen) (fun x hx => by simpa using he2 x hx)
  have hedge : ∀ (j : Nat) (o : Oper), l.toArray[j]? = some o → ∀ e ∈ o.after, Region.binds .any e = true → e.on < l.toArray.size := fun j o ho e he hb =>
    ext_edges _ _ hext (by simp) j (hall j (by simpa using (Array.getElem?_eq_some_iff.1 ho).1)) o ho e he hb
  refine wq_any hm ?_
  have hA := ancs_ok l
  have := any_of_headT (P := P) (Q := Q) (C := C) (Region.noSelect_spec hsel) hedge (gB_ok hA hpairs) qs.length qs (Array.replicate l.toArray.size false) a w.drew rfl hC
    ⟨hnd, by simp, he2, fun k hk => by
      have h1 : k ∈ (qs ++ ls).map Prod.fst := hall k (by simpa using hk)
      have hk' : k < l.length := by simpa using hk
      have h2 : (Array.replicate l.toArray.size false).getD k true = false := by simp [Array.getD_eq_getD_getElem?, hk']
      exact ⟨fun _ => h1, fun _ => h2⟩, he1, fun j o ho hj => absurd (hall j (by simpa using (Array.getElem?_eq_some_iff.1 ho).1)) hj⟩
    (qB_ok hA hhead) (fun y hy x hx => by
      have := List.all_eq_true.1 (List.all_eq_true.1 hcross y hy) x hx
      simp only [Bool.or_eq_true, Bool.and_eq_true] at this
      rcases this with h1 | ⟨h1, h2⟩
      · exact .inl (hA _ _ (by simpa using h1))
      · exact .inr ⟨h1, apB_ok h2⟩) h
  have e : qs.length + ls.length = l.toArray.size := by simpa using hlen
  rw [e] at this
  exact this
end
end Go.Proofs.Ytfffhnefjaomnaa
