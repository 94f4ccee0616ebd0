/- Regions that draw their order: quiet operations ahead, in any order; then all that turns memory. No conditions. -/
import Derived.Test.YtfffhnefjaomnaaSxD
namespace Go.Proofs.Ytfffhnefjaomnaa
open Go.RowKit
set_option linter.unusedVariables false
set_option linter.unusedSimpArgs false
set_option linter.unusedSectionVars false
/-- In the head each pair waits or stands apart; each of the tail waits for each of the head; the tail is as ever. -/
def headB (ops : Array Oper) (A : List (List Nat)) : List Nat → Bool
  | [] => true
  | i :: r => (r.all fun j => (A.getD j []).contains i || (match ops[i]?, ops[j]? with
      | some oi, some oj => oi.apart ops oj
      | _, _ => false)) && headB ops A r
def rig2B (P : Program) (l : List Oper) (qs ls : List Nat) : Bool :=
  Region.noSelect l.toArray && Nat.beq (qs ++ ls).length l.length && decide (qs ++ ls).Nodup && extB l.toArray [] (qs ++ ls) &&
  headB l.toArray (ancs l) qs && (ls.all fun j => qs.all fun i => ((ancs l).getD j []).contains i || (match l.toArray[i]?, l.toArray[j]? with
      | some oi, some oj => oi.apart l.toArray oj && Nat.beq (opCls P oi.op) 0
      | _, _ => false)) && pairsB P l.toArray (ancs l) ls
section
variable {P : Program} {ops : Array Oper} {Q : Exit → Act → World → Prop} {C : World → Prop}
def wpQ (P : Program) (ops : Array Oper) (C : World → Prop) (K : Act → Prop) : List Nat → Act → Prop
  | [], a => K a
  | i :: r, a => qOp P ops C i (wpQ P ops C K r) a
theorem qOp_swap {i j : Nat} {oi oj : Oper} {K : Act → Prop} {a : Act} (hi : ops[i]? = some oi) (hj : ops[j]? = some oj) (hap : oi.apart ops oj = true) (hsi : ∀ cs b, oi.op ≠ .select cs b) (hsj : ∀ cs b, oj.op ≠ .select cs b)
    (h : qOp P ops C i (qOp P ops C j K) a) : qOp P ops C j (qOp P ops C i K) a := by
  obtain ⟨v, hy, hk⟩ := yieldsIn_of_qOp hi h
  exact qOp_mono (fun b ⟨h1, h2⟩ => h1.qOp hi h2) (qOp_put hj hap hsi hsj hy hk)
theorem q_front (hsel : ∀ (j : Nat) (o : Oper) cs b, ops[j]? = some o → o.op ≠ .select cs b) {j : Nat} {r : List Nat} {K : Act → Prop} : ∀ (p : List Nat) (a : Act),
    (∀ i ∈ p, ∃ oi oj, ops[i]? = some oi ∧ ops[j]? = some oj ∧ oi.apart ops oj = true) →
    wpQ P ops C K (p ++ j :: r) a → qOp P ops C j (wpQ P ops C K (p ++ r)) a
  | [], a, _, h => h
  | i :: p, a, hp, h => by
    obtain ⟨oi, oj, h1, h2, h3⟩ := hp i List.mem_cons_self
    have h5 : qOp P ops C i (qOp P ops C j (wpQ P ops C K (p ++ r))) a := qOp_mono (fun b hb => q_front hsel p b (fun k hk => hp k (List.mem_cons_of_mem _ hk)) hb) h
    exact qOp_swap h1 h2 h3 (fun cs b => hsel i oi cs b h1) (fun cs b => hsel j oj cs b h2) h5
theorem head_ok {A : List (List Nat)} (hA : ∀ j i, i ∈ A.getD j [] → Dep ops i j) : ∀ {ord : List Nat}, headB ops A ord = true →
    ord.Pairwise fun i j => Dep ops i j ∨ ∃ oi oj, ops[i]? = some oi ∧ ops[j]? = some oj ∧ oi.apart ops oj = true
  | [], _ => List.Pairwise.nil
  | i :: r, h => by
    simp only [headB, Bool.and_eq_true] at h
    refine List.Pairwise.cons (fun j hj => ?_) (head_ok hA h.2)
    have := List.all_eq_true.1 h.1 j hj
    simp only [Bool.or_eq_true] at this
    rcases this with h1 | h1
    · exact .inl (hA j i (by simpa using h1))
    · cases ho : ops[i]? with
      | none => simp [ho] at h1
      | some oi =>
        cases ho' : ops[j]? with
        | none => simp [ho, ho'] at h1
        | some oj =>
          simp only [ho, ho'] at h1
          exact .inr ⟨oi, oj, rfl, rfl, h1⟩
/-- What stands of an order while it is gone through. -/
structure Left (ops : Array Oper) (ord : List Nat) (listed : Array Bool) : Prop where
  nodup : ord.Nodup
  size : listed.size = ops.size
  lt : ∀ i ∈ ord, i < ops.size
  mem : ∀ k, k < ops.size → (listed.getD k true = false ↔ k ∈ ord)
  ext : Ext ops ord
  down : ∀ j o, ops[j]? = some o → j ∉ ord → ∀ e ∈ o.after, Region.binds .any e = true → e.on < ops.size ∧ e.on ∉ ord
theorem Left.listed {ord : List Nat} {listed : Array Bool} (h : Left ops ord listed) (k : Nat) (hk : k < ops.size) : listed.getD k false = true ↔ k ∉ ord := by
  rw [← h.mem k hk]
  have : k < listed.size := by rw [h.size]; exact hk
  simp [Array.getD_eq_getD_getElem?, this]
/-- What is ready waits for nothing that is left. -/
theorem Left.deps {ord : List Nat} {listed : Array Bool} (h : Left ops ord listed) (hedge : ∀ (j : Nat) (o : Oper), ops[j]? = some o → ∀ e ∈ o.after, Region.binds .any e = true → e.on < ops.size) {j : Nat} (hj : j ∈ Region.ready .any ops listed) : ∀ i, Dep ops i j → i ∉ ord := fun i hd => by
  obtain ⟨h0, o, ho, hall⟩ := mem_ready.1 hj
  have hone : ∀ k, Dep ops i k → k ∉ ord → i ∉ ord := by
    intro k hk
    induction hk with
    | one ho' he hb hi => intro hkn; exact hi ▸ (h.down _ _ ho' hkn _ he hb).2
    | more ho' he hb hi ih2 => intro hkn; exact ih2 (h.down _ _ ho' hkn _ he hb).2
  cases hd with
  | one ho' he hb hi =>
    rw [ho] at ho'; obtain rfl := Option.some.inj ho'
    have h1 := hedge j _ ho _ he hb
    exact hi ▸ (h.listed _ h1).1 (hall _ he hb)
  | more ho' he hb hi =>
    rw [ho] at ho'; obtain rfl := Option.some.inj ho'
    have h1 := hedge j _ ho _ he hb
    exact hone _ hi ((h.listed _ h1).1 (hall _ he hb))
theorem Left.step {p r : List Nat} {j : Nat} {listed : Array Bool} (h : Left ops (p ++ j :: r) listed) (hedge : ∀ (j : Nat) (o : Oper), ops[j]? = some o → ∀ e ∈ o.after, Region.binds .any e = true → e.on < ops.size) (hj : j ∈ Region.ready .any ops listed) : Left ops (p ++ r) (listed.setIfInBounds j true) := by
  obtain ⟨h0, o, ho, hall⟩ := mem_ready.1 hj
  have hjlt : j < ops.size := (Array.getElem?_eq_some_iff.1 ho).1
  have hnd' : (p ++ r).Nodup ∧ j ∉ p ++ r := by
    have := List.nodup_append.1 h.nodup
    have h2 := List.nodup_cons.1 this.2.1
    refine ⟨List.nodup_append.2 ⟨this.1, h2.2, fun x hx y hy => this.2.2 x hx y (List.mem_cons_of_mem _ hy)⟩, fun hm => ?_⟩
    rcases List.mem_append.1 hm with hm | hm
    · exact this.2.2 j hm j List.mem_cons_self rfl
    · exact h2.1 hm
  have hsub : ∀ x, x ∈ p ++ r → x ∈ p ++ j :: r := fun x hx => by
    rcases List.mem_append.1 hx with hx | hx
    · exact List.mem_append_left _ hx
    · exact List.mem_append_right _ (List.mem_cons_of_mem _ hx)
  refine ⟨hnd'.1, by simpa using h.size, fun i hi => h.lt i (hsub i hi), fun k hk => ?_, h.ext.drop, fun k ok hok hkn e he hb' => ?_⟩
  · by_cases hjk : j = k
    · subst hjk
      have : j < listed.size := by rw [h.size]; exact hjlt
      simp [Array.getD_eq_getD_getElem?, this]
      simpa using hnd'.2
    · rw [getD_set_ne true hjk, h.mem k hk]
      simp only [List.mem_append, List.mem_cons]
      constructor
      · rintro (h1 | h1 | h1)
        · exact .inl h1
        · exact absurd h1.symm hjk
        · exact .inr h1
      · rintro (h1 | h1)
        · exact .inl h1
        · exact .inr (.inr h1)
  · refine ⟨hedge k ok hok e he hb', fun hm => ?_⟩
    by_cases hkj : k = j
    · subst hkj
      rw [ho] at hok; obtain rfl := Option.some.inj hok
      have h1 := hedge k _ ho e he hb'
      exact (h.listed _ h1).1 (hall e he hb') (hsub _ hm)
    · have hkn' : k ∉ p ++ j :: r := fun hm' => by
        rcases List.mem_append.1 hm' with h1 | h1
        · exact hkn (List.mem_append_left _ h1)
        · rcases List.mem_cons.1 h1 with h1 | h1
          · exact hkj h1
          · exact hkn (List.mem_append_right _ h1)
      exact (h.down k ok hok hkn' e he hb').2 (hsub _ hm)
theorem Left.first {i : Nat} {r : List Nat} {listed : Array Bool} (h : Left ops (i :: r) listed) (hedge : ∀ (j : Nat) (o : Oper), ops[j]? = some o → ∀ e ∈ o.after, Region.binds .any e = true → e.on < ops.size) : i ∈ Region.ready .any ops listed := by
  have hi := h.lt i List.mem_cons_self
  refine mem_ready.2 ⟨(h.mem i hi).2 List.mem_cons_self, ops[i], Array.getElem?_eq_getElem hi, fun e he hb => ?_⟩
  have h1 := hedge i _ (Array.getElem?_eq_getElem hi) e he hb
  exact (h.listed e.on h1).2 (h.ext [] i r rfl _ (Array.getElem?_eq_getElem hi) e he hb)
/-- Waits, or is pure and stands apart. -/
def Cross (P : Program) (ops : Array Oper) (i j : Nat) : Prop := Dep ops i j ∨ ∃ oi oj, ops[i]? = some oi ∧ ops[j]? = some oj ∧ oi.apart ops oj = true ∧ opCls P oi.op = 0
theorem ops_of_q {ls : List Nat} : ∀ (qs : List Nat) (a : Act) (w : World), C w → wpQ P ops C (fun a => ∀ w, C w → wpOps P ops (QN Q) ls a w) qs a → wpOps P ops (QN Q) (qs ++ ls) a w
  | [], a, w, hC, h => h w hC
  | i :: r, a, w, hC, h => by
    rw [List.cons_append, wpOps_cons]
    exact wpOp_of_qOp hC (fun b w' hC' hb => ops_of_q r b w' hC' hb) h
theorem any_of_head (hsel : ∀ (j : Nat) (o : Oper) cs b, ops[j]? = some o → o.op ≠ .select cs b) (hedge : ∀ (j : Nat) (o : Oper), ops[j]? = some o → ∀ e ∈ o.after, Region.binds .any e = true → e.on < ops.size) {ls : List Nat}
    (hpl : ls.Pairwise fun i j => Dep ops i j ∨ ∃ oi oj, ops[i]? = some oi ∧ ops[j]? = some oj ∧ oi.apart ops oj = true ∧ clsOk (opCls P oi.op) (opCls P oj.op) = true) :
    ∀ (n : Nat) (qs : List Nat) (listed : Array Bool) (a : Act) (w : World), qs.length = n → C w → Left ops (qs ++ ls) listed →
    (qs.Pairwise fun i j => Dep ops i j ∨ ∃ oi oj, ops[i]? = some oi ∧ ops[j]? = some oj ∧ oi.apart ops oj = true) → (∀ j ∈ ls, ∀ i ∈ qs, Cross P ops i j) →
    wpQ P ops C (fun a => ∀ w, C w → wpOps P ops (QN Q) ls a w) qs a → wpAny P .any ops (QN Q) (n + ls.length) listed a w := by
  intro n
  induction n with
  | zero =>
    intro qs listed a w hl hC hL hpq hcross h
    obtain rfl := List.eq_nil_of_length_eq_zero hl
    simp only [List.nil_append] at hL
    rw [Nat.zero_add]
    exact any_of_ord (P := P) (Q := Q) hsel ls.length ls listed a w rfl hL.nodup hL.size hL.lt hL.mem hL.ext hL.down hedge hpl (h w hC)
  | succ n ih =>
    intro qs listed a w hl hC hL hpq hcross h
    by_cases hpure : ∀ i ∈ qs, ∀ oi, ops[i]? = some oi → opCls P oi.op = 0
    · -- only pure ones are left of the head
      have hord := ops_of_q qs a w hC h
      have hlen : (qs ++ ls).length = n + 1 + ls.length := by simp [hl]
      refine any_of_ord (P := P) (Q := Q) hsel _ (qs ++ ls) listed a w hlen hL.nodup hL.size hL.lt hL.mem hL.ext hL.down hedge ?_ hord
      have hz : ∀ x, clsOk 0 x = true := fun x => rfl
      refine List.pairwise_append.2 ⟨?_, hpl, fun i hi j hj => ?_⟩
      · refine hpq.imp_of_mem fun {i j} hi _ hij => ?_
        rcases hij with hd | ⟨oi, oj, h1, h2, h3⟩
        · exact .inl hd
        · exact .inr ⟨oi, oj, h1, h2, h3, by rw [hpure i hi oi h1]; exact hz _⟩
      · rcases hcross j hj i hi with hd | ⟨oi, oj, h1, h2, h3, h4⟩
        · exact .inl hd
        · exact .inr ⟨oi, oj, h1, h2, h3, by rw [h4]; exact hz _⟩
    obtain ⟨i0, hi0, o0, ho0, hc0⟩ : ∃ i ∈ qs, ∃ oi, ops[i]? = some oi ∧ opCls P oi.op ≠ 0 := by
      apply Classical.byContradiction
      intro hno
      refine hpure fun i hi oi ho => ?_
      apply Classical.byContradiction
      intro hne
      exact hno ⟨i, hi, oi, ho, hne⟩
    rw [show n + 1 + ls.length = (n + ls.length) + 1 by omega]
    refine ⟨fun hnil => ?_, fun j hj => ?_⟩
    · exfalso
      match qs, hl with
      | i :: r, _ =>
        have := hL.first hedge
        rw [hnil] at this
        cases this
    · have hdeps := hL.deps hedge hj
      obtain ⟨h0, o, ho, hall⟩ := mem_ready.1 hj
      have hjlt : j < ops.size := (Array.getElem?_eq_some_iff.1 ho).1
      have hjm := (hL.mem j hjlt).1 h0
      have hjq : j ∈ qs := by
        rcases List.mem_append.1 hjm with h1 | h1
        · exact h1
        · rcases hcross j h1 i0 hi0 with hd | ⟨oi, oj, h2, _, _, h4⟩
          · exact absurd (List.mem_append_left _ hi0) (hdeps i0 hd)
          · rw [ho0] at h2
            obtain rfl := Option.some.inj h2
            exact absurd h4 hc0
      obtain ⟨p, r, rfl⟩ := List.append_of_mem hjq
      have hpp := List.pairwise_append.1 hpq
      have hswap : ∀ i ∈ p, ∃ oi oj, ops[i]? = some oi ∧ ops[j]? = some oj ∧ oi.apart ops oj = true := fun i hi => by
        rcases hpp.2.2 i hi j List.mem_cons_self with hd | hd
        · exact absurd (List.mem_append_left _ (List.mem_append_left _ hi)) (hdeps i hd)
        · exact hd
      have hL' : Left ops ((p ++ r) ++ ls) (listed.setIfInBounds j true) := by
        rw [List.append_assoc]
        exact Left.step (by simpa [List.append_assoc] using hL) hedge hj
      refine wpOp_of_qOp hC (fun b w' hC' hb => ih (p ++ r) (listed.setIfInBounds j true) b w' (by simp at hl ⊢; omega) hC' hL' ?_ (fun x hx i hi => hcross x hx i ?_) hb) (q_front hsel p a hswap h)
      · exact List.pairwise_append.2 ⟨hpp.1, (List.pairwise_cons.1 hpp.2.1).2, fun x hx y hy => hpp.2.2 x hx y (List.mem_cons_of_mem _ hy)⟩
      · rcases List.mem_append.1 hi with hi | hi
        · exact List.mem_append_left _ hi
        · exact List.mem_append_right _ (List.mem_cons_of_mem _ hi)
theorem all_in : ∀ (m : Nat) (s : List Nat), s.Nodup → s.length = m → (∀ x ∈ s, x < m) → ∀ k, k < m → k ∈ s := by
  intro m
  induction m with
  | zero => intro s _ _ _ k hk; omega
  | succ m ih =>
    intro s hs hlen hlt k hk
    have hm : m ∈ s := by
      apply Classical.byContradiction
      intro hm
      have hl2 : ∀ x ∈ s, x < m := fun x hx => by
        have := hlt x hx
        have : x ≠ m := fun e => hm (e ▸ hx)
        omega
      match s, hlen with
      | y :: s', hlen =>
        have hs' := List.nodup_cons.1 hs
        have := ih s' hs'.2 (by simpa using hlen) (fun x hx => hl2 x (List.mem_cons_of_mem _ hx)) y (hl2 y List.mem_cons_self)
        exact hs'.1 this
    by_cases hkm : k = m
    · exact hkm ▸ hm
    · have := ih (s.erase m) (hs.erase m) (by rw [List.length_erase_of_mem hm]; omega) (fun x hx => by
        have h1 := hlt x (List.mem_of_mem_erase hx)
        have h2 : x ≠ m := fun e => by subst e; exact absurd hx (List.Nodup.not_mem_erase hs)
        omega) k (by omega)
      exact List.mem_of_mem_erase this
theorem ext_edges : ∀ (ord done : List Nat), extB ops done ord = true → (∀ x ∈ done, x < ops.size) → ∀ k ∈ ord, ∀ ok, ops[k]? = some ok → ∀ e ∈ ok.after, Region.binds .any e = true → e.on < ops.size := by
  intro ord
  induction ord with
  | nil => intro _ _ _ k hk; cases hk
  | cons i r ih =>
    intro done h1 h2 k hk ok hok e he hb
    simp only [extB, Bool.and_eq_true] at h1
    cases hi : ops[i]? with
    | none => rw [hi] at h1; simp at h1
    | some oi =>
      rcases List.mem_cons.1 hk with rfl | hk
      · rw [hi] at hok; obtain rfl := Option.some.inj hok
        rw [hi] at h1
        have := List.all_eq_true.1 h1.1 e (by simpa using he)
        simp only [hb, Bool.not_true, Bool.false_or] at this
        exact h2 e.on (by simpa using this)
      · exact ih (i :: done) h1.2 (fun x hx => by
          rcases List.mem_cons.1 hx with rfl | hx
          · exact (Array.getElem?_eq_some_iff.1 hi).1
          · exact h2 x hx) k hk ok hok e he hb
theorem wp_region_head {N : Frm} {id : Nat} {l : List Oper} {a : Act} {w : World} (qs ls : List Nat) (hm : P.follows .mixedOrders = true) (hB : rig2B P l qs ls = true) (hC : C w.drew) (h : wpQ P l.toArray C (fun a => ∀ w, C w → wpOps P l.toArray (QN Q) ls a w) qs a) : wq P N (.region id l.toArray true) Q a w := by
  simp only [rig2B, Bool.and_eq_true, decide_eq_true_eq] at hB
  obtain ⟨⟨⟨⟨⟨⟨hsel, hlen⟩, hnd⟩, hext⟩, hhead⟩, hcross⟩, hpairs⟩ := hB
  have hlen := Nat.eq_of_beq_eq_true hlen
  obtain ⟨he1, he2⟩ := ext_ok hext (by simp) hnd
  have hall : ∀ k, k < l.length → k ∈ qs ++ ls := all_in l.length _ hnd hlen (fun x hx => by simpa using he2 x hx)
  have hedge : ∀ (j : Nat) (o : Oper), l.toArray[j]? = some o → ∀ e ∈ o.after, Region.binds .any e = true → e.on < l.toArray.size := fun j o ho e he hb =>
    ext_edges _ _ hext (by simp) j (hall j (by simpa using (Array.getElem?_eq_some_iff.1 ho).1)) o ho e he hb
  refine wq_any hm ?_
  have hA := ancs_ok l
  have := any_of_head (P := P) (Q := Q) (C := C) (Region.noSelect_spec hsel) hedge (pairs_ok hA hpairs) qs.length qs (Array.replicate l.toArray.size false) a w.drew rfl hC
    ⟨hnd, by simp, he2, fun k hk => by
      have h1 : k ∈ qs ++ ls := hall k (by simpa using hk)
      have hk' : k < l.length := by simpa using hk
      have h2 : (Array.replicate l.toArray.size false).getD k true = false := by simp [Array.getD_eq_getD_getElem?, hk']
      exact ⟨fun _ => h1, fun _ => h2⟩, he1, fun j o ho hj => absurd (hall j (by simpa using (Array.getElem?_eq_some_iff.1 ho).1)) hj⟩
    (head_ok hA hhead) (fun j hj i hi => by
      have := List.all_eq_true.1 (List.all_eq_true.1 hcross j hj) i hi
      simp only [Bool.or_eq_true] at this
      rcases this with h1 | h1
      · exact .inl (hA j i (by simpa using h1))
      · cases ho : l.toArray[i]? with
        | none => rw [ho] at h1; simp at h1
        | some oi =>
          cases ho' : l.toArray[j]? with
          | none => rw [ho, ho'] at h1; simp at h1
          | some oj =>
            rw [ho, ho'] at h1
            simp only [Bool.and_eq_true] at h1
            exact .inr ⟨oi, oj, ho, ho', h1.1, Nat.eq_of_beq_eq_true h1.2⟩) h
  have e : qs.length + ls.length = l.toArray.size := by simpa using hlen
  rw [e] at this
  exact this
theorem q_of_list {ops : Array Oper} {K : Act → Prop} : ∀ (ord : List Nat) (a : Act), (∀ i ∈ ord, i < ops.size) → wpQuiet P ops C K (ord.filterMap (ops.toList[·]?)) a → wpQ P ops C K ord a
  | [], a, _, h => h
  | i :: r, a, hlt, h => by
    have hi := hlt i List.mem_cons_self
    have ho : ops[i]? = some ops[i] := Array.getElem?_eq_getElem hi
    have ho' : ops.toList[i]? = some ops[i] := by simp [hi]
    rw [List.filterMap_cons, ho'] at h
    simp only [wpQuiet] at h
    simp only [wpQ, qOp, ho]
    have ih := fun a => q_of_list (K := K) r a (fun k hk => hlt k (List.mem_cons_of_mem _ hk))
    split
    · rename_i hw
      rw [if_pos hw] at h
      exact Oper.quiet_mono (fun a hh => ih a hh) h
    · rename_i hw
      rw [if_neg hw] at h
      exact ih _ h
theorem quiet_mono {ops : Array Oper} {K K' : Act → Prop} (hk : ∀ a, K a → K' a) : ∀ (l : List Oper) (a : Act), wpQuiet P ops C K l a → wpQuiet P ops C K' l a
  | [], a, h => hk a h
  | o :: r, a, h => by
    unfold wpQuiet at h ⊢
    split
    · rename_i hw
      rw [if_pos hw] at h
      exact Oper.quiet_mono (fun a hh => quiet_mono hk r a hh) h
    · rename_i hw
      rw [if_neg hw] at h
      exact quiet_mono hk r _ h
end
section
variable {P : Program} {N : Frm} {w0 : World} {Wr : List Nat} {fr : Fr} {H : Heap} {Q : Exit → Act → World → Prop}
theorem awh_region {id : Nat} {l l1 l2 : List Oper} (qs ls : List Nat) (hm : P.follows .mixedOrders = true) (hB : rig2B P l qs ls = true) (h1 : inOrd l qs = l1) (h2 : inOrd l ls = l2)
    (h : ∀ Z : Fr → Heap → Prop, (∀ fr H, nx N w0 Wr fr H Q .normal → Z fr H) → sq P N w0 Wr l.toArray l1 fr H (fun fr' H' => sx P N w0 Wr l.toArray l2 fr' H' Z)) : awp P N w0 Wr (.region id l.toArray true) fr H Q :=
  fun a w ha hw => by
    have hlt : ∀ i ∈ qs ++ ls, i < l.toArray.size := by
      have hB' := hB
      simp only [rig2B, Bool.and_eq_true, decide_eq_true_eq] at hB'
      exact (ext_ok hB'.1.1.1.2 (by simp) hB'.1.1.1.1.2).2
    refine wp_region_head (C := Sat w0 Wr H) qs ls hm hB hw.drew (q_of_list qs a (fun i hi => hlt i (List.mem_append_left _ hi)) ?_)
    have := h (fun fr H => nx N w0 Wr fr H Q .normal) (fun _ _ h => h) (fun a' => ∀ w', Sat w0 Wr H w' → wpOps P l.toArray (QN Q) ls a' w') (fun fr' a' hz hf w' hw' =>
      ops_of_list ls a' w' (fun i hi => hlt i (List.mem_append_right _ hi)) (by
        have := hz (QN Q) (fun fr' H' a w hz hf hs => ⟨rfl, hz a w hf hs⟩) a' w' hf hw'
        rw [← h2] at this
        simpa [inOrd] using this)) a ha
    rw [← h1] at this
    simpa [inOrd] using this
theorem awh_seq_region {id : Nat} {l l1 l2 : List Oper} {y : Code} (qs ls : List Nat) (hm : P.follows .mixedOrders = true) (hB : rig2B P l qs ls = true) (h1 : inOrd l qs = l1) (h2 : inOrd l ls = l2)
    (h : ∀ Z : Fr → Heap → Prop, (∀ fr H, awp P N w0 Wr y fr H Q → Z fr H) → sq P N w0 Wr l.toArray l1 fr H (fun fr' H' => sx P N w0 Wr l.toArray l2 fr' H' Z)) : awp P N w0 Wr (.seq (.region id l.toArray true) y) fr H Q :=
  awp_seq (awh_region qs ls hm hB h1 h2 fun Z hZ => h Z fun fr H hy => hZ fr H hy)
end
end Go.Proofs.Ytfffhnefjaomnaa
