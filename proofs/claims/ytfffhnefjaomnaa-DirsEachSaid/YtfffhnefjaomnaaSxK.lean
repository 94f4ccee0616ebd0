/- Regions that draw their order, where operations that are not pure may change places: each order is walked. No conditions. -/
import Derived.Test.YtfffhnefjaomnaaSxL
namespace Go.Proofs.Ytfffhnefjaomnaa
open Go.RowKit
set_option linter.unusedVariables false
set_option linter.unusedSimpArgs false
set_option linter.unusedSectionVars false
def gsOf (ord : List (Nat × Bool)) : List Nat := (ord.filter fun x => !x.2).map Prod.fst
/-- Whatever may come first, an order begins with it; then there is but one way, or the operation is no call. -/
def covB (A : List (List Nat)) (pl : Nat → Bool) : Nat → List (List Nat) → Bool
  | 0, _ => true
  | n + 1, G => match G with
    | [] => false
    | g0 :: _ => g0.all fun j => (g0.any fun i => (A.getD j []).contains i) || (!((G.filter fun g => g.head? == some j).isEmpty) && (pl j || Nat.beq (G.filter fun g => g.head? == some j).length 1) && covB A pl n ((G.filter fun g => g.head? == some j).map List.tail))
theorem gs_mem {ord : List (Nat × Bool)} {j : Nat} (h : (j, false) ∈ ord) : j ∈ gsOf ord := List.mem_map.2 ⟨(j, false), List.mem_filter.2 ⟨h, rfl⟩, rfl⟩
theorem gs_in {ord : List (Nat × Bool)} {j : Nat} (h : j ∈ gsOf ord) : (j, false) ∈ ord := by
  obtain ⟨⟨i, b⟩, h1, rfl⟩ := List.mem_map.1 h
  obtain ⟨h2, h3⟩ := List.mem_filter.1 h1
  cases b with
  | false => exact h2
  | true => simp at h3
section
variable {P : Program} {ops : Array Oper} {Q : Exit → Act → World → Prop} {C : World → Prop} {A : List (List Nat)}
def MayK (ops : Array Oper) (x y : Nat × Bool) : Prop := Dep ops x.1 y.1 ∨ MayV ops x y ∨ (x.2 = false ∧ y.2 = false)
structure OrdK (P : Program) (ops : Array Oper) (Q : Exit → Act → World → Prop) (C : World → Prop) (n : Nat) (listed : Array Bool) (a : Act) (w : World) (ord : List (Nat × Bool)) : Prop where
  len : ord.length = n
  left : Left ops (ord.map Prod.fst) listed
  pair : ord.Pairwise (MayK ops)
  goes : Wv P ops C Q ord a w
/-- An operation that is no call: what it leads to is fixed. -/
def Det (P : Program) (ops : Array Oper) (j : Nat) : Prop := ∀ o, ops[j]? = some o → ∀ ρ w n w', (execOp ρ o).run P w = .ok n w' → (∃ v, n = .value v) ∨ n = .skip
theorem wpOp_all {ι : Type} {S : List ι} {K : ι → Act → World → Prop} {j : Nat} {a : Act} {w : World} (hS : S ≠ []) (hd : Det P ops j ∨ S.length = 1) (h : ∀ s ∈ S, wpOp P ops (QN Q) j (K s) a w) : wpOp P ops (QN Q) j (fun b w' => ∀ s ∈ S, K s b w') a w := by
  rcases hd with hd | hd
  · obtain ⟨s0, hs0⟩ := List.exists_mem_of_ne_nil S hS
    cases ho : ops[j]? with
    | none =>
      unfold wpOp at h ⊢
      simp only [ho] at h ⊢
      exact h
    | some o =>
      rw [wpOp_iff ho]
      have h' := fun s hs => (wpOp_iff ho).1 (h s hs)
      split
      · rename_i hw
        simp only [hw, if_true] at h'
        have h0 := h' s0 hs0
        unfold Oper.wp at h' h0 ⊢
        cases hr : (execOp a.eval o).run P w with
        | ok n w' =>
          rw [hr] at h0
          simp only [hr] at h'
          rcases hd o ho _ _ _ _ hr with ⟨v, rfl⟩ | rfl
          · exact h'
          · exact h'
        | halt x w' =>
          rw [hr] at h0
          cases x <;> simp only [Oper.upon] at h0 <;> first | exact h0.elim | (cases h0.1)
      · rename_i hw
        simp only [hw] at h'
        exact fun s hs => by simpa using h' s hs
  · match S, hd with
    | [s], _ => exact wpOp_mono (fun b w' hb s' hs' => by rw [List.mem_singleton.1 hs']; exact hb) (h s List.mem_cons_self)
theorem any_of_k {pl : Nat → Bool} (hpl : ∀ j, pl j = true → Det P ops j) (hA : ∀ j i, i ∈ A.getD j [] → Dep ops i j) (hsel : ∀ (j : Nat) (o : Oper) cs b, ops[j]? = some o → o.op ≠ .select cs b) (hedge : ∀ (j : Nat) (o : Oper), ops[j]? = some o → ∀ e ∈ o.after, Region.binds .any e = true → e.on < ops.size) (fl : Nat → Bool) :
    ∀ (n m : Nat) (S : List (List (Nat × Bool))) (listed : Array Bool) (a : Act) (w : World), S ≠ [] → covB A pl m (S.map gsOf) = true → (∀ ord ∈ S, (gsOf ord).length ≤ m) → C w → (∀ ord ∈ S, ∀ x ∈ ord, x.2 = fl x.1) → (∀ ord ∈ S, OrdK P ops Q C n listed a w ord) → wpAny P .any ops (QN Q) n listed a w := by
  intro n
  induction n with
  | zero =>
    intro m S listed a w hS _ _ hC _ h
    obtain ⟨ord, hord⟩ := List.exists_mem_of_ne_nil S hS
    obtain ⟨hl, hL, hp, h⟩ := h ord hord
    obtain rfl := List.eq_nil_of_length_eq_zero hl
    refine ⟨List.eq_nil_iff_forall_not_mem.2 fun j hj => ?_, h⟩
    obtain ⟨h0, o, ho, _⟩ := mem_ready.1 hj
    have := (hL.mem j (Array.getElem?_eq_some_iff.1 ho).1).1 h0
    simp at this
  | succ n ih =>
    intro m S listed a w hS hc hm hC hfl h
    obtain ⟨ord0, hord0⟩ := List.exists_mem_of_ne_nil S hS
    refine ⟨fun hnil => ?_, fun j hj => ?_⟩
    · exfalso
      obtain ⟨hl, hL, hp, h⟩ := h ord0 hord0
      match ord0, hl with
      | x :: r, _ =>
        have := hL.first hedge
        rw [hnil] at this
        cases this
    · obtain ⟨h0, o, ho, hall⟩ := mem_ready.1 hj
      -- what one order says of j
      have split : ∀ ord ∈ S, ∃ p r, ord = p ++ (j, fl j) :: r ∧ (∀ x ∈ p, MayV ops x (j, fl j) ∨ (x.2 = false ∧ fl j = false)) ∧ Left ops ((p ++ r).map Prod.fst) (listed.setIfInBounds j true) ∧ (p ++ r).Pairwise (MayK ops) ∧ (p ++ r).length = n := fun ord hord => by
        obtain ⟨hl, hL, hp, _⟩ := h ord hord
        have hdeps := hL.deps hedge hj
        have hjm := (hL.mem j (Array.getElem?_eq_some_iff.1 ho).1).1 h0
        obtain ⟨bj, hjb⟩ := mem_fst hjm
        have hb : bj = fl j := hfl ord hord _ hjb
        subst hb
        obtain ⟨p, r, rfl⟩ := List.append_of_mem hjb
        have hpp := List.pairwise_append.1 hp
        refine ⟨p, r, rfl, fun x hx => ?_, ?_, List.pairwise_append.2 ⟨hpp.1, (List.pairwise_cons.1 hpp.2.1).2, fun x hx y hy => hpp.2.2 x hx y (List.mem_cons_of_mem _ hy)⟩, by simp at hl ⊢; omega⟩
        · rcases hpp.2.2 x hx (j, fl j) List.mem_cons_self with hd | hd | hd
          · exact absurd (List.mem_map.2 ⟨x, List.mem_append_left _ hx, rfl⟩) (hdeps x.1 hd)
          · exact .inl hd
          · exact .inr hd
        · rw [List.map_append]
          exact Left.step (by simpa using hL) hedge hj
      cases hf : fl j with
      | true =>
        -- a marked one: all orders go on
        have step : ∀ ord ∈ S, ∃ v, YC P ops C o v a ∧ ∃ ord', gsOf ord' = gsOf ord ∧ (∀ x ∈ ord', x ∈ ord) ∧ OrdK P ops Q C n (listed.setIfInBounds j true) (a.put o.dst v) w ord' := fun ord hord => by
          obtain ⟨p, r, rfl, hp, hL', hpw, hl⟩ := split ord hord
          rw [hf] at hp
          have hg := v_front hsel p a w (fun x hx => (hp x hx).elim id (fun h => by cases h.2)) (by have := (h _ hord).goes; rwa [hf] at this)
          simp only [vst] at hg
          obtain ⟨o', v, e, hv, hk⟩ := hg
          rw [ho] at e; obtain rfl := Option.some.inj e
          exact ⟨v, hv, p ++ r, by simp [gsOf, hf, List.filter_append], fun x hx => by rcases List.mem_append.1 hx with hx | hx <;> simp [hx], hl, hL', hpw, hk⟩
        obtain ⟨v, hv, _⟩ := step ord0 hord0
        refine (hv w hC).wp ho ?_
        have step' : ∀ ord ∈ S, ∃ ord', gsOf ord' = gsOf ord ∧ (∀ x ∈ ord', x ∈ ord) ∧ OrdK P ops Q C n (listed.setIfInBounds j true) (a.put o.dst v) w ord' := fun ord hord => by
          obtain ⟨u, hu, h1⟩ := step ord hord
          have : u = v := (hu w hC).uniq (hv w hC)
          exact this ▸ h1
        -- collect them
        have coll : ∀ S1 : List (List (Nat × Bool)), (∀ ord ∈ S1, ord ∈ S) → ∃ S2 : List (List (Nat × Bool)), S2.map gsOf = S1.map gsOf ∧ ∀ ord' ∈ S2, (∃ ord ∈ S1, gsOf ord' = gsOf ord ∧ ∀ x ∈ ord', x ∈ ord) ∧ OrdK P ops Q C n (listed.setIfInBounds j true) (a.put o.dst v) w ord' := by
          intro S1
          induction S1 with
          | nil => intro _; exact ⟨[], rfl, by simp⟩
          | cons x S1 ih2 =>
            intro hs
            obtain ⟨S2, e, h2⟩ := ih2 (fun ord hord => hs ord (List.mem_cons_of_mem _ hord))
            obtain ⟨x', h3, h4, h5⟩ := step' x (hs x List.mem_cons_self)
            refine ⟨x' :: S2, by simp [e, h3], fun ord' hord' => ?_⟩
            rcases List.mem_cons.1 hord' with rfl | hord'
            · exact ⟨⟨x, List.mem_cons_self, h3, h4⟩, h5⟩
            · obtain ⟨⟨y, h6, h7⟩, h8⟩ := h2 ord' hord'
              exact ⟨⟨y, List.mem_cons_of_mem _ h6, h7⟩, h8⟩
        obtain ⟨S2, e, h2⟩ := coll S (fun _ h => h)
        refine ih m S2 _ _ w (fun e0 => ?_) (by rw [e]; exact hc) (fun ord' ho' => ?_) hC (fun ord' ho' x hx => ?_) (fun ord' ho' => (h2 ord' ho').2)
        · subst e0
          have := List.map_eq_nil_iff.1 e.symm
          exact hS this
        · obtain ⟨⟨ord, h3, h4, _⟩, _⟩ := h2 ord' ho'
          rw [h4]; exact hm ord h3
        · obtain ⟨⟨ord, h3, _, h5⟩, _⟩ := h2 ord' ho'
          exact hfl ord h3 x (h5 x hx)
      | false =>
        -- one that is not: an order begins with it
        have hj0 : j ∈ gsOf ord0 := by
          obtain ⟨p, r, e, _⟩ := split ord0 hord0
          rw [hf] at e
          exact gs_mem (by rw [e]; simp)
        have hm1 : 0 < m := Nat.lt_of_lt_of_le (List.length_pos_of_mem hj0) (hm ord0 hord0)
        obtain ⟨m, rfl⟩ : ∃ k, m = k + 1 := ⟨m - 1, by omega⟩
        have hcov : ((S.map gsOf).filter fun g => g.head? == some j) ≠ [] ∧ (pl j = true ∨ ((S.map gsOf).filter fun g => g.head? == some j).length = 1) ∧ covB A pl m (((S.map gsOf).filter fun g => g.head? == some j).map List.tail) = true := by
          match S, hS, hc with
          | s0 :: S1, _, hc =>
            have hs0 : s0 ∈ s0 :: S1 := List.mem_cons_self
            have hjs : j ∈ gsOf s0 := by
              obtain ⟨p, r, e, _⟩ := split s0 hs0
              rw [hf] at e
              exact gs_mem (by rw [e]; simp)
            simp only [List.map_cons, covB, List.all_eq_true] at hc
            have := hc j hjs
            simp only [Bool.or_eq_true, List.any_eq_true] at this
            rcases this with ⟨i, hi, hij⟩ | this
            · have hdeps := (h s0 hs0).left.deps hedge hj i (hA j i (by simpa using hij))
              exact absurd (List.mem_map.2 ⟨(i, false), gs_in hi, rfl⟩) hdeps
            · rw [← List.map_cons] at this
              simp only [Bool.and_eq_true, Bool.or_eq_true, Bool.not_eq_true'] at this
              refine ⟨fun e => ?_, this.1.2.imp id Nat.eq_of_beq_eq_true, this.2⟩
              have := this.1.1
              rw [e] at this
              cases this
        obtain ⟨hne, hdet, hc'⟩ := hcov
        -- each order that begins with it goes on
        have step : ∀ ord ∈ S, (gsOf ord).head? = some j → ∃ ord', gsOf ord' = (gsOf ord).tail ∧ (∀ x ∈ ord', x ∈ ord) ∧ Left ops (ord'.map Prod.fst) (listed.setIfInBounds j true) ∧ ord'.Pairwise (MayK ops) ∧ ord'.length = n ∧ wpOp P ops (QN Q) j (fun b w' => C w' ∧ Wv P ops C Q ord' b w') a w := fun ord hord hh => by
          obtain ⟨p, r, e, hp, hL', hpw, hl⟩ := split ord hord
          have hpt : ∀ x ∈ p, x.2 = true := fun x hx => by
            cases hx2 : x.2 with
            | true => rfl
            | false =>
              exfalso
              have hnd := (h ord hord).left.nodup
              have hgp : gsOf ord = gsOf p ++ j :: gsOf r := by rw [e]; simp [gsOf, List.filter_append, hf]
              have hxp : x.1 ∈ gsOf p := gs_mem (by
                have : x = (x.1, false) := (by rw [← hx2])
                exact this ▸ hx)
              rw [hgp] at hh
              match hq : gsOf p with
              | [] => rw [hq] at hxp; cases hxp
              | y :: q =>
                rw [hq] at hh
                have hy : y = j := by simpa using hh
                have hyp : (y, false) ∈ p := gs_in (by rw [hq]; exact List.mem_cons_self)
                rw [e, List.map_append, List.map_cons] at hnd
                have := (List.nodup_append.1 hnd).2.2 y (List.mem_map.2 ⟨_, hyp, rfl⟩) j List.mem_cons_self
                exact this hy
          have hgr : gsOf ord = j :: gsOf (p ++ r) := by
            have : gsOf p = [] := by
              unfold gsOf
              rw [List.filter_eq_nil_iff.2 fun x hx => by simp [hpt x hx]]
              rfl
            have h1 : gsOf ord = gsOf p ++ j :: gsOf r := by rw [e]; simp [gsOf, List.filter_append, hf]
            have h2 : gsOf (p ++ r) = gsOf p ++ gsOf r := by simp [gsOf, List.filter_append]
            rw [h1, h2, this]
            rfl
          have hg := v_front hsel p a w (fun x hx => (hp x hx).elim id (fun h2 => by rw [hpt x hx] at h2; cases h2.1)) (e ▸ (h ord hord).goes)
          exact ⟨p ++ r, by rw [hgr]; rfl, fun x hx => by rw [e]; rcases List.mem_append.1 hx with hx | hx <;> simp [hx], hL', hpw, hl, vst_op hC (by rw [hf] at hg; exact hg)⟩
        have coll : ∀ S1 : List (List (Nat × Bool)), (∀ ord ∈ S1, ord ∈ S) → ∃ S2 : List (List (Nat × Bool)), S2.map gsOf = ((S1.map gsOf).filter fun g => g.head? == some j).map List.tail ∧
            ∀ ord' ∈ S2, (∃ ord ∈ S, gsOf ord = j :: gsOf ord' ∧ ∀ x ∈ ord', x ∈ ord) ∧ Left ops (ord'.map Prod.fst) (listed.setIfInBounds j true) ∧ ord'.Pairwise (MayK ops) ∧ ord'.length = n ∧ wpOp P ops (QN Q) j (fun b w' => C w' ∧ Wv P ops C Q ord' b w') a w := by
          intro S1
          induction S1 with
          | nil => intro _; exact ⟨[], rfl, by simp⟩
          | cons x S1 ih2 =>
            intro hs
            obtain ⟨S2, e, h2⟩ := ih2 (fun ord hord => hs ord (List.mem_cons_of_mem _ hord))
            by_cases hh : (gsOf x).head? = some j
            · obtain ⟨x', h3, h4, h5⟩ := step x (hs x List.mem_cons_self) hh
              refine ⟨x' :: S2, by simp [e, h3, hh], fun ord' hord' => ?_⟩
              rcases List.mem_cons.1 hord' with rfl | hord'
              · refine ⟨⟨x, hs x List.mem_cons_self, ?_, h4⟩, h5⟩
                rw [h3]
                match hq : gsOf x with
                | [] => rw [hq] at hh; cases hh
                | y :: q => rw [hq] at hh; simp at hh; rw [hh]; rfl
              · exact h2 ord' hord'
            · exact ⟨S2, by simp [e, hh], h2⟩
        obtain ⟨S2, e, h2⟩ := coll S (fun _ h => h)
        have hne2 : S2 ≠ [] := fun e0 => by
          subst e0
          have := List.map_eq_nil_iff.1 e.symm
          exact hne this
        have hlen2 : S2.length = ((S.map gsOf).filter fun g => g.head? == some j).length := by
          have := congrArg List.length e
          simpa using this
        refine wpOp_mono (fun b w' hb => ?_) (wpOp_all (K := fun ord' b w' => C w' ∧ Wv P ops C Q ord' b w') hne2 (hdet.imp (hpl j) (fun h => hlen2.trans h)) (fun ord' ho' => (h2 ord' ho').2.2.2.2))
        obtain ⟨s0, hs0⟩ := List.exists_mem_of_ne_nil S2 hne2
        refine ih m S2 _ b w' hne2 (by rw [e]; exact hc') (fun ord' ho' => ?_) (hb s0 hs0).1 (fun ord' ho' x hx => ?_) (fun ord' ho' => ⟨(h2 ord' ho').2.2.2.1, (h2 ord' ho').2.1, (h2 ord' ho').2.2.1, (hb ord' ho').2⟩)
        · obtain ⟨⟨ord, h3, h4, _⟩, _⟩ := h2 ord' ho'
          have := hm ord h3
          rw [h4, List.length_cons] at this
          omega
        · obtain ⟨⟨ord, h3, _, h5⟩, _⟩ := h2 ord' ho'
          exact hfl ord h3 x (h5 x hx)
/-- All that is asked of an order, but that all orders are there. -/
def kB (ops : Array Oper) (A : List (List Nat)) : List (Nat × Bool) → Bool
  | [] => true
  | x :: r => (r.all fun y => (A.getD y.1 []).contains x.1 || (apB ops x.1 y.1 && (x.2 || y.2)) || (!x.2 && !y.2)) && kB ops A r
theorem kB_ok (hA : ∀ j i, i ∈ A.getD j [] → Dep ops i j) : ∀ {l : List (Nat × Bool)}, kB ops A l = true → l.Pairwise (MayK ops)
  | [], _ => List.Pairwise.nil
  | x :: r, h => by
    simp only [kB, Bool.and_eq_true] at h
    refine List.Pairwise.cons (fun y hy => ?_) (kB_ok hA h.2)
    have := List.all_eq_true.1 h.1 y hy
    simp only [Bool.or_eq_true, Bool.and_eq_true, Bool.not_eq_true'] at this
    rcases this with (h1 | ⟨h1, h2⟩) | h1
    · exact .inl (hA _ _ (by simpa using h1))
    · obtain ⟨oi, oj, e1, e2, e3⟩ := apB_ok h1
      exact .inr (.inl ⟨oi, oj, e1, e2, e3, h2⟩)
    · exact .inr (.inr h1)
def ordB (l : List Oper) (fl : Nat → Bool) (ls : List (Nat × Bool)) : Bool :=
  Nat.beq ls.length l.length && decide (ls.map Prod.fst).Nodup && extB l.toArray [] (ls.map Prod.fst) && kB l.toArray (ancs l) ls && (ls.all fun x => x.2 == fl x.1)
/-- Operations that are no calls. -/
def detB (ops : Array Oper) (j : Nat) : Bool := match ops[j]? with
  | some o => match o.op with
    | .buildSlice .. => true
    | .convert .. => true
    | .alloc .. => true
    | .box .. => true
    | _ => false
  | none => false
theorem det_run {P : Program} {s : Sem Value} {w w' : World} {n : Next} (h : (do pure (Next.value (← s)) : Sem Next).run P w = .ok n w') : (∃ v, n = .value v) ∨ n = .skip := by
  rw [Sem.run_bind] at h
  cases hr : s.run P w with
  | ok v w1 =>
    rw [hr] at h
    simp only [Result.andThen_ok, Sem.run_pure] at h
    injection h with h1
    exact .inl ⟨v, h1.symm⟩
  | halt x w1 => rw [hr] at h; cases h
theorem detB_ok {P : Program} {ops : Array Oper} {j : Nat} (h : detB ops j = true) : Det P ops j := fun o ho ρ w n w' hr => by
  unfold detB at h
  rw [ho] at h
  simp only at h
  unfold execOp at hr
  split at h <;> rename_i hop <;> first | (cases h; done) | (rw [hop] at hr; exact det_run hr)
def manyB (l : List Oper) (gs : List Nat) (S : List (List (Nat × Bool))) : Bool :=
  Region.noSelect l.toArray && covB (ancs l) (detB l.toArray) gs.length (S.map gsOf) && (S.all fun ls => ordB l (fun i => !gs.contains i) ls && Nat.beq (gsOf ls).length gs.length)
theorem wp_region_many {N : Frm} {id : Nat} {l : List Oper} {a : Act} {w : World} (gs : List Nat) (S : List (List (Nat × Bool))) (hS : S ≠ []) (hm : P.follows .mixedOrders = true) (hB : manyB l gs S = true) (hC : C w.drew) (h : ∀ ls ∈ S, Wv P l.toArray C Q ls a w.drew) : wq P N (.region id l.toArray true) Q a w := by
  simp only [manyB, Bool.and_eq_true, List.all_eq_true] at hB
  obtain ⟨⟨hsel, hcov⟩, hall0⟩ := hB
  have hA := ancs_ok l
  have ok : ∀ ls ∈ S, (Left l.toArray (ls.map Prod.fst) (Array.replicate l.toArray.size false) ∧ ls.Pairwise (MayK l.toArray) ∧ ls.length = l.length ∧ (∀ x ∈ ls, x.2 = !gs.contains x.1) ∧ (gsOf ls).length = gs.length) ∧
      (∀ (j : Nat) (o : Oper), l.toArray[j]? = some o → ∀ e ∈ o.after, Region.binds .any e = true → e.on < l.toArray.size) := fun ls hls => by
    obtain ⟨hB, hg⟩ := hall0 ls hls
    simp only [ordB, Bool.and_eq_true, decide_eq_true_eq, List.all_eq_true] at hB
    obtain ⟨⟨⟨⟨hlen, hnd⟩, hext⟩, hpairs⟩, hfl⟩ := hB
    have hlen := Nat.eq_of_beq_eq_true hlen
    obtain ⟨he1, he2⟩ := ext_ok hext (by simp) hnd
    have hall : ∀ k, k < l.length → k ∈ ls.map Prod.fst := all_in l.length _ hnd (by simpa using hlen) (fun x hx => by simpa using he2 x hx)
    refine ⟨⟨⟨hnd, by simp, he2, fun k hk => ?_, he1, fun j o ho hj => absurd (hall j (by simpa using (Array.getElem?_eq_some_iff.1 ho).1)) hj⟩, kB_ok hA hpairs, hlen, fun x hx => by simpa using hfl x hx, Nat.eq_of_beq_eq_true hg⟩, fun j o ho e he hb =>
      ext_edges _ _ hext (by simp) j (hall j (by simpa using (Array.getElem?_eq_some_iff.1 ho).1)) o ho e he hb⟩
    have h1 : k ∈ ls.map Prod.fst := hall k (by simpa using hk)
    have hk' : k < l.length := by simpa using hk
    have h2 : (Array.replicate l.toArray.size false).getD k true = false := by simp [Array.getD_eq_getD_getElem?, hk']
    exact ⟨fun _ => h1, fun _ => h2⟩
  obtain ⟨ls0, hls0⟩ := List.exists_mem_of_ne_nil S hS
  refine wq_any hm ?_
  have := any_of_k (P := P) (Q := Q) (C := C) (fun j h => detB_ok h) hA (Region.noSelect_spec hsel) (ok ls0 hls0).2 (fun i => !gs.contains i) l.length gs.length S (Array.replicate l.toArray.size false) a w.drew hS hcov
    (fun ls hls => Nat.le_of_eq (ok ls hls).1.2.2.2.2) hC (fun ls hls => (ok ls hls).1.2.2.2.1) (fun ls hls => ⟨(ok ls hls).1.2.2.1, (ok ls hls).1.1, (ok ls hls).1.2.1, h ls hls⟩)
  simpa using this
end
section
variable {P : Program} {N : Frm} {w0 : World} {Wr : List Nat} {fr : Fr} {H H0 : Heap} {Q : Exit → Act → World → Prop}
/-- Two orders; they meet in a family. -/
theorem awk_region {id : Nat} {l : List Oper} {ι : Type} (F : ι → Fr) (HH : ι → Heap) (I : ι → Prop) (H0 : Heap) (gs : List Nat) (o1 o2 : List (Nat × Bool)) (hm : P.follows .mixedOrders = true) (hB : manyB l gs [o1, o2] = true) (hk : HLe H0 H)
    (h1 : tw P N w0 Wr l.toArray H0 o1 fr H fun fr' H' => ∃ j, I j ∧ Kn (F j) fr' ∧ HLe (HH j) H')
    (h2 : tw P N w0 Wr l.toArray H0 o2 fr H fun fr' H' => ∃ j, I j ∧ Kn (F j) fr' ∧ HLe (HH j) H')
    (hy : ∀ j, I j → nx N w0 Wr (F j) (HH j) Q .normal) : awp P N w0 Wr (.region id l.toArray true) fr H Q :=
  fun a w ha hw => wp_region_many (C := Sat w0 Wr H0) gs [o1, o2] (by simp) hm hB (hk _ _ _ hw.drew) fun ls hls => by
    have key : tw P N w0 Wr l.toArray H0 ls fr H fun fr' H' => ∃ j, I j ∧ Kn (F j) fr' ∧ HLe (HH j) H' := by
      rcases List.mem_cons.1 hls with rfl | hls
      · exact h1
      · rw [List.mem_singleton.1 hls]; exact h2
    exact key Q (fun fr' H' a w ⟨j, hj, hf, hh⟩ ha hs => hy j hj a w (ha.kn hf) (hh _ _ _ hs)) a w.drew ha hw.drew
/-- Three orders. -/
theorem awk3_region {id : Nat} {l : List Oper} {ι : Type} (F : ι → Fr) (HH : ι → Heap) (I : ι → Prop) (H0 : Heap) (gs : List Nat) (o1 o2 o3 : List (Nat × Bool)) (hm : P.follows .mixedOrders = true) (hB : manyB l gs [o1, o2, o3] = true) (hk : HLe H0 H)
    (h1 : tw P N w0 Wr l.toArray H0 o1 fr H fun fr' H' => ∃ j, I j ∧ Kn (F j) fr' ∧ HLe (HH j) H')
    (h2 : tw P N w0 Wr l.toArray H0 o2 fr H fun fr' H' => ∃ j, I j ∧ Kn (F j) fr' ∧ HLe (HH j) H')
    (h3 : tw P N w0 Wr l.toArray H0 o3 fr H fun fr' H' => ∃ j, I j ∧ Kn (F j) fr' ∧ HLe (HH j) H')
    (hy : ∀ j, I j → nx N w0 Wr (F j) (HH j) Q .normal) : awp P N w0 Wr (.region id l.toArray true) fr H Q :=
  fun a w ha hw => wp_region_many (C := Sat w0 Wr H0) gs [o1, o2, o3] (by simp) hm hB (hk _ _ _ hw.drew) fun ls hls => by
    have key : tw P N w0 Wr l.toArray H0 ls fr H fun fr' H' => ∃ j, I j ∧ Kn (F j) fr' ∧ HLe (HH j) H' := by
      rcases List.mem_cons.1 hls with rfl | hls
      · exact h1
      · rcases List.mem_cons.1 hls with rfl | hls
        · exact h2
        · rw [List.mem_singleton.1 hls]; exact h3
    exact key Q (fun fr' H' a w ⟨j, hj, hf, hh⟩ ha hs => hy j hj a w (ha.kn hf) (hh _ _ _ hs)) a w.drew ha hw.drew
theorem awk3_seq_region {id : Nat} {l : List Oper} {y : Code} {ι : Type} (F : ι → Fr) (HH : ι → Heap) (I : ι → Prop) (H0 : Heap) (gs : List Nat) (o1 o2 o3 : List (Nat × Bool)) (hm : P.follows .mixedOrders = true) (hB : manyB l gs [o1, o2, o3] = true) (hk : HLe H0 H)
    (h1 : tw P N w0 Wr l.toArray H0 o1 fr H fun fr' H' => ∃ j, I j ∧ Kn (F j) fr' ∧ HLe (HH j) H')
    (h2 : tw P N w0 Wr l.toArray H0 o2 fr H fun fr' H' => ∃ j, I j ∧ Kn (F j) fr' ∧ HLe (HH j) H')
    (h3 : tw P N w0 Wr l.toArray H0 o3 fr H fun fr' H' => ∃ j, I j ∧ Kn (F j) fr' ∧ HLe (HH j) H')
    (hy : ∀ j, I j → awp P N w0 Wr y (F j) (HH j) Q) : awp P N w0 Wr (.seq (.region id l.toArray true) y) fr H Q :=
  awp_seq (awk3_region F HH I H0 gs o1 o2 o3 hm hB hk h1 h2 h3 fun j hj => hy j hj)
theorem awk_seq_region {id : Nat} {l : List Oper} {y : Code} {ι : Type} (F : ι → Fr) (HH : ι → Heap) (I : ι → Prop) (H0 : Heap) (gs : List Nat) (o1 o2 : List (Nat × Bool)) (hm : P.follows .mixedOrders = true) (hB : manyB l gs [o1, o2] = true) (hk : HLe H0 H)
    (h1 : tw P N w0 Wr l.toArray H0 o1 fr H fun fr' H' => ∃ j, I j ∧ Kn (F j) fr' ∧ HLe (HH j) H')
    (h2 : tw P N w0 Wr l.toArray H0 o2 fr H fun fr' H' => ∃ j, I j ∧ Kn (F j) fr' ∧ HLe (HH j) H')
    (hy : ∀ j, I j → awp P N w0 Wr y (F j) (HH j) Q) : awp P N w0 Wr (.seq (.region id l.toArray true) y) fr H Q :=
  awp_seq (awk_region F HH I H0 gs o1 o2 hm hB hk h1 h2 fun j hj => hy j hj)
end
theorem Sat.callA {w0 w w' : World} {Wr : List Nat} {Hc K U H' : Heap} (h : Sat w0 Wr (Hc ++ K) w) (hroU : Ro U) (h' : Sat w (wrs (Hc ++ U)) H' w') : Sat w0 Wr (H'.filter Ent.wr ++ K) w' := by
  rw [hroU.wrs] at h'
  have hs := List.pairwise_append.1 h.sep
  have hin : ∀ i ∈ wrs Hc, i ∈ Wr ∨ w0.heap.size ≤ i := fun i hi => by
    obtain ⟨e, he, hw, rfl⟩ := mem_wrs.1 hi
    exact (h.ents e (List.mem_append_left _ he)).2 hw
  have hout : ∀ x ∈ K, x.g ∉ wrs Hc := fun x hx hm => by
    obtain ⟨e, he, hw, hg⟩ := mem_wrs.1 hm
    exact hs.2.2 e he x hx (by simp [hw]) hg
  refine ⟨h.only.trans h'.only hin, fun e he => ?_, List.pairwise_append.2 ⟨h'.sep.sublist List.filter_sublist, hs.2.1, fun a ha b hb _ hg => ?_⟩⟩
  · rcases List.mem_append.1 he with he | he
    · have hm := h'.ents e (List.mem_filter.1 he).1
      refine ⟨hm.1, fun hw => ?_⟩
      rcases hm.2 hw with h1 | h1
      · exact hin _ h1
      · exact .inr (Nat.le_trans h.only.size h1)
    · have hm := h.ents e (List.mem_append_right _ he)
      exact ⟨Ent.keep hm.1 h'.only.size (h'.only.block _ (Ent.lt hm.1) (hout e he)), hm.2⟩
  · obtain ⟨ha1, ha2⟩ := List.mem_filter.1 ha
    rcases (h'.ents a ha1).2 ha2 with h1 | h1
    · exact hout b hb (hg ▸ h1)
    · have := Ent.lt (h.ents b (List.mem_append_right _ hb)).1
      omega
/-- A call that takes a part of memory, and reads of the rest; the rest stays. -/
theorem sx_callA {P : Program} {N : Frm} {w0 : World} {Wr : List Nat} {ops : Array Oper} {rest : List Oper} {fr : Fr} {H : Heap} {Z : Fr → Heap → Prop} {ty : Nat} {pos : String} {after : Array Edge}
    {f : FuncId} {xs : List Operand} {vs : List Value} {ts : Array TypeId} {dst : Option Nat} {R : Value → Heap → Prop} (Hc U K : Heap) (hc : Fn P f vs (Hc ++ U) R) (hx : evs fr xs = some vs) (hH : HLe (Hc ++ K) H) (hU : U.Sublist K) (hroU : Ro U) (hN : dstB N dst = true)
    (h : ∀ v H', R v H' → sx P N w0 Wr ops rest (match dst with | some d => (d, v) :: fr | none => fr) (H'.filter Ent.wr ++ K) Z) :
    sx P N w0 Wr ops (⟨dst, .call { callee := .value (.func f), args := xs.toArray, argTypes := ts }, ty, pos, after, none⟩ :: rest) fr H Z :=
  sx_callW (R := fun v H2 => ∃ H', R v H' ∧ H2 = H'.filter Ent.wr ++ K) hc.1 hx hN (fun w hw => by
    have hw' := hH _ _ _ hw
    have hpre : Sat w (wrs (Hc ++ U)) (Hc ++ U) w := by
      have hsub := hw'.sub (List.Sublist.append_left hU Hc)
      exact ⟨Only.refl _ _, fun e he => ⟨(hsub.ents e he).1, fun h => .inl (mem_wrs.2 ⟨e, he, h, rfl⟩)⟩, hsub.sep⟩
    exact (hc.2 w hpre).mono fun e w' he => by
      obtain ⟨v, H', h1, h2, h3⟩ := he
      exact ⟨v, _, h1, ⟨H', h2, rfl⟩, hw'.callA hroU h3⟩) (fun v H2 hR => by obtain ⟨H', hR, rfl⟩ := hR; exact h v H' hR)
end Go.Proofs.Ytfffhnefjaomnaa
