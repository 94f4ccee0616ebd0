/- Walks and plain laws for this claim (texts SxO, joined). Each theorem states its own conditions. -/
import Derived.Test.YtkojkeabelckjaaGreatDoorJ06

set_option linter.all false
namespace Go.Proofs.YtkojkeabelckjaaGreatDoor
open Go.RowKit
section
variable {P : Program} {N : Frm} {w0 : World} {Wr : List Nat} {ops : Array Oper} {rest : List Oper} {fr : Fr} {H H0 : Heap} {Z : Fr → Heap → Prop}
variable {d ty : Nat} {pos : String} {after : Array Edge}
theorem sv_on {dst : Option Nat} {op : Op} {j t : Nat} {b : Bool} {oj : Oper} (hj : ops[j]? = some oj) (ht : oj.dst = some t) (hb : lk fr t = some (.bool b))
  (h : sv P N w0 Wr ops (⟨dst, op, ty, pos, after, none⟩ :: rest) fr H Z) : sv P N w0 Wr ops (⟨dst, op, ty, pos, after, some (j, b)⟩ :: rest) fr H Z :=
 fun K hK a ha => by
  obtain ⟨v, hv, hk⟩ := h K hK a ha
  have hy : yielded ops a.tmps j = some b := by
   have := ha.at_ t _ hb
   simp [yielded, hj, ht, this]
  refine ⟨v, fun w hw => ?_, hk⟩
  rcases hv w hw with ⟨h1, h2⟩ | ⟨h1, h2⟩
  ·exact .inl ⟨by simp [Region.wanted, hy], h2⟩
  ·simp [Region.wanted] at h1
theorem tw_force {xs : List (Nat × Bool)} (t : Nat) {b : Bool} (hb : lk fr t = some (.bool b)) (c : Bool) (e : b = c) (h : tw P N w0 Wr ops H0 xs ((t, .bool c) :: fr) H Z) : tw P N w0 Wr ops H0 xs fr H Z := by
 intro Q hQ a w ha hw
 refine h Q hQ a w ⟨ha.size, ha.defers, fun k v hv => ?_⟩ hw
 simp only [lk] at hv
 cases hbq : Nat.beq t k with
 | true =>
  rw [hbq] at hv
  obtain rfl := Nat.eq_of_beq_eq_true hbq
  simp only [cond_true] at hv
  rw [← hv, ← e]
  exact ha.at_ t _ hb
 | false =>
  rw [hbq] at hv
  exact ha.at_ k v hv
end
inductive Tr where
 | nil : Tr
 | step (x : Nat × Bool) (t : Tr) : Tr
 | fork (t u : Tr) : Tr
namespace Tr
def paths : Tr → List (List (Nat × Bool))
 | nil => [[]]
 | step x t => (paths t).map (x :: ·)
 | fork t u => paths t ++ paths u
def fp : Tr → List (Nat × Bool)
 | nil => []
 | step x t => x :: fp t
 | fork t _ => fp t
def rem (j : Nat) : Tr → Tr
 | nil => nil
 | step x t => if x.1 = j then t else step x (rem j t)
 | fork t u => fork (rem j t) (rem j u)
def res (j : Nat) : Tr → Option Tr
 | nil => none
 | step x t => if x.1 = j then some t else if x.2 then (res j t).map (step x) else none
 | fork t u => (res j t).or (res j u)
def cov (A : List (List Nat)) : Nat → Tr → Bool
 | 0, _ => true
 | m + 1, t => (gsOf (fp t)).all fun j => ((gsOf (fp t)).any fun i => (A.getD j []).contains i) || match res j t with
  | some r => cov A m r
  | none => false
def quiet (j : Nat) : Tr → Prop
 | nil => True
 | step x t => (x.1 = j → x.2 = true) ∧ quiet j t
 | fork t u => quiet j t ∧ quiet j u
theorem fp_mem : ∀ t : Tr, fp t ∈ paths t
 | nil => by simp [fp, paths]
 | step x t => List.mem_map.2 ⟨_, fp_mem t, rfl⟩
 | fork t _ => List.mem_append_left _ (fp_mem t)
theorem quiet_of {j : Nat} : ∀ t : Tr, (∀ p ∈ paths t, ∀ x ∈ p, x.1 = j → x.2 = true) → quiet j t
 | nil, _ => trivial
 | step x t, h => ⟨h _ (List.mem_map.2 ⟨_, fp_mem t, rfl⟩) x List.mem_cons_self, quiet_of t fun p hp y hy => h _ (List.mem_map.2 ⟨_, hp, rfl⟩) y (List.mem_cons_of_mem _ hy)⟩
 | fork t u, h => ⟨quiet_of t fun p hp => h p (List.mem_append_left _ hp), quiet_of u fun p hp => h p (List.mem_append_right _ hp)⟩
def er (j : Nat) (p : List (Nat × Bool)) : List (Nat × Bool) := p.eraseP fun x => x.1 == j
theorem er_hit {j : Nat} {x : Nat × Bool} {p : List (Nat × Bool)} (h : x.1 = j) : er j (x :: p) = p := by simp [er, h]
theorem er_miss {j : Nat} {x : Nat × Bool} {p : List (Nat × Bool)} (h : ¬ x.1 = j) : er j (x :: p) = x :: er j p := by simp [er, h]
theorem er_at {j : Nat} {b : Bool} : ∀ {p r : List (Nat × Bool)}, (∀ x ∈ p, ¬ x.1 = j) → er j (p ++ (j, b) :: r) = p ++ r
 | [], r, _ => er_hit rfl
 | x :: p, r, h => by rw [List.cons_append, er_miss (h x List.mem_cons_self), er_at fun y hy => h y (List.mem_cons_of_mem _ hy)]; rfl
theorem paths_rem {j : Nat} : ∀ t : Tr, paths (rem j t) = (paths t).map (er j)
 | nil => rfl
 | step x t => by
  rw [rem, paths, List.map_map]
  by_cases h : x.1 = j
  ·rw [if_pos h]
   exact (List.map_id _).symm.trans (List.map_congr_left fun p _ => (er_hit h).symm)
  ·rw [if_neg h, paths, paths_rem t, List.map_map]
   exact List.map_congr_left fun p _ => (er_miss h).symm
 | fork t u => by rw [rem, paths, paths, paths_rem t, paths_rem u, List.map_append]
theorem paths_res {j : Nat} : ∀ {t r : Tr}, res j t = some r → ∀ p ∈ paths r, ∃ q ∈ paths t, p = er j q
 | nil, _, h, _, _ => by cases h
 | step x t, r, h, p, hp => by
  rw [res] at h
  by_cases hx : x.1 = j
  ·rw [if_pos hx] at h
   obtain rfl := Option.some.inj h
   exact ⟨_, List.mem_map.2 ⟨p, hp, rfl⟩, (er_hit hx).symm⟩
  ·rw [if_neg hx] at h
   split at h
   ·cases hr : res j t with
    | none => rw [hr] at h; cases h
    | some r' =>
     rw [hr] at h
     obtain rfl := Option.some.inj h
     obtain ⟨p', hp', rfl⟩ := List.mem_map.1 hp
     obtain ⟨q, hq, rfl⟩ := paths_res hr p' hp'
     exact ⟨_, List.mem_map.2 ⟨q, hq, rfl⟩, (er_miss hx).symm⟩
   ·cases h
 | fork t u, r, h, p, hp => by
  rw [res] at h
  cases hr : res j t with
  | some r' =>
   rw [hr] at h
   obtain rfl := Option.some.inj h
   obtain ⟨q, hq, e⟩ := paths_res hr p hp
   exact ⟨q, List.mem_append_left _ hq, e⟩
  | none =>
   rw [hr] at h
   obtain ⟨q, hq, e⟩ := paths_res (t := u) h p hp
   exact ⟨q, List.mem_append_right _ hq, e⟩
theorem gs_rem {j : Nat} : ∀ t : Tr, quiet j t → gsOf (fp (rem j t)) = gsOf (fp t)
 | nil, _ => rfl
 | step x t, h => by
  rw [rem]
  by_cases hx : x.1 = j
  ·rw [if_pos hx]
   simp [fp, gsOf, h.1 hx]
  ·rw [if_neg hx, fp, fp]
   have := gs_rem t h.2
   simp only [gsOf] at this ⊢
   rw [List.filter_cons, List.filter_cons]
   split
   ·rw [List.map_cons, List.map_cons, this]
   ·exact this
 | fork t _, h => gs_rem t h.1
theorem res_rem {j k : Nat} (hk : ¬ j = k) : ∀ t : Tr, quiet j t → res k (rem j t) = (res k t).map (rem j)
 | nil, _ => rfl
 | step x t, h => by
  rw [rem]
  by_cases hx : x.1 = j
  ·rw [if_pos hx, res, if_neg (fun e => hk (hx.symm.trans e)), if_pos (h.1 hx), Option.map_map]
   have : (rem j ∘ step x) = id := funext fun r => by simp [Function.comp, rem, hx]
   rw [this, Option.map_id]
   rfl
  ·rw [if_neg hx, res, res, res_rem hk t h.2]
   split
   ·rfl
   ·split
    ·rw [Option.map_map, Option.map_map]
     congr 1
     funext r
     simp [Function.comp, rem, hx]
    ·rfl
 | fork t u, h => by
  rw [rem, res, res, res_rem hk t h.1, res_rem hk u h.2]
  cases res k t <;> rfl
theorem quiet_res {j k : Nat} : ∀ {t r : Tr}, quiet j t → res k t = some r → quiet j r
 | nil, _, _, h => by cases h
 | step x t, r, hq, h => by
  rw [res] at h
  split at h
  ·obtain rfl := Option.some.inj h; exact hq.2
  ·split at h
   ·cases hr : res k t with
    | none => rw [hr] at h; cases h
    | some r' =>
     rw [hr] at h
     obtain rfl := Option.some.inj h
     exact ⟨hq.1, quiet_res hq.2 hr⟩
   ·cases h
 | fork t u, r, hq, h => by
  rw [res] at h
  cases hr : res k t with
  | some r' => rw [hr] at h; obtain rfl := Option.some.inj h; exact quiet_res hq.1 hr
  | none => rw [hr] at h; exact quiet_res (t := u) hq.2 h
theorem gs_loud {k : Nat} : ∀ {t : Tr}, k ∈ gsOf (fp t) → ∀ j, quiet j t → ¬ j = k
 | t, h, j, hq, e => by
  subst e
  have h1 := gs_in h
  have : ∀ t : Tr, quiet j t → (j, false) ∈ fp t → False := by
   intro t
   induction t with
   | nil => intro _ h; cases h
   | step x t ih =>
    intro hq h
    rcases List.mem_cons.1 h with rfl | h
    ·cases hq.1 rfl
    ·exact ih hq.2 h
   | fork t u ih1 _ => intro hq h; exact ih1 hq.1 h
  exact this t hq h1
theorem cov_rem {A : List (List Nat)} {j : Nat} : ∀ (m : Nat) (t : Tr), quiet j t → cov A m t = true → cov A m (rem j t) = true
 | 0, _, _, _ => rfl
 | m + 1, t, hq, h => by
  rw [cov] at h ⊢
  rw [gs_rem t hq]
  rw [List.all_eq_true] at h ⊢
  intro k hk
  have h1 := h k hk
  rw [Bool.or_eq_true] at h1 ⊢
  rcases h1 with h1 | h1
  ·exact .inl h1
  ·refine .inr ?_
   rw [res_rem (gs_loud hk j hq) t hq]
   cases hr : res k t with
   | none => rw [hr] at h1; cases h1
   | some r =>
    rw [hr] at h1
    exact cov_rem m r (quiet_res hq hr) h1
end Tr
open Tr
section
variable {P : Program} {ops : Array Oper} {Q : Exit → Act → World → Prop} {C : World → Prop} {A : List (List Nat)}
def Wt (P : Program) (ops : Array Oper) (C : World → Prop) (Q : Exit → Act → World → Prop) : Tr → Act → World → Prop
 | .nil, a, w => QN Q .normal a w
 | .step x t, a, w => vst P ops C Q x (Wt P ops C Q t) a w
 | .fork t u, a, w => Wt P ops C Q t a w ∧ Wt P ops C Q u a w
theorem vst_monoC {x : Nat × Bool} {K K' : Act → World → Prop} {a : Act} {w : World} (hC : C w) (h : ∀ a w, C w → K a w → K' a w) (hh : vst P ops C Q x K a w) : vst P ops C Q x K' a w := by
 unfold vst at hh ⊢
 split
 ·rename_i hx
  rw [hx] at hh
  obtain ⟨o, v, h1, h2, h3⟩ := hh
  exact ⟨o, v, h1, h2, h _ _ hC h3⟩
 ·rename_i hx
  rw [hx] at hh
  exact wpOp_mono (fun a w ⟨hc, hk⟩ => ⟨hc, h a w hc hk⟩) hh
def Pass (ops : Array Oper) (y : Nat × Bool) : Tr → Prop
 | .nil => False
 | .step x t => x = y ∨ (¬ x.1 = y.1 ∧ (MayV ops x y ∨ (x.2 = false ∧ y.2 = false)) ∧ Pass ops y t)
 | .fork t u => Pass ops y t ∧ Pass ops y u
theorem pass_of {y : Nat × Bool} : ∀ t : Tr, (∀ p ∈ paths t, ∃ p1 r, p = p1 ++ y :: r ∧ ∀ x ∈ p1, ¬ x.1 = y.1 ∧ (MayV ops x y ∨ (x.2 = false ∧ y.2 = false))) → Pass ops y t
 | .nil, h => by
  obtain ⟨p1, r, e, _⟩ := h [] (by simp [paths])
  have := congrArg List.length e
  simp at this
 | .step x t, h => by
  by_cases hx : x = y
  ·exact .inl hx
  ·have key : ∀ p ∈ paths t, ∃ p1 r, p = p1 ++ y :: r ∧ (∀ z ∈ x :: p1, ¬ z.1 = y.1 ∧ (MayV ops z y ∨ (z.2 = false ∧ y.2 = false))) := fun p hp => by
    obtain ⟨p1, r, e, h1⟩ := h _ (List.mem_map.2 ⟨p, hp, rfl⟩)
    match p1 with
    | [] => injection e with e1 _; exact absurd e1 hx
    | z :: p2 =>
     injection e with e1 e2
     subst e1
     exact ⟨p2, r, e2, h1⟩
   obtain ⟨p1, r, _, h1⟩ := key _ (fp_mem t)
   have h2 := h1 x List.mem_cons_self
   exact .inr ⟨h2.1, h2.2, pass_of t fun p hp => by
    obtain ⟨p1, r, e, h1⟩ := key p hp
    exact ⟨p1, r, e, fun z hz => h1 z (List.mem_cons_of_mem _ hz)⟩⟩
 | .fork t u, h => ⟨pass_of t fun p hp => h p (List.mem_append_left _ hp), pass_of u fun p hp => h p (List.mem_append_right _ hp)⟩
theorem val_front (hsel : ∀ (j : Nat) (o : Oper) cs b, ops[j]? = some o → o.op ≠ .select cs b) {j : Nat} : ∀ (t : Tr) (a : Act) (w : World), C w → Pass ops (j, true) t → Wt P ops C Q t a w → vst P ops C Q (j, true) (Wt P ops C Q (rem j t)) a w
 | .nil, _, _, _, hp, _ => hp.elim
 | .step x t, a, w, hC, hp, h => by
  by_cases hx : x = (j, true)
  ·subst hx
   rw [rem, if_pos rfl]
   exact h
  ·rcases hp with hp | ⟨h1, h2, h3⟩
   ·exact absurd hp hx
   ·rw [rem, if_neg h1]
    have h4 : MayV ops x (j, true) := h2.elim id fun h => by cases h.2
    obtain ⟨oi, oj, e1, e2, e3, e4⟩ := h4
    exact vst_swap (K := Wt P ops C Q (rem j t)) e1 e2 e3 (fun cs b => hsel _ _ cs b e1) (fun cs b => hsel _ _ cs b e2) e4 (vst_monoC hC (fun b w' hC' hb => val_front hsel t b w' hC' h3 hb) h)
 | .fork t u, a, w, hC, hp, h => by
  obtain ⟨o, v, h1, h2, h3⟩ := val_front hsel t a w hC hp.1 h.1
  obtain ⟨o', v', h1', h2', h3'⟩ := val_front hsel u a w hC hp.2 h.2
  simp only at h1 h1'
  rw [h1] at h1'; obtain rfl := Option.some.inj h1'
  have : v' = v := (h2' w hC).uniq (h2 w hC)
  subst this
  exact ⟨o, v', h1, h2, h3, h3'⟩
theorem op_front (hsel : ∀ (j : Nat) (o : Oper) cs b, ops[j]? = some o → o.op ≠ .select cs b) {j : Nat} : ∀ (t r : Tr) (a : Act) (w : World), C w → Pass ops (j, false) t → res j t = some r → Wt P ops C Q t a w → vst P ops C Q (j, false) (Wt P ops C Q r) a w
 | .nil, _, _, _, _, hp, _, _ => hp.elim
 | .step x t, r, a, w, hC, hp, hr, h => by
  by_cases hx : x = (j, false)
  ·subst hx
   rw [res, if_pos rfl] at hr
   obtain rfl := Option.some.inj hr
   exact h
  ·rcases hp with hp | ⟨h1, h2, h3⟩
   ·exact absurd hp hx
   ·rw [res, if_neg h1] at hr
    split at hr
    ·rename_i hx2
     cases hr' : res j t with
     | none => rw [hr'] at hr; cases hr
     | some r' =>
      rw [hr'] at hr
      obtain rfl := Option.some.inj hr
      have h4 : MayV ops x (j, false) := h2.elim id fun h => by rw [hx2] at h; cases h.1
      obtain ⟨oi, oj, e1, e2, e3, e4⟩ := h4
      exact vst_swap (K := Wt P ops C Q r') e1 e2 e3 (fun cs b => hsel _ _ cs b e1) (fun cs b => hsel _ _ cs b e2) e4 (vst_monoC hC (fun b w' hC' hb => op_front hsel t r' b w' hC' h3 hr' hb) h)
    ·cases hr
 | .fork t u, r, a, w, hC, hp, hr, h => by
  rw [res] at hr
  cases hr' : res j t with
  | some r' =>
   rw [hr'] at hr
   obtain rfl := Option.some.inj hr
   exact op_front hsel t r' a w hC hp.1 hr' h.1
  | none =>
   rw [hr'] at hr
   exact op_front hsel u r a w hC hp.2 hr h.2
theorem wt_nil : ∀ (t : Tr) (a : Act) (w : World), (∀ p ∈ paths t, p = []) → Wt P ops C Q t a w → QN Q .normal a w
 | .nil, _, _, _, h => h
 | .step x t, _, _, hp, _ => by
  have := hp _ (List.mem_map.2 ⟨_, fp_mem t, rfl⟩)
  cases this
 | .fork t _, a, w, hp, h => wt_nil t a w (fun p h' => hp p (List.mem_append_left _ h')) h.1
theorem any_of_t (hA : ∀ j i, i ∈ A.getD j [] → Dep ops i j) (hsel : ∀ (j : Nat) (o : Oper) cs b, ops[j]? = some o → o.op ≠ .select cs b) (hedge : ∀ (j : Nat) (o : Oper), ops[j]? = some o → ∀ e ∈ o.after, Region.binds .any e = true → e.on < ops.size) (fl : Nat → Bool) :
  ∀ (n m : Nat) (t : Tr) (listed : Array Bool) (a : Act) (w : World), cov A m t = true → C w →
   (∀ p ∈ paths t, p.length = n ∧ (gsOf p).length ≤ m ∧ Left ops (p.map Prod.fst) listed ∧ p.Pairwise (MayK ops) ∧ ∀ x ∈ p, x.2 = fl x.1) → Wt P ops C Q t a w → wpAny P .any ops (QN Q) n listed a w := by
 intro n
 induction n with
 | zero =>
  intro m t listed a w _ _ hp h
  refine ⟨List.eq_nil_iff_forall_not_mem.2 fun j hj => ?_, wt_nil t a w (fun p h' => List.eq_nil_of_length_eq_zero (hp p h').1) h⟩
  obtain ⟨hl, _, hL, _⟩ := hp _ (fp_mem t)
  have e := List.eq_nil_of_length_eq_zero hl
  obtain ⟨h0, o, ho, _⟩ := mem_ready.1 hj
  have := (hL.mem j (Array.getElem?_eq_some_iff.1 ho).1).1 h0
  rw [e] at this
  simp at this
 | succ n ih =>
  intro m t listed a w hc hC hp h
  refine ⟨fun hnil => ?_, fun j hj => ?_⟩
  ·exfalso
   obtain ⟨hl, _, hL, _⟩ := hp _ (fp_mem t)
   match hq : fp t, hl with
   | x :: r, _ =>
    rw [hq] at hL
    have := hL.first hedge
    rw [hnil] at this
    cases this
  ·obtain ⟨h0, o, ho, hall⟩ := mem_ready.1 hj
   have split : ∀ p ∈ paths t, ∃ p1 r, p = p1 ++ (j, fl j) :: r ∧ (∀ x ∈ p1, ¬ x.1 = j ∧ (MayV ops x (j, fl j) ∨ (x.2 = false ∧ fl j = false))) ∧ Left ops ((p1 ++ r).map Prod.fst) (listed.setIfInBounds j true) := fun p hpt => by
    obtain ⟨_, _, hL, hpw, hfl⟩ := hp p hpt
    have hdeps := hL.deps hedge hj
    have hjm := (hL.mem j (Array.getElem?_eq_some_iff.1 ho).1).1 h0
    obtain ⟨bj, hjb⟩ := mem_fst hjm
    have hb : bj = fl j := hfl _ hjb
    subst hb
    obtain ⟨p1, r, rfl⟩ := List.append_of_mem hjb
    have hpp := List.pairwise_append.1 hpw
    have hnd := hL.nodup
    rw [List.map_append, List.map_cons] at hnd
    refine ⟨p1, r, rfl, fun x hx => ⟨fun e => (List.nodup_append.1 hnd).2.2 x.1 (List.mem_map.2 ⟨x, hx, rfl⟩) j List.mem_cons_self e, ?_⟩, ?_⟩
    ·rcases hpp.2.2 x hx (j, fl j) List.mem_cons_self with hd | hd | hd
     ·exact absurd (List.mem_map.2 ⟨x, List.mem_append_left _ hx, rfl⟩) (hdeps x.1 hd)
     ·exact .inl hd
     ·exact .inr hd
    ·rw [List.map_append]
     exact Left.step (by simpa using hL) hedge hj
   have rest : ∀ p ∈ paths t, (er j p).length = n ∧ (gsOf (er j p)).length + (if fl j then 0 else 1) = (gsOf p).length ∧ Left ops ((er j p).map Prod.fst) (listed.setIfInBounds j true) ∧ (er j p).Pairwise (MayK ops) ∧ ∀ x ∈ er j p, x.2 = fl x.1 := fun p hpt => by
    obtain ⟨hl, _, _, hpw, hfl⟩ := hp p hpt
    obtain ⟨p1, r, e, h1, h2⟩ := split p hpt
    have he : er j p = p1 ++ r := by rw [e]; exact er_at fun x hx => (h1 x hx).1
    have hsub : (er j p).Sublist p := List.eraseP_sublist
    refine ⟨?_, ?_, he ▸ h2, hpw.sublist hsub, fun x hx => hfl x (hsub.subset hx)⟩
    ·rw [he]; rw [e] at hl; simp at hl ⊢; omega
    ·rw [he, e]
     cases hf : fl j <;> simp [gsOf, List.filter_append] <;> omega
   have hpass : Pass ops (j, fl j) t := pass_of t fun p hpt => by
    obtain ⟨p1, r, e, h1, _⟩ := split p hpt
    exact ⟨p1, r, e, h1⟩
   cases hf : fl j with
   | true =>
    rw [hf] at hpass
    have hq : quiet j t := quiet_of t fun p hpt x hx e => by rw [(hp p hpt).2.2.2.2 x hx, e]; exact hf
    obtain ⟨o', v, e, hv, hk⟩ := val_front hsel t a w hC hpass h
    simp only at e
    refine (hv w hC).wp e ?_
    refine ih m (rem j t) _ _ w (cov_rem m t hq hc) hC (fun p hpt => ?_) hk
    rw [paths_rem] at hpt
    obtain ⟨q, hq', rfl⟩ := List.mem_map.1 hpt
    obtain ⟨r1, r2, r3, r4, r5⟩ := rest q hq'
    refine ⟨r1, ?_, r3, r4, r5⟩
    have := (hp q hq').2.1
    rw [hf] at r2
    simp at r2
    omega
   | false =>
    rw [hf] at hpass
    have hj0 : j ∈ gsOf (fp t) := by
     obtain ⟨p1, r, e, _⟩ := split _ (fp_mem t)
     rw [hf] at e
     exact gs_mem (by rw [e]; simp)
    have hm1 : 0 < m := Nat.lt_of_lt_of_le (List.length_pos_of_mem hj0) (hp _ (fp_mem t)).2.1
    obtain ⟨m, rfl⟩ : ∃ k, m = k + 1 := ⟨m - 1, by omega⟩
    rw [cov, List.all_eq_true] at hc
    have hc1 := hc j hj0
    rw [Bool.or_eq_true] at hc1
    rcases hc1 with hc1 | hc1
    ·obtain ⟨i, hi, hij⟩ := List.any_eq_true.1 hc1
     have hdeps := (hp _ (fp_mem t)).2.2.1.deps hedge hj i (hA j i (by simpa using hij))
     exact absurd (List.mem_map.2 ⟨(i, false), gs_in hi, rfl⟩) hdeps
    ·cases hr : res j t with
     | none => rw [hr] at hc1; cases hc1
     | some r =>
      rw [hr] at hc1
      have hg := vst_op hC (op_front hsel t r a w hC hpass hr h)
      refine wpOp_mono (fun b w' hb => ?_) hg
      refine ih m r _ b w' hc1 hb.1 (fun p hpt => ?_) hb.2
      obtain ⟨q, hq', rfl⟩ := paths_res hr p hpt
      obtain ⟨r1, r2, r3, r4, r5⟩ := rest q hq'
      refine ⟨r1, ?_, r3, r4, r5⟩
      have := (hp q hq').2.1
      rw [hf] at r2
      simp at r2
      omega
def treeB (l : List Oper) (gs : List Nat) (t : Tr) : Bool :=
 Region.noSelect l.toArray && cov (ancs l) gs.length t && ((paths t).all fun ls => ordB l (fun i => !gs.contains i) ls && Nat.beq (gsOf ls).length gs.length)
theorem wp_region_tree {N : Frm} {id : Nat} {l : List Oper} {a : Act} {w : World} (gs : List Nat) (t : Tr) (hm : P.follows .mixedOrders = true) (hB : treeB l gs t = true) (hC : C w.drew) (h : Wt P l.toArray C Q t a w.drew) : wq P N (.region id l.toArray true) Q a w := by
 simp only [treeB, Bool.and_eq_true, List.all_eq_true] at hB
 obtain ⟨⟨hsel, hcov⟩, hall0⟩ := hB
 have hA := ancs_ok l
 have ok : ∀ ls ∈ paths t, (Left l.toArray (ls.map Prod.fst) (Array.replicate l.toArray.size false) ∧ ls.Pairwise (MayK l.toArray) ∧ ls.length = l.length ∧ (∀ x ∈ ls, x.2 = !gs.contains x.1) ∧ (gsOf ls).length = gs.length) ∧
   (∀ (j : Nat) (o : Oper), l.toArray[j]? = some o → ∀ e ∈ o.after, Region.binds .any e = true → e.on < l.toArray.size) := fun ls hls => by
  obtain ⟨hB, hg⟩ := hall0 ls hls
  simp only [ordB, Bool.and_eq_true, decide_eq_true_eq, List.all_eq_true] at hB
  obtain ⟨⟨⟨⟨hlen, hnd⟩, hext⟩, hpairs⟩, hfl⟩ := hB
  have hlen := Nat.eq_of_beq_eq_true hlen
  obtain ⟨he1, he2⟩ := ext_ok hext (by simp) hnd
  have hall : ∀ k, k < l.length → k ∈ ls.map Prod.fst := all_in l.length _ hnd (by simpa using hlen) (fun x hx => by simpa using he2 x hx)
  refine ⟨⟨⟨hnd, by simp, he2, fun k hk => ?_, he1, fun j o ho hj => absurd (hall j (by simpa using (Array.getElem?_eq_some_iff.1 ho).1)) hj⟩, kB_ok hA hpairs, hlen, fun x hx => by simpa using hfl x hx, Nat.eq_of_beq_eq_true hg⟩, fun j o ho e he hb =>
   ext_edges _ _ hext (by simp) j (hall j (by simpa using (Array.getElem?_eq_some_iff.1 ho).1)) o ho e he hb⟩
  have h1 : k ∈ ls.map Prod.fst := hall k (by simpa using hk)
  have hk' : k < l.length := by simpa using hk
  have h2 : (Array.replicate l.toArray.size false).getD k true = false := by simp [Array.getD_eq_getD_getElem?, hk']
  exact ⟨fun _ => h1, fun _ => h2⟩
 refine wq_any hm ?_
 have := any_of_t (P := P) (Q := Q) (C := C) hA (Region.noSelect_spec hsel) (ok _ (fp_mem t)).2 (fun i => !gs.contains i) l.length gs.length t (Array.replicate l.toArray.size false) a w.drew hcov hC
  (fun ls hls => ⟨(ok ls hls).1.2.2.1, Nat.le_of_eq (ok ls hls).1.2.2.2.2, (ok ls hls).1.1, (ok ls hls).1.2.1, (ok ls hls).1.2.2.2.1⟩) h
 simpa using this
end
def tt (P : Program) (N : Frm) (w0 : World) (Wr : List Nat) (ops : Array Oper) (H0 : Heap) (t : Tr) (fr : Fr) (H : Heap) (Z : Fr → Heap → Prop) : Prop :=
 ∀ (Q : Exit → Act → World → Prop), (∀ fr' H' a w, Z fr' H' → FrOk N fr' a → Sat w0 Wr H' w → Q .normal a w) → ∀ a w, FrOk N fr a → Sat w0 Wr H w → Wt P ops (Sat w0 Wr H0) Q t a w
section
variable {P : Program} {N : Frm} {w0 : World} {Wr : List Nat} {ops : Array Oper} {fr : Fr} {H H0 : Heap} {Z : Fr → Heap → Prop}
theorem tt_nil (h : Z fr H) : tt P N w0 Wr ops H0 .nil fr H Z := fun _ hQ a w ha hw => ⟨rfl, hQ _ _ a w h ha hw⟩
theorem tt_fork {t u : Tr} (h1 : tt P N w0 Wr ops H0 t fr H Z) (h2 : tt P N w0 Wr ops H0 u fr H Z) : tt P N w0 Wr ops H0 (.fork t u) fr H Z := fun Q hQ a w ha hw => ⟨h1 Q hQ a w ha hw, h2 Q hQ a w ha hw⟩
theorem tt_p {i : Nat} {o : Oper} {t : Tr} (ho : ops[i]? = some o) (h : sv P N w0 Wr ops [o] fr H0 fun fr' _ => tt P N w0 Wr ops H0 t fr' H Z) : tt P N w0 Wr ops H0 (.step (i, true) t) fr H Z :=
 fun Q hQ a w ha hw => by
  obtain ⟨v, hv, hk⟩ := h (fun a => Wt P ops (Sat w0 Wr H0) Q t a w) (fun fr' a ht hf => ht Q hQ a w hf hw) a ha
  exact ⟨o, v, ho, hv, hk⟩
theorem tt_g {i : Nat} {o : Oper} {t : Tr} (ho : ops[i]? = some o) (h : sx P N w0 Wr ops [o] fr H fun fr' H' => HLe H0 H' ∧ tt P N w0 Wr ops H0 t fr' H' Z) : tt P N w0 Wr ops H0 (.step (i, false) t) fr H Z :=
 fun Q hQ a w ha hw => by
  have h1 := h (QN fun _ a w => Sat w0 Wr H0 w ∧ Wt P ops (Sat w0 Wr H0) Q t a w) (fun fr' H' a w ht hf hS => ⟨rfl, ht.1 _ _ _ hS, ht.2 Q hQ a w hf hS⟩) a w ha hw
  show wpOp P ops (QN Q) i (fun a w' => Sat w0 Wr H0 w' ∧ Wt P ops (Sat w0 Wr H0) Q t a w') a w
  refine wpOp_any (Q := fun _ a w => Sat w0 Wr H0 w ∧ Wt P ops (Sat w0 Wr H0) Q t a w) ho ?_
  unfold wpOp
  simp only [ho]
  unfold wpList at h1
  split
  ·rename_i hw'
   rw [if_pos hw'] at h1
   exact h1.imp (Oper.wp_mono fun a w hh => hh.2) id
  ·rename_i hw'
   rw [if_neg hw'] at h1
   exact h1.2
end
theorem awr_region {P : Program} {N : Frm} {w0 : World} {Wr : List Nat} {fr : Fr} {H : Heap} {Q : Exit → Act → World → Prop} {id : Nat} {l : List Oper} {ι : Type} (F : ι → Fr) (HH : ι → Heap) (I : ι → Prop) (H0 : Heap) (gs : List Nat) (t : Tr) (hm : P.follows .mixedOrders = true) (hB : treeB l gs t = true) (hk : HLe H0 H)
  (h : tt P N w0 Wr l.toArray H0 t fr H fun fr' H' => ∃ j, I j ∧ Kn (F j) fr' ∧ HLe (HH j) H')
  (hy : ∀ j, I j → nx N w0 Wr (F j) (HH j) Q .normal) : awp P N w0 Wr (.region id l.toArray true) fr H Q :=
 fun a w ha hw => wp_region_tree (C := Sat w0 Wr H0) gs t hm hB (hk _ _ _ hw.drew)
  (h Q (fun fr' H' a w ⟨j, hj, hf, hh⟩ ha hs => hy j hj a w (ha.kn hf) (hh _ _ _ hs)) a w.drew ha hw.drew)
theorem awr_seq_region {P : Program} {N : Frm} {w0 : World} {Wr : List Nat} {fr : Fr} {H : Heap} {Q : Exit → Act → World → Prop} {id : Nat} {l : List Oper} {y : Code} {ι : Type} (F : ι → Fr) (HH : ι → Heap) (I : ι → Prop) (H0 : Heap) (gs : List Nat) (t : Tr) (hm : P.follows .mixedOrders = true) (hB : treeB l gs t = true) (hk : HLe H0 H)
  (h : tt P N w0 Wr l.toArray H0 t fr H fun fr' H' => ∃ j, I j ∧ Kn (F j) fr' ∧ HLe (HH j) H')
  (hy : ∀ j, I j → awp P N w0 Wr y (F j) (HH j) Q) : awp P N w0 Wr (.seq (.region id l.toArray true) y) fr H Q :=
 aS (awr_region F HH I H0 gs t hm hB hk h fun j hj => hy j hj)
end Go.Proofs.YtkojkeabelckjaaGreatDoor
