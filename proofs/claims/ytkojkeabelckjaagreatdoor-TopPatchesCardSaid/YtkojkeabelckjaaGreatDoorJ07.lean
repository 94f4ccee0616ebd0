/- Walks and plain laws for this claim (texts Gsx5, Gop1, Gop2, joined). Each theorem states its own conditions. -/
import Derived.Test.YtkojkeabelckjaaGreatDoorJ06
import Derived.Scope
import Derived.Test.YtkojkeabelckjaaGreatDoorJ04
import Derived.ProofKit
import Derived.OpenShut
import Derived.ShutString
import Derived.ChangeOld
import Derived.Lib.SmallJoins
import Derived.Deep.Slices

section
set_option linter.all false
namespace Go.Proofs.YtkojkeabelckjaaGreatDoor
open Go.RowKit
def Wrs (T : Heap) : Prop := ∀ e ∈ T, e.wr = true
theorem Wrs.nil : Wrs [] := fun _ h => by cases h
theorem Wrs.cons {e : Ent} {T : Heap} (he : e.wr = true) (h : Wrs T) : Wrs (e :: T) := fun x hx => by
 rcases List.mem_cons.1 hx with rfl | hx
 ·exact he
 ·exact h x hx
theorem Wrs.append {T U : Heap} (h : Wrs T) (k : Wrs U) : Wrs (T ++ U) := fun e he => (List.mem_append.1 he).elim (h e) (k e)
theorem Wrs.filter {T : Heap} (h : Wrs T) : T.filter Ent.wr = T := List.filter_eq_self.2 h
def isDef : Obj → Prop := fun o => o = .deferred (some [])
def isLoop (r : Loop) : Obj → Prop := fun o => o = .loop r
def YRun (P : Program) (l : Nat) (vs : List Value) (w : World) (R : Ending → World → Prop) : Prop :=
 ∃ f tmps assign body, (Instr.yield l vs.toArray).run P w = .ok (.round l f tmps assign body) w ∧ RoundIn Fence.wide 0 P l f tmps assign body w R
def YOk (P : Program) (l : Nat) (vs : List Value) (H : Heap) (R : Value → Heap → Prop) : Prop :=
 ∀ w, Sat w (wrs H) H w → YRun P l vs w fun e w' => ∃ v H', e = .returned v ∧ R v H' ∧ Sat w (wrs H) H' w'
def Goes (J S : Heap → Prop) (v : Value) (H' : Heap) : Prop := ∃ b, v = .bool b ∧ (b = true → J H') ∧ (b = false → S H')
def Iter (P : Program) (f : FuncId) (caps : List Value) (RO : Heap) (items : List (List Value)) : Prop :=
 ∀ (l : Nat) (J : Nat → Heap → Prop) (Jr : Heap) (S : Heap → Prop), (∀ k T, J k T → Wrs T) → (∀ T, S T → Wrs T) → Ro Jr →
  (∀ k vs T, items[k]? = some vs → J k T → YOk P l vs (T ++ Jr) (Goes (J (k + 1)) S)) →
  ∀ T, J 0 T → Fn P f (.func (.yield l) #[] #[] :: caps) (RO ++ (T ++ Jr)) fun _ H' => J items.length H' ∨ S H'
section
variable {P : Program} {N : Frm} {w0 : World} {Wr : List Nat} {ops : Array Oper} {rest : List Oper} {fr : Fr} {H : Heap} {Z : Fr → Heap → Prop}
variable {d ty : Nat} {pos : String} {after : Array Edge}
def sy (P : Program) (N : Frm) (w0 : World) (Wr : List Nat) (ops : Array Oper) (l : List Oper) (fr : Fr) (H : Heap) (Z : Fr → Heap → Prop) : Prop :=
 ∀ (Q : Exit → Act → World → Prop), (∀ fr' H' a w, Z fr' H' → FrOk N fr' a → Sat w0 Wr H' w → Q .normal a w) → ∀ a w, FrOk N fr a → Sat w0 Wr H w → wpListIn N.fence 0 P ops Q l a w
theorem sy_nil (h : Z fr H) : sy P N w0 Wr ops [] fr H Z := fun _ hQ a w ha hw => hQ _ _ a w h ha hw
theorem op_in_any {o : Oper} {a : Act} {w : World} {K : Act → World → Prop} {Q Q' : Exit → Act → World → Prop} (hp : opPlain o = true) (h : o.wp P a w K (QN Q')) : o.wpIn N.fence 0 P a w K Q := by
 have h := op_in (N := N) (fun _ => hp) h
 unfold Oper.wpIn at h ⊢
 refine ⟨h.1, ?_⟩
 have h := h.2
 generalize (o.semAt N.fence.round a.eval).run P w = r at h ⊢
 cases r with
 | ok n w' =>
  cases n <;> simp only [Oper.uponIn] at h ⊢ <;> first
   | exact h
   | exact ⟨h.1, CallsIn.mono h.2 (fun e w'' he => by cases e <;> first | exact he | exact (QN_out he).elim | (cases he.1))⟩
   | exact ⟨h.1, RoundIn.mono h.2 (fun e w'' he => by cases e <;> first | exact he | exact (QN_out he).elim | (cases he.1))⟩
 | halt x w' => cases x <;> simp only [Oper.uponIn] at h ⊢ <;> first | exact h | exact h.elim | (cases h.1)
theorem sy_x {o : Oper} (hp : opPlain o = true) (h : sx P N w0 Wr ops [o] fr H fun fr' H' => sy P N w0 Wr ops rest fr' H' Z) : sy P N w0 Wr ops (o :: rest) fr H Z :=
 fun Q hQ a w ha hw => by
  have h1 := h (QN fun _ a w => wpListIn N.fence 0 P ops Q rest a w) (fun fr' H' a w ht hf hS => ⟨rfl, ht Q hQ a w hf hS⟩) a w ha hw
  unfold wpList at h1
  unfold wpListIn
  split
  ·rename_i hw'
   rw [if_pos hw'] at h1
   exact Oper.wpIn_mono (fun a w hh => hh.2) (op_in_any hp (h1.resolve_right fun h => QN_out h.2))
  ·rename_i hw'
   rw [if_neg hw'] at h1
   exact ⟨fun _ _ => trivial, h1.2⟩
theorem run_yieldOp {l : Nat} {vs : List Value} {xs : List Operand} {x : Operand} {ts : Array TypeId} {ρ : Operand → Value} (hx : xs.map ρ = vs) (hf : ρ x = .func (.yield l) #[] #[]) {dst : Option Nat} {w : World} :
  (execOp ρ ⟨dst, .call { callee := .value x, args := xs.toArray, argTypes := ts }, ty, pos, after, none⟩).run P w = (Instr.yield l vs.toArray).run P w := by
 subst hx
 simp [execOp, resolve, hf, Deferred.ofValue, invoke]
theorem sy_yieldW {l : Nat} {x : Operand} {xs : List Operand} {vs : List Value} {ts : Array TypeId} {R : Value → Heap → Prop} (hf : ev fr x = some (.func (.yield l) #[] #[])) (hx : evs fr xs = some vs) (hN : Nat.ble (d + 1) N.n = true)
  (hc : ∀ w, Sat w0 Wr H w → YRun P l vs w fun e w' => ∃ v H', e = .returned v ∧ R v H' ∧ Sat w0 Wr H' w')
  (h : ∀ v H', R v H' → sy P N w0 Wr ops rest ((d, v) :: fr) H' Z) :
  sy P N w0 Wr ops (⟨some d, .call { callee := .value x, args := xs.toArray, argTypes := ts }, ty, pos, after, none⟩ :: rest) fr H Z :=
 fun Q hQ a w ha hw => wpListIn_plain rfl fun K hK => by
  obtain ⟨f, tmps, assign, body, hrun, hR⟩ := hc w hw
  unfold Oper.wpIn
  refine ⟨fun _ _ => trivial, ?_⟩
  rw [Oper.semAt_eq _ _ _ (fun c hc => by cases hc), run_yieldOp (ha.evals hx) (ha.eval hf), hrun]
  refine ⟨(fun e => by cases e), RoundIn.mono (show RoundIn N.fence (0 - 1) P l f tmps assign body w _ from hR) fun e w' he => ?_⟩
  obtain ⟨v, H', rfl, hv, hS⟩ := he
  exact hK _ _ (h v H' hv Q hQ _ _ (ha.put hN v) hS)
theorem sy_yield {l : Nat} {x : Operand} {xs : List Operand} {vs : List Value} {ts : Array TypeId} {R : Value → Heap → Prop} (A T K U : Heap) (hc : YOk P l vs (T ++ U) R) (hf : ev fr x = some (.func (.yield l) #[] #[])) (hx : evs fr xs = some vs) (hH : H = A ++ (T ++ K)) (hU : U.Sublist K) (hroU : Ro U) (hN : Nat.ble (d + 1) N.n = true)
  (h : ∀ v T', R v T' → sy P N w0 Wr ops rest ((d, v) :: fr) (A ++ (T'.filter Ent.wr ++ K)) Z) :
  sy P N w0 Wr ops (⟨some d, .call { callee := .value x, args := xs.toArray, argTypes := ts }, ty, pos, after, none⟩ :: rest) fr H Z :=
 sy_yieldW (R := fun v H2 => ∃ T', R v T' ∧ H2 = A ++ (T'.filter Ent.wr ++ K)) hf hx hN (fun w hw => by
  subst hH
  have hw' := HLe.comm3 A T K _ _ _ hw
  have hpre : Sat w (wrs (T ++ U)) (T ++ U) w := by
   have hsub := hw'.sub (List.Sublist.append_left (hU.trans (List.sublist_append_right A K)) T)
   exact ⟨Only.refl _ _, fun e he => ⟨(hsub.ents e he).1, fun h => .inl (mem_wrs.2 ⟨e, he, h, rfl⟩)⟩, hsub.sep⟩
  obtain ⟨f, tmps, assign, body, hrun, hR⟩ := hc w hpre
  exact ⟨f, tmps, assign, body, hrun, hR.mono fun e w' he => by
   obtain ⟨v, H', h1, h2, h3⟩ := he
   exact ⟨v, _, h1, ⟨H', h2, rfl⟩, HLe.comm3 _ A K _ _ _ (hw'.callA hroU h3)⟩⟩) (fun v H2 hR => by obtain ⟨H', hR, rfl⟩ := hR; exact h v H' hR)
end
section
variable {P : Program} {N : Frm} {w0 : World} {Wr : List Nat} {fr : Fr} {H : Heap} {Q : Exit → Act → World → Prop}
theorem awy_region {id : Nat} {l : List Oper} (h : ∀ Z : Fr → Heap → Prop, (∀ fr H, nx N w0 Wr fr H Q .normal → Z fr H) → sy P N w0 Wr l.toArray l fr H Z) : awp P N w0 Wr (.region id l.toArray false) fr H Q :=
 fun a w ha hw _ => wpIn_region_lit (h (fun fr H => nx N w0 Wr fr H Q .normal) (fun _ _ h => h) Q (fun fr' H' a w hz hf hs => hz a w hf hs) a w ha hw)
theorem awy_seq_region {id : Nat} {l : List Oper} {y : Code} (h : ∀ Z : Fr → Heap → Prop, (∀ fr H, awp P N w0 Wr y fr H Q → Z fr H) → sy P N w0 Wr l.toArray l fr H Z) : awp P N w0 Wr (.seq (.region id l.toArray false) y) fr H Q :=
 aS (awy_region fun Z hZ => h Z fun fr H hy => hZ fr H hy)
end
end Go.Proofs.YtkojkeabelckjaaGreatDoor
namespace Go.Proofs.YtkojkeabelckjaaGreatDoor
open Go.RowKit
section
variable {P : Program} {w0 w w' : World} {Wr : List Nat} {H : Heap}
theorem Only.putObj (w : World) (l : Nat) (o : Obj) : Only [l] w (w.putObj l o) :=
 ⟨rfl, rfl, rfl, by simp, fun i _ hi => World.putObj_heap_other (by simpa using hi)⟩
theorem Sat.turnOut {l : Nat} {o : Obj} (h : Sat w0 Wr H w) (hl : l ∈ Wr ∨ w0.heap.size ≤ l) (hn : ∀ e ∈ H, e.g ≠ l) : Sat w0 Wr H (w.putObj l o) :=
 ⟨h.only.trans (Only.putObj w l o) (by simpa using hl), fun e he => ⟨Ent.keep (h.ents e he).1 (by simp) (World.putObj_heap_other (hn e he)), (h.ents e he).2⟩, h.sep⟩
theorem Sat.base (h : Sat w0 Wr H w) : Sat w (wrs H) H w := ⟨Only.refl _ _, fun e he => ⟨(h.ents e he).1, fun hw => .inl (mem_wrs.2 ⟨e, he, hw, rfl⟩)⟩, h.sep⟩
theorem Sat.head {e : Ent} (h : Sat w0 Wr (e :: H) w) (he : e.wr = true) : ∀ x ∈ H, x.g ≠ e.g := fun x hx => by
 have := (List.pairwise_cons.1 h.sep).1 x hx (by simp [he])
 exact fun hg => this hg.symm
theorem Sat.tail {e : Ent} (h : Sat w0 Wr (e :: H) w) : Sat w0 Wr H w := h.sub (List.sublist_cons_self _ _)
theorem Sat.consW {e : Ent} (h : Sat w0 Wr H w) (he : e.holds w) (hw : e.g ∈ Wr ∨ w0.heap.size ≤ e.g) (hn : ∀ x ∈ H, x.g ≠ e.g) : Sat w0 Wr (e :: H) w :=
 ⟨h.only, fun x hx => by
  rcases List.mem_cons.1 hx with rfl | hx
  ·exact ⟨he, fun _ => hw⟩
  ·exact h.ents x hx, List.Pairwise.cons (fun x hx _ hg => hn x hx hg.symm) h.sep⟩
end
def RPost (w0 : World) (Wr : List Nat) (J : Heap → Prop) (S : Code → Heap → Prop) : Exit → Act → World → Prop
 | .normal, _, w => ∃ T, J T ∧ Sat w0 Wr T w
 | .ret, _, w => ∃ T, S .ret T ∧ Sat w0 Wr T w
 | .exit id, _, w => ∃ T, S (.exit id) T ∧ Sat w0 Wr T w
 | _, _, _ => False
def APost (N : Frm) (w0 : World) (Wr : List Nat) (H : Heap) (Z : Fr → Heap → Prop) : Exit → Act → World → Prop :=
 fun e a w => e = .normal ∧ ∃ fr1 X, Wrs X ∧ Z fr1 X ∧ FrOk N fr1 a ∧ Sat w0 Wr (X ++ H) w
def zipFr : List Nat → List Value → Fr → Fr
 | p :: ps, v :: vs, fr => zipFr ps vs ((p, v) :: fr)
 | _, _, fr => fr
theorem zipFr_list {N : Frm} {l : Option Nat} : ∀ (ps : List Nat) (vs : List Value) (fr : Fr) (tmps : Array Value), ps.all (fun p => Nat.ble (p + 1) N.n) = true → FrOk N fr { tmps := tmps, defers := N.ds.map markOf } →
  FrOk ⟨N.n, l, []⟩ (zipFr ps vs fr) { tmps := (ps.zip vs).foldl (fun tmps (t, a) => tmps.setIfInBounds t a) tmps, defers := [] }
 | [], vs, fr, tmps, _, h => by
  simp only [zipFr]
  exact ⟨by simpa using h.size, rfl, fun t v hv => by simpa using h.at_ t v hv⟩
 | p :: ps, [], fr, tmps, _, h => by
  simp only [zipFr]
  exact ⟨by simpa using h.size, rfl, fun t v hv => by simpa using h.at_ t v hv⟩
 | p :: ps, v :: vs, fr, tmps, hp, h => by
  simp only [List.all_cons, Bool.and_eq_true] at hp
  have := zipFr_list (l := l) ps vs ((p, v) :: fr) (tmps.setIfInBounds p v) hp.2 (h.put hp.1 v)
  simpa [zipFr] using this
theorem zipFr_ok {N : Frm} {l : Option Nat} (ps : List Nat) (vs : List Value) (fr : Fr) (tmps : Array Value) (hp : ps.all (fun p => Nat.ble (p + 1) N.n) = true) (h : FrOk N fr { tmps := tmps, defers := N.ds.map markOf }) :
  FrOk ⟨N.n, l, []⟩ (zipFr ps vs fr) { tmps := (ps.toArray.zip vs.toArray).foldl (fun tmps (t, a) => tmps.setIfInBounds t a) tmps, defers := [] } := by
 rw [List.zip_toArray, List.foldl_toArray]
 exact zipFr_list ps vs fr tmps hp h
section
variable {P : Program} {n : Nat} {ds : List Mk} {w0 : World} {Wr : List Nat} {fr : Fr} {H : Heap} {Q : Exit → Act → World → Prop}
theorem nx_assign {N : Frm} {Z : Fr → Heap → Prop} {K : Heap} (X : Heap) (hX : Wrs X) (hH : HLe (X ++ K) H) (h : Z fr X) : nx N w0 Wr fr H (APost N w0 Wr K Z) .normal :=
 fun _ _ ha hw => ⟨rfl, fr, X, hX, h, ha, hH _ _ _ hw⟩
theorem nx_next {N : Frm} {J : Heap → Prop} {S : Code → Heap → Prop} (T : Heap) (hJ : J T) (hH : HLe T H) : nx N w0 Wr fr H (RPost w0 Wr J S) .normal := fun _ _ _ hw => ⟨T, hJ, hH _ _ _ hw⟩
theorem round_ok {l D : Nat} {rec : LoopState → Option Code → Loop} {ps : List Nat} {assign body : Code} {tmps : Array Value} {vs : List Value} {J Jr : Heap} {J' : Heap → Prop} {S : Code → Heap → Prop}
  (hrec : ∃ fn, rec = fun st pe => { state := st, pending := pe, fn, tmps, params := ps.toArray, assign, body, defers := D })
  (hvs : vs.length = ps.length) (hf : FrOk ⟨n, none, ds⟩ fr { tmps := tmps, defers := ds.map markOf }) (hN : ps.all (fun p => Nat.ble (p + 1) n) = true) (hJ' : ∀ T, J' T → Wrs T) (hS : ∀ c T, S c T → Wrs T) (hJr : Ro Jr)
  (hround : ∀ w0, awp P ⟨n, some l, []⟩ w0 (wrs (J ++ Jr)) assign (zipFr ps vs fr) (J ++ Jr) (APost ⟨n, some l, []⟩ w0 (wrs (J ++ Jr)) (J ++ Jr) fun fr1 X => ∀ w2, awp P ⟨n, some l, []⟩ w2 (wrs (X ++ (J ++ Jr))) body fr1 (X ++ (J ++ Jr)) (RPost w2 (wrs (X ++ (J ++ Jr))) J' S)))
  (hpl : plainC assign = true ∧ plainC body = true) :
  YOk P l vs ((.ob l (isLoop (rec .ready none)) :: .ob D isDef :: J) ++ Jr) (Goes (fun T => ∃ T', J' T' ∧ T = .ob l (isLoop (rec .ready none)) :: .ob D isDef :: T') fun T => ∃ c T', S c T' ∧ T = .ob l (isLoop (rec .done (some c))) :: .ob D isDef :: T') := by
 obtain ⟨fn, hrec⟩ := hrec
 intro w hw
 have hl : w.heap[l]? = some (.loop (rec .ready none)) := by
  obtain ⟨o, h1, h2⟩ := (hw.ents _ List.mem_cons_self).1
  rw [h1, h2]
 have hD : w.heap[D]? = some (.deferred (some [])) := by
  obtain ⟨o, h1, h2⟩ := (hw.ents _ (List.mem_cons_of_mem _ List.mem_cons_self)).1
  rw [h1, h2]
 have hlD : l ≠ D := fun e => by subst e; rw [hl] at hD; cases hD
 have hlt : l < w.heap.size := (Array.getElem?_eq_some_iff.1 hl).1
 have hDt : D < w.heap.size := (Array.getElem?_eq_some_iff.1 hD).1
 have hnl : ∀ x ∈ J ++ Jr, x.g ≠ l := fun x hx => hw.head rfl x (List.mem_cons_of_mem _ hx)
 have hnD : ∀ x ∈ J ++ Jr, x.g ≠ D := fun x hx => hw.tail.head rfl x hx
 have hwJ : Sat w (wrs (J ++ Jr)) (J ++ Jr) w := hw.tail.tail.base
 have hy := run_yield (P := P) (w := w) (args := vs.toArray) hl (by rw [hrec]; simp [hvs])
 rw [hrec] at hy
 refine ⟨fn, _, assign, body, hy, roundIn_of_wpIn trivial ?_⟩
 have ha := hround w _ w (zipFr_ok (l := some l) ps vs fr tmps hN hf) hwJ (fun _ => hpl.1)
 refine Go.wpIn_mono ha ?_
 rintro e a1 w1 ⟨rfl, fr1, X, hX, hb, hfr1, hw1⟩
 have hs1 : w.heap.size ≤ w1.heap.size := hw1.only.size
 have hl1 : w1.heap[l]? = some (.loop (rec .ready none)) := (hw1.only.block l hlt (fun hm => by obtain ⟨x, hx, _, hg⟩ := mem_wrs.1 hm; exact hnl x hx hg)).trans hl
 have hD1 : w1.heap[D]? = some (.deferred (some [])) := (hw1.only.block D hDt (fun hm => by obtain ⟨x, hx, _, hg⟩ := mem_wrs.1 hm; exact hnD x hx hg)).trans hD
 have hXg : ∀ k, k < w.heap.size → (∀ x ∈ J ++ Jr, x.g ≠ k) → ∀ x ∈ X ++ (J ++ Jr), x.g ≠ k := fun k hk hn x hx => by
  rcases List.mem_append.1 hx with hx | hx
  ·rcases (hw1.ents x (List.mem_append_left _ hx)).2 (hX x hx) with h1 | h1
   ·obtain ⟨y, hy, _, hg⟩ := mem_wrs.1 h1
    exact hg ▸ hn y hy
   ·omega
  ·exact hn x hx
 have hXl := hXg l hlt hnl
 have hXD := hXg D hDt hnD
 obtain ⟨w2, hw2e⟩ : ∃ w2, w1.putObj l (.loop { rec .ready none with state := .busy }) = w2 := ⟨_, rfl⟩
 have hbr := run_beginRound (P := P) hl1 (by rw [hrec])
 rw [hw2e] at hbr
 refine ⟨w2, hbr, ?_⟩
 have hbusy : ({ rec .ready none with state := .busy } : Loop) = rec .busy none := by rw [hrec]
 have hl2 : w2.heap[l]? = some (.loop (rec .busy none)) := by rw [← hw2e, hbusy]; exact World.putObj_heap_same (by omega)
 have hD2 : w2.heap[D]? = some (.deferred (some [])) := by rw [← hw2e]; exact (World.putObj_heap_other (Ne.symm hlD)).trans hD1
 have hs2 : w2.heap.size = w1.heap.size := by rw [← hw2e]; simp
 have hw2 : Sat w2 (wrs (X ++ (J ++ Jr))) (X ++ (J ++ Jr)) w2 := by
  have h1 : Sat w1 (wrs (X ++ (J ++ Jr))) (X ++ (J ++ Jr)) w1 := hw1.base
  have h2 : Sat w1 (l :: wrs (X ++ (J ++ Jr))) (X ++ (J ++ Jr)) w1 := ⟨⟨rfl, rfl, rfl, Nat.le_refl _, fun _ _ _ => rfl⟩, fun e he => ⟨(h1.ents e he).1, fun hh => ((h1.ents e he).2 hh).imp (List.mem_cons_of_mem _) id⟩, h1.sep⟩
  rw [← hw2e]
  exact (h2.turnOut (.inl List.mem_cons_self) hXl).base
 have ho2 : Only (l :: wrs (J ++ Jr)) w w2 := by
  rw [← hw2e]
  refine (Only.trans (Wr := l :: wrs (J ++ Jr)) (Wr' := [l]) (w2 := w1.putObj l _) ⟨hw1.only.os, hw1.only.tape, hw1.only.output, hw1.only.size, fun i hi hn => hw1.only.block i hi (fun hm => hn (List.mem_cons_of_mem _ hm))⟩ (Only.putObj w1 l _) ?_)
  simp
 have hb2 := hb w2 a1 w2 hfr1 hw2 (fun _ => hpl.2)
 refine Go.wpIn_mono hb2 ?_
 have fin : ∀ (jump : Option Code) (T : Heap) (w3 : World), Wrs T → Sat w2 (wrs (X ++ (J ++ Jr))) T w3 → ∃ w4, (Instr.endRound l jump).run P w3 = .ok (.bool jump.isNone) w4 ∧
   Sat w (wrs ((.ob l (isLoop (rec .ready none)) :: .ob D isDef :: J) ++ Jr)) (.ob l (isLoop (rec (if jump.isNone then .ready else .done) jump)) :: .ob D isDef :: T) w4 := fun jump T w3 hT h3 => by
  have hl3 : w3.heap[l]? = some (.loop (rec .busy none)) := (h3.only.block l (by omega) (fun hm => by obtain ⟨x, hx, _, hg⟩ := mem_wrs.1 hm; exact hXl x hx hg)).trans hl2
  have hD3 : w3.heap[D]? = some (.deferred (some [])) := (h3.only.block D (by omega) (fun hm => by obtain ⟨x, hx, _, hg⟩ := mem_wrs.1 hm; exact hXD x hx hg)).trans hD2
  have hlt3 : l < w3.heap.size := (Array.getElem?_eq_some_iff.1 hl3).1
  have hend := run_endRound (P := P) jump hl3
  have hre : ({ rec .busy none with state := if jump.isNone then .ready else .done, pending := jump } : Loop) = rec (if jump.isNone then .ready else .done) jump := by rw [hrec]
  rw [hre] at hend
  refine ⟨_, hend, ?_⟩
  have hTg : ∀ k, k < w.heap.size → (∀ x ∈ X ++ (J ++ Jr), x.g ≠ k) → ∀ x ∈ T, x.g ≠ k := fun k hk hn x hx => by
   rcases (h3.ents x hx).2 (hT x hx) with h1 | h1
   ·obtain ⟨y, hy, _, hg⟩ := mem_wrs.1 h1
    exact hg ▸ hn y hy
   ·omega
  have hin : ∀ i ∈ wrs (X ++ (J ++ Jr)), i ∈ wrs ((.ob l (isLoop (rec .ready none)) :: .ob D isDef :: J) ++ Jr) ∨ w.heap.size ≤ i := fun i hi => by
   obtain ⟨x, hx, hxw, rfl⟩ := mem_wrs.1 hi
   rcases List.mem_append.1 hx with hx | hx
   ·rcases (hw1.ents x (List.mem_append_left _ hx)).2 hxw with h1 | h1
    ·obtain ⟨y, hy, hyw, hg⟩ := mem_wrs.1 h1
     exact .inl (mem_wrs.2 ⟨y, List.mem_cons_of_mem _ (List.mem_cons_of_mem _ hy), hyw, hg⟩)
    ·exact .inr h1
   ·exact .inl (mem_wrs.2 ⟨x, List.mem_cons_of_mem _ (List.mem_cons_of_mem _ hx), hxw, rfl⟩)
  have hlW : l ∈ wrs ((.ob l (isLoop (rec .ready none)) :: .ob D isDef :: J) ++ Jr) := mem_wrs.2 ⟨_, List.mem_cons_self, rfl, rfl⟩
  have hDW : D ∈ wrs ((.ob l (isLoop (rec .ready none)) :: .ob D isDef :: J) ++ Jr) := mem_wrs.2 ⟨_, List.mem_cons_of_mem _ List.mem_cons_self, rfl, rfl⟩
  have ho3 : Only (wrs ((.ob l (isLoop (rec .ready none)) :: .ob D isDef :: J) ++ Jr)) w w3 := by
   refine Only.trans (w := w2) ⟨ho2.os, ho2.tape, ho2.output, ho2.size, fun i hi hn => ho2.block i hi (fun hm => hn ?_)⟩ h3.only hin
   rcases List.mem_cons.1 hm with rfl | hm
   ·exact hlW
   ·obtain ⟨x, hx, hxw, rfl⟩ := mem_wrs.1 hm
    exact mem_wrs.2 ⟨x, List.mem_cons_of_mem _ (List.mem_cons_of_mem _ hx), hxw, rfl⟩
  have hT3 : Sat w (wrs ((.ob l (isLoop (rec .ready none)) :: .ob D isDef :: J) ++ Jr)) T w3 := ⟨ho3, fun e he => ⟨(h3.ents e he).1, fun hh => ((h3.ents e he).2 hh).elim (hin _) (fun h => .inr (by omega))⟩, h3.sep⟩
  have hT4 := hT3.turnOut (o := .loop (rec (if jump.isNone then .ready else .done) jump)) (.inl hlW) (hTg l hlt hXl)
  refine Sat.consW (Sat.consW hT4 ⟨_, (World.putObj_heap_other (Ne.symm hlD)).trans hD3, rfl⟩ (.inl hDW) (hTg D hDt hXD)) ⟨_, World.putObj_heap_same hlt3, rfl⟩ (.inl hlW) (fun x hx => ?_)
  rcases List.mem_cons.1 hx with rfl | hx
  ·exact Ne.symm hlD
  ·exact hTg l hlt hXl x hx
 rintro e a3 w3 hp
 cases e with
 | normal =>
  obtain ⟨T, hT, hp⟩ := hp
  obtain ⟨w4, h1, h2⟩ := fin none T w3 (hJ' T hT) hp
  exact ⟨_, w4, h1, _, _, rfl, ⟨true, rfl, fun _ => ⟨T, hT, rfl⟩, fun e => by cases e⟩, h2⟩
 | ret =>
  obtain ⟨T, hT, hp⟩ := hp
  obtain ⟨w4, h1, h2⟩ := fin (some .ret) T w3 (hS _ _ hT) hp
  exact ⟨_, w4, h1, _, _, rfl, ⟨false, rfl, (fun e => by cases e), fun _ => ⟨_, T, hT, rfl⟩⟩, h2⟩
 | exit id =>
  obtain ⟨T, hT, hp⟩ := hp
  obtain ⟨w4, h1, h2⟩ := fin (some (.exit id)) T w3 (hS _ _ hT) hp
  exact ⟨_, w4, h1, _, _, rfl, ⟨false, rfl, (fun e => by cases e), fun _ => ⟨_, T, hT, rfl⟩⟩, h2⟩
 | goto t => exact hp.elim
 | panic ch => exact hp.elim
 | outgrown => exact hp.elim
theorem awp_range {g : Operand} {ps : List Nat} {assign body : Code} {f : FuncId} {caps : List Value} {RO : Heap} {items : List (List Value)} (J : Nat → Heap → Prop) (Jr : Heap) (S : Code → Heap → Prop) (T0 : Heap) (hit : Iter P f caps RO items)
  (hg : ev fr g = some (.func (.func f) #[] caps.toArray)) (hJ : ∀ k T, J k T → Wrs T) (hS : ∀ c T, S c T → Wrs T) (hJr : Ro Jr) (hRO : Ro RO)
  (hps : ∀ (k : Nat) (vs : List Value), items[k]? = some vs → vs.length = ps.length) (hN : ps.all (fun p => Nat.ble (p + 1) n) = true) (h0 : J 0 T0) (hH : HLe (T0 ++ (RO ++ Jr)) H) (hpl : (plainC assign && plainC body) = true)
  (hround : ∀ k vs T, items[k]? = some vs → J k T → ∀ l w0, awp P ⟨n, some l, []⟩ w0 (wrs (T ++ Jr)) assign (zipFr ps vs fr) (T ++ Jr) (APost ⟨n, some l, []⟩ w0 (wrs (T ++ Jr)) (T ++ Jr) fun fr1 X => ∀ w2, awp P ⟨n, some l, []⟩ w2 (wrs (X ++ (T ++ Jr))) body fr1 (X ++ (T ++ Jr)) (RPost w2 (wrs (X ++ (T ++ Jr))) (J (k + 1)) S)))
  (hdone : ∀ (D : Nat) T, J items.length T → nx ⟨n, none, D :: ds⟩ w0 Wr fr (.ob D isDef :: (T ++ (RO ++ Jr))) Q .normal)
  (hstop : ∀ (D : Nat) c T, S c T → awp P ⟨n, none, D :: ds⟩ w0 Wr c fr (.ob D isDef :: (T ++ (RO ++ Jr))) Q) :
  awp P ⟨n, none, ds⟩ w0 Wr (.rangeFunc g ps.toArray assign body) fr H Q := fun a w ha hw _ => by
 simp only [Bool.and_eq_true] at hpl
 have hw0 := hH _ _ _ hw
 refine wpIn_rangeFunc ?_
 intro fn _
 obtain ⟨rec, hrec⟩ : ∃ rec : LoopState → Option Code → Loop, rec = fun st pe => { state := st, pending := pe, fn, tmps := a.tmps, params := ps.toArray, assign, body, defers := w.heap.size } := ⟨_, rfl⟩
 obtain ⟨w1, hw1e⟩ : ∃ w1, (w.alloc (.deferred (some []))).alloc (.loop (rec .ready none)) = w1 := ⟨_, rfl⟩
 obtain ⟨L, hLe⟩ : ∃ L, w.heap.size + 1 = L := ⟨_, rfl⟩
 obtain ⟨D, hDe⟩ : ∃ D, w.heap.size = D := ⟨_, rfl⟩
 have hw1 : Sat w0 Wr ((.ob L (isLoop (rec .ready none)) :: .ob D isDef :: T0) ++ (RO ++ Jr)) w1 := by
  have h1 := (hw0.allocOb (.deferred (some [])) isDef rfl).allocOb (.loop (rec .ready none)) (isLoop (rec .ready none)) rfl
  rw [World.size_alloc, hw1e, hLe, hDe] at h1
  exact h1
 rw [hDe] at hrec
 have hFn : Fn P f (.func (.yield L) #[] #[] :: caps) _ _ := hit L (fun k T => ∃ T', J k T' ∧ T = .ob L (isLoop (rec .ready none)) :: .ob D isDef :: T') Jr
  (fun T => ∃ c T', S c T' ∧ T = .ob L (isLoop (rec .done (some c))) :: .ob D isDef :: T')
  (fun k T ⟨T', h1, h2⟩ => h2 ▸ .cons rfl (.cons rfl (hJ k T' h1))) (fun T ⟨c, T', h1, h2⟩ => h2 ▸ .cons rfl (.cons rfl (hS c T' h1))) hJr
  (fun k vs T hk ⟨T', h1, h2⟩ => by
   subst h2
   exact round_ok ⟨fn, hrec⟩ (hps k vs hk) ⟨ha.size, rfl, ha.at_⟩ hN (hJ (k + 1)) hS hJr (hround k vs T' hk h1 L) hpl)
  (.ob L (isLoop (rec .ready none)) :: .ob D isDef :: T0) ⟨T0, h0, rfl⟩
 have hroU : Ro (RO ++ Jr) := hRO.append hJr
 have hcall : Calls P f (.func (.yield L) #[] #[] :: caps).toArray w1 fun e w3 => ∃ v T', e = .returned v ∧ ((∃ T, J items.length T ∧ T' = .ob L (isLoop (rec .ready none)) :: .ob D isDef :: T) ∨ (∃ c T, S c T ∧ T' = .ob L (isLoop (rec .done (some c))) :: .ob D isDef :: T)) ∧ Sat w0 Wr (T' ++ (RO ++ Jr)) w3 := by
  have hb : Sat w1 (wrs (RO ++ ((.ob L (isLoop (rec .ready none)) :: .ob D isDef :: T0) ++ Jr))) (RO ++ ((.ob L (isLoop (rec .ready none)) :: .ob D isDef :: T0) ++ Jr)) w1 :=
   (HLe.comm3 _ _ _ _ _ _ hw1).base
  refine (hFn.2 w1 hb).mono fun e w3 he => ?_
  obtain ⟨v, T', rfl, hT, hS3⟩ := he
  have hTW : Wrs T' := by
   rcases hT with ⟨T, h1, rfl⟩ | ⟨c, T, h1, rfl⟩
   ·exact .cons rfl (.cons rfl (hJ _ T h1))
   ·exact .cons rfl (.cons rfl (hS c T h1))
  refine ⟨v, T', rfl, hT, ?_⟩
  have e1 : wrs (RO ++ ((.ob L (isLoop (rec .ready none)) :: .ob D isDef :: T0) ++ Jr)) = wrs ((.ob L (isLoop (rec .ready none)) :: .ob D isDef :: T0) ++ (RO ++ Jr)) := by
   rw [hroU.wrs, ← List.append_assoc, hJr.wrs]
   simp [wrs, List.filter_append, hRO.filter]
  rw [e1] at hS3
  have h4 := Sat.callA (Hc := .ob L (isLoop (rec .ready none)) :: .ob D isDef :: T0) (K := RO ++ Jr) (U := RO ++ Jr) hw1 hroU hS3
  rwa [hTW.filter] at h4
 obtain ⟨fnc, hE1, hE2, hE3⟩ := hFn.1
 refine ⟨L, [markOf D], w1, { target := .fn (.func f) caps.toArray, args := #[.func (.yield L) #[] #[]] }, w1, f, (.func (.yield L) #[] #[] :: caps).toArray, w1, ?_, ?_, fun _ _ => trivial, ?_, (fun e => by cases e), calls_in (hcall.mono fun e w3 he => ?_)⟩
 ·rw [← hw1e, hrec, ← hLe, ← hDe]; exact run_enterLoop_outer _ _ _ _ _
 ·simp only [resolve, ha.eval hg]
  simp [go_sem]
 ·have h2' : ¬ (fnc.name = "runtime.NumGoroutine") := by simpa using hE2
  have h3' : ¬ (fnc.body = none) := by intro e; rw [e] at hE3; cases hE3
  simp [invoke, callFunc, hE1, h2', h3', program, Sem.run_bind, Sem.run_pure, Sem.run]
 ·obtain ⟨v, T', rfl, hT, hS3⟩ := he
  have hact : FrOk ⟨n, none, D :: ds⟩ fr { a with defers := [markOf D] ++ a.defers } := ⟨ha.size, by simp [ha.defers], ha.at_⟩
  rcases hT with ⟨T, hT, rfl⟩ | ⟨c, T, hc, rfl⟩
  ·have hl3 : w3.heap[L]? = some (.loop (rec .ready none)) := by
    obtain ⟨o, h1, h2⟩ := (hS3.ents _ List.mem_cons_self).1
    rw [h1, h2]
   obtain ⟨o, hend⟩ : ∃ o, (Instr.endLoop L).run P w3 = .ok (none) (w3.putObj L o) :=
    ⟨_, (run_endLoop (P := P) hl3 (by rw [hrec]; simp)).trans (by rw [show (rec .ready none).pending = none from by rw [hrec]])⟩
   refine ⟨none, _, hend, hdone D T hT _ _ hact (Sat.turnOut (Sat.tail hS3) ?_ (fun x hx => hS3.head rfl x hx))⟩
   exact (hS3.ents _ List.mem_cons_self).2 rfl
  ·have hl3 : w3.heap[L]? = some (.loop (rec .done (some c))) := by
    obtain ⟨o, h1, h2⟩ := (hS3.ents _ List.mem_cons_self).1
    rw [h1, h2]
   obtain ⟨o, hend⟩ : ∃ o, (Instr.endLoop L).run P w3 = .ok (some c) (w3.putObj L o) :=
    ⟨_, (run_endLoop (P := P) hl3 (by rw [hrec]; simp)).trans (by rw [show (rec .done (some c)).pending = some c from by rw [hrec]])⟩
   refine ⟨some c, _, hend, hstop D c T hc _ _ hact (Sat.turnOut (Sat.tail hS3) ?_ (fun x hx => hS3.head rfl x hx)) (fun e => by cases e)⟩
   exact (hS3.ents _ List.mem_cons_self).2 rfl
def eraseAll : List Nat → Heap → Heap
 | [], H => H
 | i :: is, H => eraseAll is (H.eraseIdx i)
def MarksAt : List Mk → List Nat → Heap → Prop
 | [], [], _ => True
 | .at D :: ds, i :: is, H => H[i]? = some (.ob D isDef) ∧ MarksAt ds is (H.eraseIdx i)
 | _, _, _ => False
theorem eraseIdx_perm {α : Type} : ∀ (l : List α) (i : Nat) (e : α), l[i]? = some e → l.Perm (e :: l.eraseIdx i)
 | x :: r, 0, e, h => by simp at h; subst h; simp
 | x :: r, i + 1, e, h => by
  have := eraseIdx_perm r i e (by simpa using h)
  exact ((this.cons x).trans (List.Perm.swap e x _))
 | [], i, e, h => by simp at h
theorem unmark {fn : Func} {tmps : Array Value} {R : Ending → World → Prop} : ∀ (ds : List Mk) (is : List Nat) (H : Heap) (w : World), MarksAt ds is H → Sat w0 Wr H w → (∀ w', Sat w0 Wr (eraseAll is H) w' → LeavesIn Fence.wide 0 P fn tmps R [] .returning w') →
  LeavesInM Fence.wide 0 P fn tmps R (ds.map markOf) .returning w
 | [], [], H, w, _, hw, h => h w hw
 | .at D :: ds, i :: is, H, w, hm, hw, h => by
  have hp := hw.perm (eraseIdx_perm H i _ hm.1)
  have hD : w.heap[D]? = some (.deferred (some [])) := by
   obtain ⟨o, h1, h2⟩ := (hp.ents _ List.mem_cons_self).1
   rw [h1, h2]
  refine ⟨by simp, .inl ⟨D, _, rfl, run_takeDeferred hD, unmark ds is (H.eraseIdx i) _ hm.2 (Sat.turnOut hp.tail ((hp.ents _ List.mem_cons_self).2 rfl) (fun x hx => hp.head rfl x hx)) h⟩⟩
 | [], _ :: _, _, _, hm, _, _ => hm.elim
 | .at _ :: _, [], _, _, hm, _, _ => hm.elim
 | .fn _ _ :: _, _, _, _, hm, _, _ => hm.elim
abbrev bodyM (P : Program) (fn : Func) (R : Ending → World → Prop) : Exit → Act → World → Prop := bodyPostM Fence.wide 0 P fn R
theorem nx_unmark {fn : Func} {R : Ending → World → Prop} (is : List Nat) (hm : MarksAt ds is H) (h : nx ⟨n, none, []⟩ w0 Wr fr (eraseAll is H) (bodyPost P fn R) .ret) : nx ⟨n, none, ds⟩ w0 Wr fr H (bodyM P fn R) .ret := fun a w ha hw => by
 show LeavesInM Fence.wide 0 P fn a.tmps R a.defers .returning w
 rw [ha.defers]
 refine unmark ds is H w hm hw fun w' hw' => ?_
 obtain ⟨_, v, h1, h2⟩ := h { tmps := a.tmps, defers := [] } w' ⟨ha.size, rfl, ha.at_⟩ hw'
 exact ⟨v, h1, h2⟩
theorem Fn.enterM {f : FuncId} {fn : Func} {c : Code} {args : List Value} {R : Value → Heap → Prop} (hf : P.funcs[f]? = some fn) (hb : fn.body = some c) (hn : (fn.name == "runtime.NumGoroutine") = false) (hN : args.length + (fn.ntmps - args.length) = n)
  (h : ∀ w0, awp P ⟨n, none, []⟩ w0 (wrs H) c (enumFr 0 args) H (bodyM P fn (FnPost w0 (wrs H) R))) : Fn P f args H R := by
 refine ⟨⟨fn, hf, hn, by simp [hb]⟩, fun w hw => callsIn_wide.1 (callsIn_of_wp_marks (n := 0) hf hb trivial (h w _ w ⟨?_, rfl, ?_⟩ hw (fun e => by cases e)))⟩
 ·simp [← hN]
 ·intro t v ht
  obtain ⟨k, rfl, hk⟩ := lk_enum args 0 t v ht
  have hl : k < args.length := (List.getElem?_eq_some_iff.1 hk).1
  simp only [Nat.zero_add]
  rw [Array.getElem?_append_left (by simpa using hl)]
  simpa using hk
end
end Go.Proofs.YtkojkeabelckjaaGreatDoor
namespace Go.Proofs.YtkojkeabelckjaaGreatDoor
open Go.RowKit
section
variable {P : Program} {N : Frm} {w0 : World} {Wr : List Nat} {ops : Array Oper} {rest : List Oper} {fr : Fr} {H : Heap} {Z : Fr → Heap → Prop}
variable {d ty : Nat} {pos : String} {after : Array Edge}
theorem sx_makeFunc {f : FuncId} {xs : List Operand} {vs : List Value} (hx : evs fr xs = some vs) (hN : Nat.ble (d + 1) N.n = true)
  (h : sx P N w0 Wr ops rest ((d, .func (.func f) #[] vs.toArray) :: fr) H Z) : sx P N w0 Wr ops (⟨some d, .makeFunc (.func f) #[] xs.toArray, ty, pos, after, none⟩ :: rest) fr H Z :=
 jE3 _ hN (fun a w ha hw => by
  have := ha.evals hx
  subst this
  simp [execOp, Instr.makeFunc, Sem.run_pure]) h
theorem run_callF {f : FuncId} {caps : List Value} {vs : List Value} (hE : Enters P f) {x : Operand} {xs : List Operand} {ts : Array TypeId} {ρ : Operand → Value} (hx : xs.map ρ = vs) (hf : ρ x = .func (.func f) #[] caps.toArray) {dst : Option Nat} {w : World} :
  (execOp ρ ⟨dst, .call { callee := .value x, args := xs.toArray, argTypes := ts }, ty, pos, after, none⟩).run P w = .ok (.enter f (vs ++ caps).toArray) w := by
 obtain ⟨fn, h1, h2, h3⟩ := hE
 subst hx
 have h2' : ¬ (fn.name = "runtime.NumGoroutine") := by simpa using h2
 have h3' : ¬ (fn.body = none) := by intro e; rw [e] at h3; cases h3
 simp [execOp, resolve, hf, Deferred.ofValue, invoke, callFunc, h1, h2', h3', program, Sem.run_bind, Sem.run_pure, Sem.run]
theorem sx_callFW {f : FuncId} {caps : List Value} {x : Operand} {xs : List Operand} {vs : List Value} {ts : Array TypeId} {dst : Option Nat} {R : Value → Heap → Prop} (hE : Enters P f) (hf : ev fr x = some (.func (.func f) #[] caps.toArray)) (hx : evs fr xs = some vs) (hN : dstB N dst = true)
  (hc : ∀ w, Sat w0 Wr H w → Calls P f (vs ++ caps).toArray w fun e w' => ∃ v H', e = .returned v ∧ R v H' ∧ Sat w0 Wr H' w')
  (h : ∀ v H', R v H' → sx P N w0 Wr ops rest (match dst with | some d => (d, v) :: fr | none => fr) H' Z) :
  sx P N w0 Wr ops (⟨dst, .call { callee := .value x, args := xs.toArray, argTypes := ts }, ty, pos, after, none⟩ :: rest) fr H Z :=
 sx_op rfl fun a w K Q ha hw hK => by
  unfold Oper.wp
  rw [run_callF hE (ha.evals hx) (ha.eval hf)]
  refine (hc w hw).mono fun e w' he => ?_
  obtain ⟨v, H', rfl, hR, hS⟩ := he
  cases dst with
  | none => exact hK v w' fr H' (h v H' hR) (ha.skip _) hS
  | some d => exact hK v w' _ H' (h v H' hR) (ha.put hN v) hS
end
theorem rowE_wrs (v : Value) (e : TypeId) (size : Nat) (xs : List Value) : Wrs (rowE v e size xs) := fun x hx => by
 unfold rowE at hx
 split at hx
 ·rw [List.mem_singleton.1 hx]; rfl
 ·cases hx
theorem jE4 (v : Value) (e : TypeId) (size : Nat) (xs : List Value) : (rowE v e size xs).filter Ent.wr = rowE v e size xs := (rowE_wrs v e size xs).filter
section
variable {P : Program} {N : Frm} {w0 : World} {Wr : List Nat} {ops : Array Oper} {rest : List Oper} {fr : Fr} {H : Heap} {Z : Fr → Heap → Prop}
variable {d ty : Nat} {pos : String} {after : Array Edge}
theorem jD3 {f : FuncId} {xs : List Operand} {vs : List Value} {ts : Array TypeId} {dst : Option Nat} {R : Value → Heap → Prop} (Hc K : Heap) (hc : Fn P f vs Hc R) (hx : evs fr xs = some vs) (hH : HLe (Hc ++ K) H) (hN : dstB N dst = true)
  (h : ∀ v H', R v H' → sx P N w0 Wr ops rest (match dst with | some d => (d, v) :: fr | none => fr) (H'.filter Ent.wr ++ K) Z) :
  sx P N w0 Wr ops (⟨dst, .call { callee := .value (.func f), args := xs.toArray, argTypes := ts }, ty, pos, after, none⟩ :: rest) fr H Z :=
 sx_callA Hc [] K (by rw [List.append_nil]; exact hc) hx hH (List.nil_sublist _) Ro.nil hN h
theorem sx_max {t t' : TypeId} {x y : Operand} {k : IntKind} {m n : Int} (hx : ev fr x = some (.int k m)) (hy : ev fr y = some (.int k n)) (r : Int) (hr : max m n = r) (hN : Nat.ble (d + 1) N.n = true)
  (h : sx P N w0 Wr ops rest ((d, .int k r) :: fr) H Z) : sx P N w0 Wr ops (⟨some d, .call { callee := .builtin .max, args := #[x, y], argTypes := #[t, t'] }, ty, pos, after, none⟩ :: rest) fr H Z :=
 jE3 _ hN (fun a w ha _ => by
  subst hr
  have e1 := ha.eval hx
  have e2 := ha.eval hy
  simp [execOp, resolve, invoke, builtin, e1, e2, Builtin.max_, Builtin.max2]
  try (rw [Int.max_def]; split <;> split <;> simp_all <;> omega)) h
end
theorem HLe.toRo {g : Nat} {t : TypeId} {cs : List Value} (A B : Heap) : HLe (A ++ .ro g 0 cs :: B) (A ++ .own g t cs :: B) := fun w0 Wr w h => by
 have hm := h.ents (.own g t cs) (by simp)
 have hro : (Ent.ro g 0 cs).holds w := ⟨Ent.lt hm.1, fun j u hu => by rw [Nat.zero_add, Ent.cell hm.1]; exact hu⟩
 refine ⟨h.only, fun e he => ?_, ?_⟩
 ·rcases List.mem_append.1 he with he | he
  ·exact h.ents e (List.mem_append_left _ he)
  ·rcases List.mem_cons.1 he with rfl | he
   ·exact ⟨hro, fun hh => by cases hh⟩
   ·exact h.ents e (List.mem_append_right _ (List.mem_cons_of_mem _ he))
 ·have hs := List.pairwise_append.1 h.sep
  have hs2 := List.pairwise_cons.1 hs.2.1
  refine List.pairwise_append.2 ⟨hs.1, List.Pairwise.cons (fun b hb hh => hs2.1 b hb (by simp [Ent.wr])) hs2.2, fun a ha b hb hh => ?_⟩
  rcases List.mem_cons.1 hb with rfl | hb
  ·exact hs.2.2 a ha (.own g t cs) List.mem_cons_self (by simp [Ent.wr])
  ·exact hs.2.2 a ha b (List.mem_cons_of_mem _ hb) hh
section
variable {P : Program} {N : Frm} {n : Nat} {ds : List Mk} {w0 : World} {Wr : List Nat} {fr : Fr} {H : Heap} {Q : Exit → Act → World → Prop}
theorem nx_normalM {R : Option Nat} {ds ds' : List Mk} {y : Code} (h : awp P ⟨n, R, ds'⟩ w0 Wr y fr H Q) : nx ⟨n, R, ds'⟩ w0 Wr fr H (Exit.then (wq P ⟨n, R, ds⟩ y Q) Q) .normal := h
theorem awp_label {l : Nat} (h : nx N w0 Wr fr H Q .normal) : awp P N w0 Wr (.label l) fr H Q := fun a w ha hw _ => wpIn_label (h a w ha hw)
theorem awp_scope {c : Code} (h : awp P ⟨n, none, ds⟩ w0 Wr c fr H (Exit.noGoto Q)) : awp P ⟨n, none, ds⟩ w0 Wr (.scope c) fr H Q := fun a w ha hw _ => wpIn_wide.2 (wp_scope_straight (wq_none (h a w ha hw)))
theorem nx_scope_normal (h : nx N w0 Wr fr H Q .normal) : nx N w0 Wr fr H (Exit.noGoto Q) .normal := h
theorem jE9 (h : nx N w0 Wr fr H Q .ret) : nx N w0 Wr fr H (Exit.noGoto Q) .ret := h
end
end Go.Proofs.YtkojkeabelckjaaGreatDoor
namespace Go.Proofs.YtkojkeabelckjaaGreatDoor
open Go.RowKit
section
variable {P : Program} {N : Frm} {w0 : World} {Wr : List Nat} {ops : Array Oper} {rest : List Oper} {fr : Fr} {H : Heap} {Z : Fr → Heap → Prop} {d ty : Nat} {pos : String} {after : Array Edge}
theorem sx_callV {f : FuncId} {xs : List Operand} {vs : List Value} {ts : Array TypeId} {v : Value} (U : Heap) (hc : Fn P f vs U fun u _ => u = v) (hx : evs fr xs = some vs) (hU : HLe U H) (hroU : Ro U) (hN : Nat.ble (d + 1) N.n = true)
  (h : sx P N w0 Wr ops rest ((d, v) :: fr) H Z) :
  sx P N w0 Wr ops (⟨some d, .call { callee := .value (.func f), args := xs.toArray, argTypes := ts }, ty, pos, after, none⟩ :: rest) fr H Z :=
 sx_callW (R := fun u H' => u = v ∧ H' = H) hc.1 hx hN (fun w hw => by
  have hu := hU _ _ _ hw
  have hpre : Sat w (wrs U) U w := hu.base
  exact (hc.2 w hpre).mono fun e w' he => by
   obtain ⟨u, H', h1, h2, h3⟩ := he
   have h0 : wrs U = [] := by have := hroU.wrs []; simpa [wrs] using this
   rw [h0] at h3
   exact ⟨u, H, h1, ⟨h2, rfl⟩, hw.bel h3.only.bel⟩) (fun u H' hR => by obtain ⟨rfl, rfl⟩ := hR; exact h)
theorem madeCells_eq (zs : List Value) (n : Nat) : madeCells zs.toArray (n * zs.length) = (List.replicate n zs).flatten.toArray := by
 apply Array.ext'
 simp only [madeCells, Array.toList_map, Array.toList_range]
 induction n with
 | zero => simp
 | succ n ih =>
  have hz : zs.length = 0 ∨ 0 < zs.length := by omega
  rcases hz with hz | hz
  ·have : zs = [] := List.length_eq_zero_iff.1 hz
   subst this
   simp
  rw [List.replicate_succ', List.flatten_append, ← ih, Nat.succ_mul, List.range_add, List.map_append]
  congr 1
  simp only [List.flatten_cons, List.flatten_nil, List.append_nil, List.map_map]
  refine List.ext_getElem (by simp) fun i h1 h2 => ?_
  have hi : i < zs.length := h2
  simp [Nat.mod_eq_of_lt hi, hi, Nat.mul_comm n]
theorem sx_makeSlice {t e size bytes n : Nat} {x y : Operand} {kl kc : IntKind} {zs : List Value} {z : Value} (ht : P.underlying t = some (.slice e)) (hi : (P.info? e).map (fun i => (i.zero, i.size, i.bytes)) = some (some z, size, bytes)) (hz : z.cells.toList = zs) (hs : zs.length = size)
  (hx : ev fr x = some (.int kl (n : Int))) (hy : ev fr y = some (.int kc (n : Int))) (hby : bytes * n ≤ 281474976710656) (hn : n ≤ maxLen) (hN : Nat.ble (d + 1) N.n = true)
  (h : ∀ g, sx P N w0 Wr ops rest ((d, .slice (some ⟨g, 0, none⟩) n n) :: fr) (.own g e (List.replicate n zs).flatten :: H) Z) :
  sx P N w0 Wr ops (⟨some d, .makeSlice t x y, ty, pos, after, none⟩ :: rest) fr H Z := by
 refine sx_make (R := fun v H' => ∃ g, v = .slice (some ⟨g, 0, none⟩) n n ∧ H' = .own g e (List.replicate n zs).flatten :: H) hN (fun a w ha hw => ?_) (fun v H' hR => by obtain ⟨g, rfl, rfl⟩ := hR; exact h g)
 obtain ⟨i, h1, h2⟩ := Option.map_eq_some_iff.1 hi
 obtain ⟨h3, h4, h5⟩ : i.zero = some z ∧ i.size = size ∧ i.bytes = bytes := by simpa using h2
 have hn' : (n : Int) ≤ 9223372036854775807 := by have : n ≤ 9223372036854775807 := hn; omega
 have hb : (i.bytes : Int) * (n : Int) ≤ 281474976710656 := by
  rw [h5]
  have : ((bytes * n : Nat) : Int) ≤ 281474976710656 := by omega
  rwa [Int.natCast_mul] at this
 have hr := run_make (P := P) w t e i z ht h1 h3 kl kc (n : Int) (n : Int) (by omega) (Int.le_refl _) hb hn'
 have hc : z.cells = zs.toArray := by rw [← hz]
 rw [Int.toNat_natCast, h4, ← hs, hc, madeCells_eq] at hr
 exact ⟨_, _, _, by simp only [execOp, ha.eval hx, ha.eval hy, Sem.run_bind, hr]; rfl, ⟨_, rfl, rfl⟩, hw.alloc _ _⟩
end
theorem fm_set {α : Type} {f : α → List Value} {n : Nat} (hf : ∀ x, (f x).length = n) {v : Value} {x y : α} {j : Nat} (hy : f y = (f x).set j v) (hj : j < n) : ∀ {L : List α} {i : Nat}, L[i]? = some x → (L.flatMap f).set (i * n + j) v = (L.set i y).flatMap f
 | [], i, h => by simp at h
 | z :: r, 0, h => by
  obtain rfl : z = x := by simpa using h
  simp only [Nat.zero_mul, qS, List.flatMap_cons, hy]
  rw [List.set_append_left _ _ (by rw [hf]; exact hj)]
 | z :: r, i + 1, h => by
  simp only [List.flatMap_cons, List.set_cons_succ]
  rw [List.set_append_right _ _ (by rw [hf, Nat.succ_mul]; omega), hf, show (i + 1) * n + j - n = i * n + j by rw [Nat.succ_mul]; omega, fm_set hf hy hj (by simpa using h)]
theorem ble_of {a b : Nat} (h : a ≤ b) : Nat.ble a b = true := Nat.ble_eq_true_of_le h
theorem HLe.ownRow {g : Nat} {t : TypeId} {size n : Nat} {cs : List Value} (A B : Heap) (hl : cs.length = n * size) (hn : n ≤ maxLen) : HLe (A ++ .ob g (RowP t size n n cs) :: B) (A ++ .own g t cs :: B) := fun w0 Wr w h => by
 have hm := h.ents (.own g t cs) (by simp)
 have hro : (Ent.ob g (RowP t size n n cs)).holds w := ⟨_, hm.1, cs.toArray, rfl, Nat.le_refl _, hn, by simp [hl], by simp [← hl], hl⟩
 refine ⟨h.only, fun e he => ?_, ?_⟩
 ·rcases List.mem_append.1 he with he | he
  ·exact h.ents e (List.mem_append_left _ he)
  ·rcases List.mem_cons.1 he with rfl | he
   ·exact ⟨hro, fun _ => hm.2 rfl⟩
   ·exact h.ents e (List.mem_append_right _ (List.mem_cons_of_mem _ he))
 ·have hs := h.sep
  simp only [Sep, List.pairwise_append, List.pairwise_cons] at hs ⊢
  obtain ⟨h1, ⟨h2, h3⟩, h4⟩ := hs
  refine ⟨h1, ⟨fun b hb _ => h2 b hb (by simp [Ent.wr]), h3⟩, fun a ha b hb => ?_⟩
  rcases List.mem_cons.1 hb with rfl | hb
  ·intro hw
   exact h4 a ha (.own g t cs) List.mem_cons_self (by simp [Ent.wr])
  ·exact h4 a ha b (List.mem_cons_of_mem _ hb)
theorem HLe.rowRo {g : Nat} {t : TypeId} {size n c : Nat} {cs : List Value} (A B : Heap) : HLe (A ++ .ro g 0 cs :: B) (A ++ .ob g (RowP t size n c cs) :: B) := fun w0 Wr w h => by
 have hm := h.ents (.ob g (RowP t size n c cs)) (by simp)
 obtain ⟨o, ho, cur, rfl, h1, h2, h3, h4, h5⟩ := hm.1
 have hro : (Ent.ro g 0 cs).holds w := ⟨(Array.getElem?_eq_some_iff.1 ho).1, fun j u hu => by
  have hj : j < n * size := by rw [← h5]; exact (List.getElem?_eq_some_iff.1 hu).1
  rw [← h4, List.getElem?_take, if_pos hj] at hu
  rw [Nat.zero_add]
  simp only [World.cell?, ho]
  simpa using hu⟩
 refine ⟨h.only, fun e he => ?_, ?_⟩
 ·rcases List.mem_append.1 he with he | he
  ·exact h.ents e (List.mem_append_left _ he)
  ·rcases List.mem_cons.1 he with rfl | he
   ·exact ⟨hro, fun hh => by cases hh⟩
   ·exact h.ents e (List.mem_append_right _ (List.mem_cons_of_mem _ he))
 ·have hs := h.sep
  simp only [Sep, List.pairwise_append, List.pairwise_cons] at hs ⊢
  obtain ⟨h1, ⟨h2, h3⟩, h4⟩ := hs
  refine ⟨h1, ⟨fun b hb hw => h2 b hb (by simp [Ent.wr]), h3⟩, fun a ha b hb => ?_⟩
  rcases List.mem_cons.1 hb with rfl | hb
  ·intro hw
   exact h4 a ha (.ob g (RowP t size n c cs)) List.mem_cons_self (by simp [Ent.wr])
  ·exact h4 a ha b (List.mem_cons_of_mem _ hb)
theorem RowOk.ro {v : Value} {n : Nat} (h : RowOk v n) : ∃ A c, v = .slice A n c ∧ SlOk A n ∧ ∀ (X Y : Heap) (t : TypeId) (size : Nat) (xs : List Value), HLe (X ++ (roE A xs ++ Y)) (X ++ (rowE (.slice A n c) t size xs ++ Y)) := by
 rcases h with ⟨rfl, rfl⟩ | ⟨g, c, rfl⟩
 ·exact ⟨none, 0, rfl, .inl ⟨rfl, rfl⟩, fun X Y t size xs => HLe.refl _⟩
 ·exact ⟨_, c, rfl, .inr ⟨g, 0, rfl⟩, fun X Y t size xs => HLe.rowRo X Y⟩
end Go.Proofs.YtkojkeabelckjaaGreatDoor
end

section
set_option linter.all false
namespace Go.Proofs.YtkojkeabelckjaaGreatDoor
open Go.RowKit Go.ChangeShapes Go.WideShapes Go.ChangeAt Go.Joins
open Go.ChangeMaps (open_string)
section
variable {H : Type} {enc : TypeId × Value → H} {w : World} {base : Nat} {spare : Nat → Bool} {held : Bool}
theorem wf_u64 {x : Int} (h : (Lit.int .u64 x).wf = true) : 0 ≤ x ∧ x < 18446744073709551616 := by
 simp [Lit.wf, IntKind.min, IntKind.max, IntKind.signed, IntKind.bits] at h
 exact ⟨by omega, by omega⟩
theorem World.lt_of_cell {w : World} {a : Addr} {v : Value} (h : w.cell? a = some v) : a.block < w.heap.size := by
 rcases Nat.lt_or_ge a.block w.heap.size with h' | h'
 ·exact h'
 ·simp [World.cell?, Array.getElem?_eq_none h'] at h
theorem add_plain (a : Addr) (j : Nat) (h : a.spot = none) : a.add j = ⟨a.block, a.off + j, none⟩ := by
 obtain ⟨g, o, s⟩ := a
 simp only at h
 subst h
 unfold Addr.add
 split <;> simp_all
end
end Go.Proofs.YtkojkeabelckjaaGreatDoor
namespace Go.Proofs.YtkojkeabelckjaaGreatDoor
open Go.RowKit Go.ChangeShapes Go.WideShapes Go.ChangeAt Go.Joins
section
variable {H : Type} {enc : TypeId × Value → H} {w : World} {base : Nat} {spare : Nat → Bool} {held : Bool}
end
end Go.Proofs.YtkojkeabelckjaaGreatDoor
end

section
set_option linter.all false
namespace Go.Proofs.YtkojkeabelckjaaGreatDoor
open Go.RowKit Go.ChangeShapes Go.WideShapes Go.ChangeAt Go.Joins
def Scal : TypeDesc → Value → Prop
 | .bool, v => ∃ b, v = .bool b
 | .int k, v => ∃ n, v = .int k n ∧ (Lit.int k n).wf = true
 | .string, v => ∃ l, v = .string (str l) ∧ l.length ≤ maxLen
 | _, _ => False
def leavesF (lv : TypeId → Option (List TypeDesc)) (sz : TypeId → Nat) : Nat → List Field → Option (List TypeDesc)
 | _, [] => some []
 | off, f :: r => match lv f.type, leavesF lv sz (off + sz f.type) r with
  | some a, some b => bif Nat.beq f.offset off && Nat.beq a.length (sz f.type) then some (a ++ b) else none
  | _, _ => none
def leaves (P : Program) : Nat → TypeId → Option (List TypeDesc)
 | 0, _ => none
 | n + 1, t => match P.underlying t with
  | some .bool => some [.bool]
  | some (.int k) => some [.int k]
  | some .string => some [.string]
  | some (.struct fs) => match leavesF (leaves P n) P.cellsOf 0 fs.toList with
   | some L => bif Nat.beq L.length (P.cellsOf t) then some L else none
   | none => none
  | _ => none
inductive Alike : List TypeDesc → List Value → Prop
 | nil : Alike [] []
 | cons {d : TypeDesc} {v : Value} {L : List TypeDesc} {cs : List Value} (h : Scal d v) (t : Alike L cs) : Alike (d :: L) (v :: cs)
theorem Alike.append : ∀ {L M : List TypeDesc} {a b : List Value}, Alike L a → Alike M b → Alike (L ++ M) (a ++ b)
 | [], _, _, _, .nil, h => h
 | _ :: _, _, _, _, .cons h t, k => .cons h (t.append k)
section
variable {H : Type} {enc : TypeId × Value → H} {P : Program} {w : World} {base : Nat} {spare : Nat → Bool} {held : Bool}
theorem leavesF_ok {lv : TypeId → Option (List TypeDesc)} {fuel : Nat} {cs : List Value} (ih : ∀ t L ds x, lv t = some L → DataW.trod enc P w base spare held fuel t ds = some x → Alike L ds) :
  ∀ (fs : List Field) (off : Nat) (L : List TypeDesc) (xs : List (DataW H × List MemPlace)), leavesF lv P.cellsOf off fs = some L → fs.mapM (fun f => DataW.trod enc P w base spare held fuel f.type ((cs.drop f.offset).take (P.cellsOf f.type))) = some xs → Alike L ((cs.drop off).take L.length)
 | [], off, L, xs, h, _ => by
  obtain rfl := Option.some.inj h
  simpa using Alike.nil
 | f :: r, off, L, xs, h, hx => by
  simp only [leavesF] at h
  cases h1 : lv f.type with
  | none => simp [h1] at h
  | some a =>
   cases h2 : leavesF lv P.cellsOf (off + P.cellsOf f.type) r with
   | none => simp [h1, h2] at h
   | some b =>
    simp only [h1, h2] at h
    cases hb : Nat.beq f.offset off && Nat.beq a.length (P.cellsOf f.type) with
    | false => rw [hb] at h; cases h
    | true =>
     rw [hb] at h
     obtain rfl := Option.some.inj h
     simp only [Bool.and_eq_true] at hb
     have e1 := Nat.eq_of_beq_eq_true hb.1
     have e2 := Nat.eq_of_beq_eq_true hb.2
     rw [List.mapM_cons] at hx
     cases k1 : DataW.trod enc P w base spare held fuel f.type ((cs.drop f.offset).take (P.cellsOf f.type)) with
     | none => simp [k1] at hx
     | some y =>
      cases k2 : r.mapM (fun f => DataW.trod enc P w base spare held fuel f.type ((cs.drop f.offset).take (P.cellsOf f.type))) with
      | none => simp [k1, k2] at hx
      | some ys =>
       have h3 := ih _ _ _ _ h1 k1
       have h4 := leavesF_ok ih r _ b ys h2 k2
       rw [e1, ← e2] at h3
       rw [← e2] at h4
       rw [List.length_append, List.take_add, List.drop_drop]
       exact h3.append h4
theorem leaves_ok : ∀ (n fuel : Nat) (t : TypeId) (L : List TypeDesc) (cs : List Value) (x : DataW H × List MemPlace), leaves P n t = some L → DataW.trod enc P w base spare held fuel t cs = some x → Alike L cs
 | 0, _, _, _, _, _, h, _ => by simp [leaves] at h
 | n + 1, 0, _, _, _, _, _, h => by simp [DataW.trod] at h
 | n + 1, fuel + 1, t, L, cs, x, hL, h => by
  unfold leaves at hL
  unfold DataW.trod at h
  cases hu : P.underlying t with
  | none => simp [hu] at hL
  | some d =>
   rw [hu] at hL
   simp only [hu] at h
   cases d with
   | bool =>
    obtain rfl := Option.some.inj hL
    rcases cs with _ | ⟨c, _ | ⟨c2, cs⟩⟩
    ·simp at h
    ·cases c <;> simp at h
     exact .cons ⟨_, rfl⟩ .nil
    ·simp at h
   | int k =>
    obtain rfl := Option.some.inj hL
    rcases cs with _ | ⟨c, _ | ⟨c2, cs⟩⟩
    ·simp at h
    ·cases c <;> simp at h
     obtain ⟨⟨rfl, hw⟩, _⟩ := h
     exact .cons ⟨_, rfl, hw⟩ .nil
    ·simp at h
   | string =>
    obtain rfl := Option.some.inj hL
    rcases cs with _ | ⟨c, _ | ⟨c2, cs⟩⟩
    ·simp at h
    ·cases c <;> simp at h
     rename_i s
     obtain ⟨l, rfl⟩ := str_of s
     exact .cons ⟨l, rfl, by have := h.1; rwa [str_size] at this⟩ .nil
    ·simp at h
   | struct fs =>
    simp only at hL
    cases hF : leavesF (leaves P n) P.cellsOf 0 fs.toList with
    | none => simp [hF] at hL
    | some M =>
     simp only [hF] at hL
     cases hb : Nat.beq M.length (P.cellsOf t) with
     | false => rw [hb] at hL; cases hL
     | true =>
      rw [hb] at hL
      obtain rfl := Option.some.inj hL
      have e := Nat.eq_of_beq_eq_true hb
      simp only at h
      split at h
      ·rename_i hl
       cases hx : fs.toList.mapM (fun f => DataW.trod enc P w base spare held fuel f.type ((cs.drop f.offset).take (P.cellsOf f.type))) with
       | none => simp [hx] at h
       | some xs =>
        have := leavesF_ok (fun t L ds x h1 h2 => leaves_ok n fuel t L ds x h1 h2) fs.toList 0 M xs hF hx
        rwa [List.drop_zero, e, ← hl, List.take_length] at this
      ·cases h
   | _ => simp at hL
end
theorem alike_u64 {L : List TypeDesc} {cs : List Value} (h : Alike (.int .u64 :: L) cs) : ∃ (n : Nat) (c : List Value), cs = .int .u64 (n : Int) :: c ∧ n < 18446744073709551616 ∧ Alike L c := by
 cases h with
 | cons h t =>
  obtain ⟨n, rfl, hn⟩ := h
  have := wf_u64 hn
  exact ⟨n.toNat, _, by show _ = Value.int .u64 ((n.toNat : Nat) : Int) :: _; rw [Int.toNat_of_nonneg this.1], by omega, t⟩
end Go.Proofs.YtkojkeabelckjaaGreatDoor
namespace Go.Proofs.YtkojkeabelckjaaGreatDoor
open Go.RowKit Go.ChangeShapes Go.WideShapes Go.ChangeAt Go.Joins
theorem Alike.length {L : List TypeDesc} {cs : List Value} (h : Alike L cs) : cs.length = L.length := by
 induction h with
 | nil => rfl
 | cons _ _ ih => simp [ih]
section
variable {H : Type} {enc : TypeId × Value → H} {P : Program} {w : World}
theorem open_rows {t e : TypeId} {L : List TypeDesc} (m : Nat) {b0 : Nat} {r : Reach} {v : Value} {d : DataW H} {p : List MemPlace} (ht : P.underlying t = some (.slice e)) (hL : leaves P m e = some L) (hC : P.cellsOf e = L.length) (hC0 : 0 < L.length)
  (hv : Value.okWide P w r b0 t v) (h : DataW.Trod enc P w 0 (fun _ => true) true t v d p) :
  ∃ A n c, ∃ rows : List (List Value), v = .slice A n c ∧ rows.length = n ∧ n ≤ maxLen ∧ (∀ x ∈ rows, Alike L x) ∧ Rd w L.length A n rows.flatten := by
 obtain ⟨a0, len0, cap0, rfl⟩ := okWide_slice ht hv
 obtain ⟨fuel, hf⟩ := h
 rcases Go.Deep.open_slice ht hf with ⟨hcs, _⟩ | ⟨a, len, cap, m', n', D, Pl, hcs, _, hl, hm, hmm, _, hi⟩
 ·simp [Value.cells] at hcs
  obtain ⟨rfl, rfl, rfl⟩ := hcs
  exact ⟨none, 0, 0, [], rfl, rfl, Nat.zero_le _, by simp, ⟨by simp, fun _ => rfl, fun h => absurd h (by omega)⟩⟩
 ·simp [Value.cells] at hcs
  obtain ⟨rfl, rfl, rfl⟩ := hcs
  simp only [if_true] at hmm
  subst hmm
  have hch : ∀ i, ∃ cs' : List Value, cs'.length = L.length ∧ (i < len0 → Alike L cs' ∧ ∀ k, k < L.length → w.cell? (a.add (i * L.length + k)) = cs'[k]?) := fun i => by
   by_cases hlt : i < len0
   ·obtain ⟨cs', h1, h2⟩ := hi i (by omega)
    obtain ⟨_, h3, h4⟩ := World.cells?_some h1
    have h5 := leaves_ok m n' e L cs' _ hL h2
    refine ⟨cs', h5.length, fun _ => ⟨h5, fun k hk => ?_⟩⟩
    have := h4 k (by rw [hC]; exact hk)
    rw [← hC]
    rw [Go.Deep.add_add] at this
    exact this
   ·exact ⟨List.replicate L.length undef, by simp, fun h => absurd h hlt⟩
  obtain ⟨f, hf'⟩ := Classical.axiomOfChoice hch
  have hfl : ∀ i, (f i).length = L.length := fun i => (hf' i).1
  have hcell : ∀ i k, i < len0 → k < L.length → w.cell? (a.add (i * L.length + k)) = (f i)[k]? := fun i k hi hk => ((hf' i).2 hi).2 k hk
  have hflat : ((List.range len0).map f).flatten = (List.range len0).flatMap f := (List.flatMap_def ..).symm
  refine ⟨some a, len0, _, (List.range len0).map f, rfl, by simp, by omega, fun x hx => ?_, ?_⟩
  ·obtain ⟨i, hi', rfl⟩ := List.mem_map.1 hx
   exact ((hf' i).2 (List.mem_range.1 hi')).1
  ·rw [hflat]
   refine ⟨by rw [fm_len hfl]; simp, by simp, fun hn => ?_⟩
   have h0 := hcell 0 0 hn hC0
   have hsome : w.cell? (a.add (0 * L.length + 0)) = some ((f 0)[0]'(by rw [hfl]; exact hC0)) := by rw [h0]; exact List.getElem?_eq_getElem _
   have hs : a.spot = none := by
    have := World.cell?_spot hsome
    unfold Addr.add at this
    simpa using this
   have hlt : a.block < w.heap.size := by
    have := World.lt_of_cell hsome
    unfold Addr.add at this
    simpa using this
   obtain ⟨g, o, sp⟩ := a
   simp only at hs hlt
   subst hs
   refine ⟨g, o, rfl, hlt, fun j u hu => ?_⟩
   have hj : j < len0 * L.length := by
    have := (List.getElem?_eq_some_iff.1 hu).1
    rw [fm_len hfl] at this
    simpa using this
   have hi0 : j / L.length < len0 := Nat.div_lt_of_lt_mul (by rw [Nat.mul_comm]; exact hj)
   have hk0 : j % L.length < L.length := Nat.mod_lt _ hC0
   have hjj : j / L.length * L.length + j % L.length = j := by rw [Nat.mul_comm]; exact Nat.div_add_mod j L.length
   have h1 := hcell _ _ hi0 hk0
   rw [hjj, add_plain _ _ rfl] at h1
   simp only at h1
   rw [h1]
   have h2 := fm_at hfl (L := List.range len0) (i := j / L.length) (x := j / L.length) (by rw [List.getElem?_range hi0])
   rw [← h2, List.getElem?_take_of_lt hk0, List.getElem?_drop, hjj]
   exact hu
end
theorem rows_as {α : Type} {f : α → List Value} {ok : α → Prop} {L : List TypeDesc} (h : ∀ r, Alike L r → ∃ x, ok x ∧ r = f x) : ∀ rows : List (List Value), (∀ r ∈ rows, Alike L r) → ∃ M : List α, rows.flatten = M.flatMap f ∧ M.length = rows.length ∧ ∀ x ∈ M, ok x
 | [], _ => ⟨[], rfl, rfl, by simp⟩
 | r :: rows, hr => by
  obtain ⟨x, h1, rfl⟩ := h r (hr r List.mem_cons_self)
  obtain ⟨M, h2, h3, h4⟩ := rows_as h rows (fun r hr' => hr r (List.mem_cons_of_mem _ hr'))
  refine ⟨x :: M, by simp [h2], by simp [h3], fun y hy => ?_⟩
  rcases List.mem_cons.1 hy with rfl | hy
  ·exact h1
  ·exact h4 y hy
theorem arg_ok {w : World} {size n : Nat} {A : Option Addr} {xs : List Value} (h : Rd w size A n xs) : jH1 A n := fun hn => by
 obtain ⟨g, o, h1, _⟩ := h.2.2 hn
 exact ⟨g, o, h1⟩
theorem arg_sat {w : World} {size n : Nat} {A : Option Addr} {xs : List Value} (h : Rd w size A n xs) (hn : 0 < n) : Sat w [] (roE A xs) w := by
 obtain ⟨g, o, rfl, h1, h2⟩ := h.2.2 hn
 exact ⟨Only.refl _ _, fun e he => by rw [List.mem_singleton.1 he]; exact ⟨⟨h1, h2⟩, fun h => by cases h⟩, List.pairwise_singleton _ _⟩
end Go.Proofs.YtkojkeabelckjaaGreatDoor
namespace Go.Proofs.YtkojkeabelckjaaGreatDoor
open Go.RowKit Go.ChangeShapes Go.WideShapes Go.ChangeAt Go.Joins
section
variable {H : Type} {enc : TypeId × Value → H} {P : Program} {w : World} {base : Nat} {spare : Nat → Bool} {held : Bool}
end
end Go.Proofs.YtkojkeabelckjaaGreatDoor
end
