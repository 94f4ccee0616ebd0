/- Walks and plain laws for this claim (texts Gsx5, SxZ, SxX, SxS, SxP, SxC, Nt1, Nt2, Gva1, joined). Each theorem states its own conditions. -/
import Derived.Test.YtfeopecgedbfpaaGreatDoorJ03
import Derived.Scope
import Derived.Lib.AppendStr
import Derived.Shelf.Small.Strs
import Derived.Shelf.Strconv.Itoa0
set_option linter.all false
namespace Go.Proofs.YtfeopecgedbfpaaGreatDoor
section
open Go.RowKit
def Wrs (T : Heap) : Prop := ∀ e ∈ T, e.wr = true
theorem Wrs.nil : Wrs [] := fun _ h => by cases h
theorem Wrs.cons {e : Ent} {T : Heap} (he : e.wr = true) (h : Wrs T) : Wrs (e :: T) := fun x hx => by
 rcases List.mem_cons.1 hx with rfl | hx
 ·exact he
 ·exact h x hx
theorem Wrs.append {T U : Heap} (h : Wrs T) (k : Wrs U) : Wrs (T ++ U) := fun e he => (List.mem_append.1 he).elim (h e) (k e)
theorem Wrs.filter {T : Heap} (h : Wrs T) : T.filter Ent.wr = T := List.filter_eq_self.2 h
def jL4 : Obj → Prop := fun o => o = .deferred (some [])
def jL2 (r : Loop) : Obj → Prop := fun o => o = .loop r
def YRun (P : Program) (l : Nat) (vs : List Value) (w : World) (R : Ending → World → Prop) : Prop :=
 ∃ f tmps assign body, (Instr.yield l vs.toArray).run P w = .ok (.round l f tmps assign body) w ∧ RoundIn Fence.wide 0 P l f tmps assign body w R
def YOk (P : Program) (l : Nat) (vs : List Value) (H : Heap) (R : Value → Heap → Prop) : Prop :=
 ∀ w, Sat w (wrs H) H w → YRun P l vs w fun e w' => ∃ v H', e = .returned v ∧ R v H' ∧ Sat w (wrs H) H' w'
def Goes (J S : Heap → Prop) (v : Value) (H' : Heap) : Prop := ∃ b, v = .bool b ∧ (b = true → J H') ∧ (b = false → S H')
def Iter (P : Program) (f : FuncId) (caps : List Value) (RO : Heap) (items : List (List Value)) : Prop :=
 ∀ (l : Nat) (J : Nat → Heap → Prop) (Jr : Heap) (S : Heap → Prop), (∀ k T, J k T → Wrs T) → (∀ T, S T → Wrs T) → Ro Jr →
  (∀ k vs T, items[k]? = some vs → J k T → YOk P l vs (T ++ Jr) (Goes (J (k + 1)) S)) →
  ∀ T, J 0 T → Fn P f (.func (.yield l) #[] #[] :: caps) (RO ++ (T ++ Jr)) fun _ H' => J items.length H' ∨ S H'
def yF6 (P : Program) (f : FuncId) (caps : List Value) (RO X : Heap) {ι : Type} (i0 : ι) (Nx : ι → List Value → ι → Prop) (Fin : ι → Prop) : Prop :=
 ∀ (l : Nat) (J : ι → Heap → Prop) (Jr : Heap) (S : Heap → Prop), (∀ i T, J i T → Wrs T) → (∀ i T, J i T → X.Sublist T) → (∀ T, S T → Wrs T) → Ro Jr →
  (∀ i vs i' T, Nx i vs i' → J i T → YOk P l vs (T ++ Jr) (Goes (J i') S)) →
  ∀ T, J i0 T → Fn P f (.func (.yield l) #[] #[] :: caps) (RO ++ (T ++ Jr)) fun _ H' => (∃ i, Fin i ∧ J i H') ∨ S H'
theorem Iter.gen {P : Program} {f : FuncId} {caps : List Value} {RO : Heap} {items : List (List Value)} (h : Iter P f caps RO items) : yF6 P f caps RO [] 0 (fun k vs k' => items[k]? = some vs ∧ k' = k + 1) (· = items.length) :=
 fun l J Jr S h1 _ h3 h4 h5 T hT => by
  obtain ⟨a, b⟩ := h l J Jr S h1 h3 h4 (fun k vs T hk hJ => h5 k vs (k + 1) T ⟨hk, rfl⟩ hJ) T hT
  exact ⟨a, fun w hw => (b w hw).mono fun e w' he => by
   obtain ⟨v, H', e1, e2, e3⟩ := he
   exact ⟨v, H', e1, e2.imp (fun x => ⟨_, rfl, x⟩) id, e3⟩⟩
section
variable {P : Program} {N : Frm} {w0 : World} {Wr : List Nat} {ops : Array Oper} {rest : List Oper} {fr : Fr} {H : Heap} {Z : Fr → Heap → Prop}
variable {d ty : Nat} {pos : String} {after : Array Edge}
def sy (P : Program) (N : Frm) (w0 : World) (Wr : List Nat) (ops : Array Oper) (l : List Oper) (fr : Fr) (H : Heap) (Z : Fr → Heap → Prop) : Prop :=
 ∀ (Q : Exit → Act → World → Prop), (∀ fr' H' a w, Z fr' H' → FrOk N fr' a → Sat w0 Wr H' w → Q .normal a w) → ∀ a w, FrOk N fr a → Sat w0 Wr H w → wpListIn N.fence 0 P ops Q l a w
theorem vB7 (h : Z fr H) : sy P N w0 Wr ops [] fr H Z := fun _ hQ a w ha hw => hQ _ _ a w h ha hw
theorem wI4 {o : Oper} {a : Act} {w : World} {K : Act → World → Prop} {Q Q' : Exit → Act → World → Prop} (hp : jT3 o = true) (h : o.wp P a w K (QN Q')) : o.wpIn N.fence 0 P a w K Q := by
 have h := yQ4 (N := N) (fun _ => hp) h
 unfold Oper.wpIn at h ⊢
 refine ⟨h.1, ?_⟩
 have h := h.2
 generalize (o.semAt N.fence.round a.eval).run P w = r at h ⊢
 cases r with
 | ok n w' =>
  cases n <;> simp only [Oper.uponIn] at h ⊢ <;> first
   | exact h
   | exact ⟨h.1, CallsIn.mono h.2 (fun e w'' he => by cases e <;> first | exact he | exact (jW7 he).elim | (cases he.1))⟩
   | exact ⟨h.1, RoundIn.mono h.2 (fun e w'' he => by cases e <;> first | exact he | exact (jW7 he).elim | (cases he.1))⟩
 | halt x w' => cases x <;> simp only [Oper.uponIn] at h ⊢ <;> first | exact h | exact h.elim | (cases h.1)
theorem sy_x {o : Oper} (hp : jT3 o = true) (h : sx P N w0 Wr ops [o] fr H fun fr' H' => sy P N w0 Wr ops rest fr' H' Z) : sy P N w0 Wr ops (o :: rest) fr H Z :=
 fun Q hQ a w ha hw => by
  have h1 := h (QN fun _ a w => wpListIn N.fence 0 P ops Q rest a w) (fun fr' H' a w ht hf hS => ⟨rfl, ht Q hQ a w hf hS⟩) a w ha hw
  unfold wpList at h1
  unfold wpListIn
  split
  ·rename_i hw'
   rw [if_pos hw'] at h1
   exact Oper.wpIn_mono (fun a w hh => hh.2) (wI4 hp (h1.resolve_right fun h => jW7 h.2))
  ·rename_i hw'
   rw [if_neg hw'] at h1
   exact ⟨fun _ _ => trivial, h1.2⟩
theorem vK0 {l : Nat} {vs : List Value} {xs : List Operand} {x : Operand} {ts : Array TypeId} {ρ : Operand → Value} (hx : xs.map ρ = vs) (hf : ρ x = .func (.yield l) #[] #[]) {dst : Option Nat} {w : World} :
  (execOp ρ ⟨dst, .call { callee := .value x, args := xs.toArray, argTypes := ts }, ty, pos, after, none⟩).run P w = (Instr.yield l vs.toArray).run P w := by
 subst hx
 simp [execOp, resolve, hf, Deferred.ofValue, invoke]
theorem wB8 {l : Nat} {x : Operand} {xs : List Operand} {vs : List Value} {ts : Array TypeId} {R : Value → Heap → Prop} (hf : ev fr x = some (.func (.yield l) #[] #[])) (hx : evs fr xs = some vs) (hN : Nat.ble (d + 1) N.n = true)
  (hc : ∀ w, Sat w0 Wr H w → YRun P l vs w fun e w' => ∃ v H', e = .returned v ∧ R v H' ∧ Sat w0 Wr H' w')
  (h : ∀ v H', R v H' → sy P N w0 Wr ops rest ((d, v) :: fr) H' Z) :
  sy P N w0 Wr ops (⟨some d, .call { callee := .value x, args := xs.toArray, argTypes := ts }, ty, pos, after, none⟩ :: rest) fr H Z :=
 fun Q hQ a w ha hw => wpListIn_plain rfl fun K hK => by
  obtain ⟨f, tmps, assign, body, hrun, hR⟩ := hc w hw
  unfold Oper.wpIn
  refine ⟨fun _ _ => trivial, ?_⟩
  rw [Oper.semAt_eq _ _ _ (fun c hc => by cases hc), vK0 (ha.evals hx) (ha.eval hf), hrun]
  refine ⟨(fun e => by cases e), RoundIn.mono (show RoundIn N.fence (0 - 1) P l f tmps assign body w _ from hR) fun e w' he => ?_⟩
  obtain ⟨v, H', rfl, hv, hS⟩ := he
  exact hK _ _ (h v H' hv Q hQ _ _ (ha.put hN v) hS)
theorem kB8 {l : Nat} {x : Operand} {xs : List Operand} {vs : List Value} {ts : Array TypeId} {R : Value → Heap → Prop} (A T K U : Heap) (hc : YOk P l vs (T ++ U) R) (hf : ev fr x = some (.func (.yield l) #[] #[])) (hx : evs fr xs = some vs) (hH : H = A ++ (T ++ K)) (hU : U.Sublist K) (hroU : Ro U) (hN : Nat.ble (d + 1) N.n = true)
  (h : ∀ v T', R v T' → sy P N w0 Wr ops rest ((d, v) :: fr) (A ++ (T'.filter Ent.wr ++ K)) Z) :
  sy P N w0 Wr ops (⟨some d, .call { callee := .value x, args := xs.toArray, argTypes := ts }, ty, pos, after, none⟩ :: rest) fr H Z :=
 wB8 (R := fun v H2 => ∃ T', R v T' ∧ H2 = A ++ (T'.filter Ent.wr ++ K)) hf hx hN (fun w hw => by
  subst hH
  have hw' := HLe.comm3 A T K _ _ _ hw
  have hpre : Sat w (wrs (T ++ U)) (T ++ U) w := by
   have hsub := hw'.sub (zS (hU.trans (lP A K)) T)
   exact ⟨Only.refl _ _, fun e he => ⟨(hsub.ents e he).1, fun h => .inl (mem_wrs.2 ⟨e, he, h, rfl⟩)⟩, hsub.sep⟩
  obtain ⟨f, tmps, assign, body, hrun, hR⟩ := hc w hpre
  exact ⟨f, tmps, assign, body, hrun, hR.mono fun e w' he => by
   obtain ⟨v, H', h1, h2, h3⟩ := he
   exact ⟨v, _, h1, ⟨H', h2, rfl⟩, HLe.comm3 _ A K _ _ _ (hw'.callA hroU h3)⟩⟩) (fun v H2 hR => by obtain ⟨H', hR, rfl⟩ := hR; exact h v H' hR)
end
section
variable {P : Program} {N : Frm} {w0 : World} {Wr : List Nat} {fr : Fr} {H : Heap} {Q : Exit → Act → World → Prop}
theorem vZ2 {id : Nat} {l : List Oper} (h : ∀ Z : Fr → Heap → Prop, (∀ fr H, nx N w0 Wr fr H Q .normal → Z fr H) → sy P N w0 Wr l.toArray l fr H Z) : awp P N w0 Wr (.region id l.toArray false) fr H Q :=
 fun a w ha hw _ => wpIn_region_lit (h (fun fr H => nx N w0 Wr fr H Q .normal) (fun _ _ h => h) Q (fun fr' H' a w hz hf hs => hz a w hf hs) a w ha hw)
theorem jM2 {id : Nat} {l : List Oper} {y : Code} (h : ∀ Z : Fr → Heap → Prop, (∀ fr H, awp P N w0 Wr y fr H Q → Z fr H) → sy P N w0 Wr l.toArray l fr H Z) : awp P N w0 Wr (.seq (.region id l.toArray false) y) fr H Q :=
 aS (vZ2 fun Z hZ => h Z fun fr H hy => hZ fr H hy)
end
end
section
open Go.RowKit
section
variable {P : Program} {w0 w w' : World} {Wr : List Nat} {H : Heap}
theorem Only.putObj (w : World) (l : Nat) (o : Obj) : Only [l] w (w.putObj l o) :=
 ⟨rfl, rfl, rfl, by simp, fun i _ hi => World.putObj_heap_other (by simpa using hi)⟩
theorem Sat.turnOut {l : Nat} {o : Obj} (h : Sat w0 Wr H w) (hl : l ∈ Wr ∨ w0.heap.size ≤ l) (hn : ∀ e ∈ H, e.g ≠ l) : Sat w0 Wr H (w.putObj l o) :=
 ⟨h.only.trans (Only.putObj w l o) (by simpa using hl), fun e he => ⟨Ent.keep (h.ents e he).1 (by simp) (World.putObj_heap_other (hn e he)), (h.ents e he).2⟩, h.sep⟩
theorem Sat.base (h : Sat w0 Wr H w) : Sat w (wrs H) H w := ⟨Only.refl _ _, fun e he => ⟨(h.ents e he).1, fun hw => .inl (mem_wrs.2 ⟨e, he, hw, rfl⟩)⟩, h.sep⟩
theorem Sat.head {e : Ent} (h : Sat w0 Wr (e :: H) w) (he : e.wr = true) : ∀ x ∈ H, x.g ≠ e.g := fun x hx => by
 have := (List.pairwise_cons.1 h.sep).1 x hx (by simp [he])
 exact fun hg => this hg.symm
theorem Sat.tail {e : Ent} (h : Sat w0 Wr (e :: H) w) : Sat w0 Wr H w := h.sub (x4 _ _)
theorem Sat.consW {e : Ent} (h : Sat w0 Wr H w) (he : e.holds w) (hw : e.g ∈ Wr ∨ w0.heap.size ≤ e.g) (hn : ∀ x ∈ H, x.g ≠ e.g) : Sat w0 Wr (e :: H) w :=
 ⟨h.only, fun x hx => by
  rcases List.mem_cons.1 hx with rfl | hx
  ·exact ⟨he, fun _ => hw⟩
  ·exact h.ents x hx, zN (fun x hx _ hg => hn x hx hg.symm) h.sep⟩
end
def yF5 (w0 : World) (Wr : List Nat) (J : Heap → Prop) (S : Code → Heap → Prop) : Exit → Act → World → Prop
 | .normal, _, w => ∃ T, J T ∧ Sat w0 Wr T w
 | .ret, _, w => ∃ T, S .ret T ∧ Sat w0 Wr T w
 | .exit id, _, w => ∃ T, S (.exit id) T ∧ Sat w0 Wr T w
 | _, _, _ => False
def yF7 (N : Frm) (w0 : World) (Wr : List Nat) (H : Heap) (Z : Fr → Heap → Prop) : Exit → Act → World → Prop :=
 fun e a w => e = .normal ∧ ∃ fr1 X, Wrs X ∧ Z fr1 X ∧ FrOk N fr1 a ∧ Sat w0 Wr (X ++ H) w
def kT2 : List Nat → List Value → Fr → Fr
 | p :: ps, v :: vs, fr => kT2 ps vs ((p, v) :: fr)
 | _, _, fr => fr
theorem kQ0 {N : Frm} {l : Option Nat} : ∀ (ps : List Nat) (vs : List Value) (fr : Fr) (tmps : Array Value), ps.all (fun p => Nat.ble (p + 1) N.n) = true → FrOk N fr { tmps := tmps, defers := N.ds.map jU1 } →
  FrOk ⟨N.n, l, []⟩ (kT2 ps vs fr) { tmps := (ps.zip vs).foldl (fun tmps (t, a) => tmps.setIfInBounds t a) tmps, defers := [] }
 | [], vs, fr, tmps, _, h => by
  simp only [kT2]
  exact ⟨by simpa using h.size, rfl, fun t v hv => by simpa using h.at_ t v hv⟩
 | p :: ps, [], fr, tmps, _, h => by
  simp only [kT2]
  exact ⟨by simpa using h.size, rfl, fun t v hv => by simpa using h.at_ t v hv⟩
 | p :: ps, v :: vs, fr, tmps, hp, h => by
  simp only [List.all_cons, xW] at hp
  have := kQ0 (l := l) ps vs ((p, v) :: fr) (tmps.setIfInBounds p v) hp.2 (h.put hp.1 v)
  simpa [kT2] using this
theorem wS5 {N : Frm} {l : Option Nat} (ps : List Nat) (vs : List Value) (fr : Fr) (tmps : Array Value) (hp : ps.all (fun p => Nat.ble (p + 1) N.n) = true) (h : FrOk N fr { tmps := tmps, defers := N.ds.map jU1 }) :
  FrOk ⟨N.n, l, []⟩ (kT2 ps vs fr) { tmps := (ps.toArray.zip vs.toArray).foldl (fun tmps (t, a) => tmps.setIfInBounds t a) tmps, defers := [] } := by
 rw [List.zip_toArray, List.foldl_toArray]
 exact kQ0 ps vs fr tmps hp h
section
variable {P : Program} {n : Nat} {ds : List Mk} {w0 : World} {Wr : List Nat} {fr : Fr} {H : Heap} {Q : Exit → Act → World → Prop}
theorem jV7 {N : Frm} {Z : Fr → Heap → Prop} {K : Heap} (X : Heap) (hX : Wrs X) (hH : HLe (X ++ K) H) (h : Z fr X) : nx N w0 Wr fr H (yF7 N w0 Wr K Z) .normal :=
 fun _ _ ha hw => ⟨rfl, fr, X, hX, h, ha, hH _ _ _ hw⟩
theorem kA2 {N : Frm} {J : Heap → Prop} {S : Code → Heap → Prop} (T : Heap) (hJ : J T) (hH : HLe T H) : nx N w0 Wr fr H (yF5 w0 Wr J S) .normal := fun _ _ _ hw => ⟨T, hJ, hH _ _ _ hw⟩
theorem wW6 {l D : Nat} {rec : LoopState → Option Code → Loop} {ps : List Nat} {assign body : Code} {tmps : Array Value} {vs : List Value} {J Jr : Heap} {J' : Heap → Prop} {S : Code → Heap → Prop}
  (hrec : ∃ fn, rec = fun st pe => { state := st, pending := pe, fn, tmps, params := ps.toArray, assign, body, defers := D })
  (hvs : vs.length = ps.length) (hf : FrOk ⟨n, none, ds⟩ fr { tmps := tmps, defers := ds.map jU1 }) (hN : ps.all (fun p => Nat.ble (p + 1) n) = true) (hJ' : ∀ T, J' T → Wrs T) (hS : ∀ c T, S c T → Wrs T) (hJr : Ro Jr)
  (hround : ∀ w0, awp P ⟨n, some l, []⟩ w0 (wrs (J ++ Jr)) assign (kT2 ps vs fr) (J ++ Jr) (yF7 ⟨n, some l, []⟩ w0 (wrs (J ++ Jr)) (J ++ Jr) fun fr1 X => ∀ w2, awp P ⟨n, some l, []⟩ w2 (wrs (X ++ (J ++ Jr))) body fr1 (X ++ (J ++ Jr)) (yF5 w2 (wrs (X ++ (J ++ Jr))) J' S)))
  (hpl : jJ4 assign = true ∧ jJ4 body = true) :
  YOk P l vs ((.ob l (jL2 (rec .ready none)) :: .ob D jL4 :: J) ++ Jr) (Goes (fun T => ∃ T', J' T' ∧ T = .ob l (jL2 (rec .ready none)) :: .ob D jL4 :: T') fun T => ∃ c T', S c T' ∧ T = .ob l (jL2 (rec .done (some c))) :: .ob D jL4 :: T') := by
 obtain ⟨fn, hrec⟩ := hrec
 intro w hw
 have hl : w.heap[l]? = some (.loop (rec .ready none)) := by
  obtain ⟨o, h1, h2⟩ := (hw.ents _ lO).1
  rw [h1, h2]
 have hD : w.heap[D]? = some (.deferred (some [])) := by
  obtain ⟨o, h1, h2⟩ := (hw.ents _ (lW _ lO)).1
  rw [h1, h2]
 have hlD : l ≠ D := fun e => by subst e; rw [hl] at hD; cases hD
 have hlt : l < w.heap.size := (Array.getElem?_eq_some_iff.1 hl).1
 have hDt : D < w.heap.size := (Array.getElem?_eq_some_iff.1 hD).1
 have hnl : ∀ x ∈ J ++ Jr, x.g ≠ l := fun x hx => hw.head rfl x (lW _ hx)
 have hnD : ∀ x ∈ J ++ Jr, x.g ≠ D := fun x hx => hw.tail.head rfl x hx
 have hwJ : Sat w (wrs (J ++ Jr)) (J ++ Jr) w := hw.tail.tail.base
 have hy := run_yield (P := P) (w := w) (args := vs.toArray) hl (by rw [hrec]; simp [hvs])
 rw [hrec] at hy
 refine ⟨fn, _, assign, body, hy, roundIn_of_wpIn trivial ?_⟩
 have ha := hround w _ w (wS5 (l := some l) ps vs fr tmps hN hf) hwJ (fun _ => hpl.1)
 refine Go.wpIn_mono ha ?_
 rintro e a1 w1 ⟨rfl, fr1, X, hX, hb, hfr1, hw1⟩
 have hs1 : w.heap.size ≤ w1.heap.size := hw1.only.size
 have hl1 : w1.heap[l]? = some (.loop (rec .ready none)) := (hw1.only.block l hlt (fun hm => by obtain ⟨x, hx, _, hg⟩ := mem_wrs.1 hm; exact hnl x hx hg)).trans hl
 have hD1 : w1.heap[D]? = some (.deferred (some [])) := (hw1.only.block D hDt (fun hm => by obtain ⟨x, hx, _, hg⟩ := mem_wrs.1 hm; exact hnD x hx hg)).trans hD
 have hXg : ∀ k, k < w.heap.size → (∀ x ∈ J ++ Jr, x.g ≠ k) → ∀ x ∈ X ++ (J ++ Jr), x.g ≠ k := fun k hk hn x hx => by
  rcases List.mem_append.1 hx with hx | hx
  ·rcases (hw1.ents x (xI _ hx)).2 (hX x hx) with h1 | h1
   ·obtain ⟨y, hy, _, hg⟩ := mem_wrs.1 h1
    exact hg ▸ hn y hy
   ·omega
  ·exact hn x hx
 have hXl := hXg l hlt hnl
 have hXD := hXg D hDt hnD
 obtain ⟨w2, hw2e⟩ := xZ9 (w1.putObj l (.loop { rec .ready none with state := .busy }))
 have hbr := run_beginRound (P := P) hl1 (by rw [hrec])
 rw [hw2e] at hbr
 refine ⟨w2, hbr, ?_⟩
 have hbusy : ({ rec .ready none with state := .busy } : Loop) = rec .busy none := by rw [hrec]
 have hl2 : w2.heap[l]? = some (.loop (rec .busy none)) := by rw [← hw2e, hbusy]; exact World.putObj_heap_same (by omega)
 have hD2 : w2.heap[D]? = some (.deferred (some [])) := by rw [← hw2e]; exact (World.putObj_heap_other (Ne.symm hlD)).trans hD1
 have hs2 : w2.heap.size = w1.heap.size := by rw [← hw2e]; simp
 have hw2 : Sat w2 (wrs (X ++ (J ++ Jr))) (X ++ (J ++ Jr)) w2 := by
  have h1 : Sat w1 (wrs (X ++ (J ++ Jr))) (X ++ (J ++ Jr)) w1 := hw1.base
  have h2 : Sat w1 (l :: wrs (X ++ (J ++ Jr))) (X ++ (J ++ Jr)) w1 := ⟨⟨rfl, rfl, rfl, xB _, fun _ _ _ => rfl⟩, fun e he => ⟨(h1.ents e he).1, fun hh => ((h1.ents e he).2 hh).imp (lW _) id⟩, h1.sep⟩
  rw [← hw2e]
  exact (h2.turnOut (.inl lO) hXl).base
 have ho2 : Only (l :: wrs (J ++ Jr)) w w2 := by
  rw [← hw2e]
  refine (Only.trans (Wr := l :: wrs (J ++ Jr)) (Wr' := [l]) (w2 := w1.putObj l _) ⟨hw1.only.os, hw1.only.tape, hw1.only.output, hw1.only.size, fun i hi hn => hw1.only.block i hi (fun hm => hn (lW _ hm))⟩ (Only.putObj w1 l _) ?_)
  simp
 have hb2 := hb w2 a1 w2 hfr1 hw2 (fun _ => hpl.2)
 refine Go.wpIn_mono hb2 ?_
 have fin : ∀ (jump : Option Code) (T : Heap) (w3 : World), Wrs T → Sat w2 (wrs (X ++ (J ++ Jr))) T w3 → ∃ w4, (Instr.endRound l jump).run P w3 = .ok (.bool jump.isNone) w4 ∧
   Sat w (wrs ((.ob l (jL2 (rec .ready none)) :: .ob D jL4 :: J) ++ Jr)) (.ob l (jL2 (rec (if jump.isNone then .ready else .done) jump)) :: .ob D jL4 :: T) w4 := fun jump T w3 hT h3 => by
  have hl3 : w3.heap[l]? = some (.loop (rec .busy none)) := (h3.only.block l (by omega) (fun hm => by obtain ⟨x, hx, _, hg⟩ := mem_wrs.1 hm; exact hXl x hx hg)).trans hl2
  have hD3 : w3.heap[D]? = some (.deferred (some [])) := (h3.only.block D (by omega) (fun hm => by obtain ⟨x, hx, _, hg⟩ := mem_wrs.1 hm; exact hXD x hx hg)).trans hD2
  have hlt3 : l < w3.heap.size := (Array.getElem?_eq_some_iff.1 hl3).1
  have hend := run_endRound (P := P) jump hl3
  have hre : ({ rec .busy none with state := if jump.isNone then .ready else .done, pending := jump } : Loop) = rec (if jump.isNone then .ready else .done) jump := by rw [hrec]
  rw [hre] at hend
  refine ⟨_, hend, ?_⟩
  have hTg : ∀ k, k < w.heap.size → (∀ x ∈ X ++ (J ++ Jr), x.g ≠ k) → ∀ x ∈ T, x.g ≠ k := fun k hk hn x hx => by
   rcases (h3.ents x hx).2 (hT x hx) with h1 | h1
   ·obtain ⟨y, hy, _, hg⟩ := mem_wrs.1 h1
    exact hg ▸ hn y hy
   ·omega
  have hin : ∀ i ∈ wrs (X ++ (J ++ Jr)), i ∈ wrs ((.ob l (jL2 (rec .ready none)) :: .ob D jL4 :: J) ++ Jr) ∨ w.heap.size ≤ i := fun i hi => by
   obtain ⟨x, hx, hxw, rfl⟩ := mem_wrs.1 hi
   rcases List.mem_append.1 hx with hx | hx
   ·rcases (hw1.ents x (xI _ hx)).2 hxw with h1 | h1
    ·obtain ⟨y, hy, hyw, hg⟩ := mem_wrs.1 h1
     exact .inl (mem_wrs.2 ⟨y, lW _ (lW _ hy), hyw, hg⟩)
    ·exact .inr h1
   ·exact .inl (mem_wrs.2 ⟨x, lW _ (lW _ hx), hxw, rfl⟩)
  have hlW : l ∈ wrs ((.ob l (jL2 (rec .ready none)) :: .ob D jL4 :: J) ++ Jr) := mem_wrs.2 ⟨_, lO, rfl, rfl⟩
  have hDW : D ∈ wrs ((.ob l (jL2 (rec .ready none)) :: .ob D jL4 :: J) ++ Jr) := mem_wrs.2 ⟨_, lW _ lO, rfl, rfl⟩
  have ho3 : Only (wrs ((.ob l (jL2 (rec .ready none)) :: .ob D jL4 :: J) ++ Jr)) w w3 := by
   refine Only.trans (w := w2) ⟨ho2.os, ho2.tape, ho2.output, ho2.size, fun i hi hn => ho2.block i hi (fun hm => hn ?_)⟩ h3.only hin
   rcases List.mem_cons.1 hm with rfl | hm
   ·exact hlW
   ·obtain ⟨x, hx, hxw, rfl⟩ := mem_wrs.1 hm
    exact mem_wrs.2 ⟨x, lW _ (lW _ hx), hxw, rfl⟩
  have hT3 : Sat w (wrs ((.ob l (jL2 (rec .ready none)) :: .ob D jL4 :: J) ++ Jr)) T w3 := ⟨ho3, fun e he => ⟨(h3.ents e he).1, fun hh => ((h3.ents e he).2 hh).elim (hin _) (fun h => .inr (by omega))⟩, h3.sep⟩
  have hT4 := hT3.turnOut (o := .loop (rec (if jump.isNone then .ready else .done) jump)) (.inl hlW) (hTg l hlt hXl)
  refine Sat.consW (Sat.consW hT4 ⟨_, (World.putObj_heap_other (Ne.symm hlD)).trans hD3, rfl⟩ (.inl hDW) (hTg D hDt hXD)) ⟨_, World.putObj_heap_same hlt3, rfl⟩ (.inl hlW) (fun x hx => ?_)
  rcases List.mem_cons.1 hx with rfl | hx
  ·exact Ne.symm hlD
  ·exact hTg l hlt hXl x hx
 rintro e a3 w3 hp
 cases e with
 | normal =>
  obtain ⟨T, hT, hp⟩ := hp
  obtain ⟨w4, h1, h2⟩ := fin none T w3 (hJ' T hT) hp
  exact ⟨_, w4, h1, _, _, rfl, ⟨true, rfl, fun _ => ⟨T, hT, rfl⟩, fun e => by cases e⟩, h2⟩
 | ret =>
  obtain ⟨T, hT, hp⟩ := hp
  obtain ⟨w4, h1, h2⟩ := fin (some .ret) T w3 (hS _ _ hT) hp
  exact ⟨_, w4, h1, _, _, rfl, ⟨false, rfl, (fun e => by cases e), fun _ => ⟨_, T, hT, rfl⟩⟩, h2⟩
 | exit id =>
  obtain ⟨T, hT, hp⟩ := hp
  obtain ⟨w4, h1, h2⟩ := fin (some (.exit id)) T w3 (hS _ _ hT) hp
  exact ⟨_, w4, h1, _, _, rfl, ⟨false, rfl, (fun e => by cases e), fun _ => ⟨_, T, hT, rfl⟩⟩, h2⟩
 | goto t => exact hp.elim
 | panic ch => exact hp.elim
 | outgrown => exact hp.elim
theorem kH1 {ι : Type} {i0 : ι} {Nx : ι → List Value → ι → Prop} {Fin : ι → Prop} {X : Heap} {g : Operand} {ps : List Nat} {assign body : Code} {f : FuncId} {caps : List Value} {RO : Heap} (J : ι → Heap → Prop) (Jr : Heap) (S : Code → Heap → Prop) (T0 : Heap) (hit : yF6 P f caps RO X i0 Nx Fin)
  (hg : ev fr g = some (.func (.func f) #[] caps.toArray)) (hJ : ∀ k T, J k T → Wrs T) (hX : ∀ k T, J k T → X.Sublist T) (hS : ∀ c T, S c T → Wrs T) (hJr : Ro Jr) (hRO : Ro RO)
  (hps : ∀ i vs i', Nx i vs i' → vs.length = ps.length) (hN : ps.all (fun p => Nat.ble (p + 1) n) = true) (h0 : J i0 T0) (hH : HLe (T0 ++ (RO ++ Jr)) H) (hpl : (jJ4 assign && jJ4 body) = true)
  (hround : ∀ k vs k' T, Nx k vs k' → J k T → ∀ l w0, awp P ⟨n, some l, []⟩ w0 (wrs (T ++ Jr)) assign (kT2 ps vs fr) (T ++ Jr) (yF7 ⟨n, some l, []⟩ w0 (wrs (T ++ Jr)) (T ++ Jr) fun fr1 X => ∀ w2, awp P ⟨n, some l, []⟩ w2 (wrs (X ++ (T ++ Jr))) body fr1 (X ++ (T ++ Jr)) (yF5 w2 (wrs (X ++ (T ++ Jr))) (J k') S)))
  (hdone : ∀ (D : Nat) i T, Fin i → J i T → nx ⟨n, none, D :: ds⟩ w0 Wr fr (.ob D jL4 :: (T ++ (RO ++ Jr))) Q .normal)
  (hstop : ∀ (D : Nat) c T, S c T → awp P ⟨n, none, D :: ds⟩ w0 Wr c fr (.ob D jL4 :: (T ++ (RO ++ Jr))) Q) :
  awp P ⟨n, none, ds⟩ w0 Wr (.rangeFunc g ps.toArray assign body) fr H Q := fun a w ha hw _ => by
 simp only [xW] at hpl
 have hw0 := hH _ _ _ hw
 refine wpIn_rangeFunc ?_
 intro fn _
 obtain ⟨rec, hrec⟩ : ∃ rec : LoopState → Option Code → Loop, rec = fun st pe => { state := st, pending := pe, fn, tmps := a.tmps, params := ps.toArray, assign, body, defers := w.heap.size } := ⟨_, rfl⟩
 obtain ⟨w1, hw1e⟩ := xZ9 ((w.alloc (.deferred (some []))).alloc (.loop (rec .ready none)))
 obtain ⟨L, hLe⟩ := xZ9 (w.heap.size + 1)
 obtain ⟨D, hDe⟩ := xZ9 (w.heap.size)
 have hw1 : Sat w0 Wr ((.ob L (jL2 (rec .ready none)) :: .ob D jL4 :: T0) ++ (RO ++ Jr)) w1 := by
  have h1 := (hw0.allocOb (.deferred (some [])) jL4 rfl).allocOb (.loop (rec .ready none)) (jL2 (rec .ready none)) rfl
  rw [World.size_alloc, hw1e, hLe, hDe] at h1
  exact h1
 rw [hDe] at hrec
 have hFn : Fn P f (.func (.yield L) #[] #[] :: caps) _ _ := hit L (fun k T => ∃ T', J k T' ∧ T = .ob L (jL2 (rec .ready none)) :: .ob D jL4 :: T') Jr
  (fun T => ∃ c T', S c T' ∧ T = .ob L (jL2 (rec .done (some c))) :: .ob D jL4 :: T')
  (fun k T ⟨T', h1, h2⟩ => h2 ▸ .cons rfl (.cons rfl (hJ k T' h1))) (fun k T ⟨T', h1, h2⟩ => h2 ▸ .cons _ (.cons _ (hX k T' h1))) (fun T ⟨c, T', h1, h2⟩ => h2 ▸ .cons rfl (.cons rfl (hS c T' h1))) hJr
  (fun k vs k' T hk ⟨T', h1, h2⟩ => by
   subst h2
   exact wW6 ⟨fn, hrec⟩ (hps k vs k' hk) ⟨ha.size, rfl, ha.at_⟩ hN (hJ k') hS hJr (hround k vs k' T' hk h1 L) hpl)
  (.ob L (jL2 (rec .ready none)) :: .ob D jL4 :: T0) ⟨T0, h0, rfl⟩
 have hroU : Ro (RO ++ Jr) := hRO.append hJr
 have hcall : Calls P f (.func (.yield L) #[] #[] :: caps).toArray w1 fun e w3 => ∃ v T', e = .returned v ∧ ((∃ i T, Fin i ∧ J i T ∧ T' = .ob L (jL2 (rec .ready none)) :: .ob D jL4 :: T) ∨ (∃ c T, S c T ∧ T' = .ob L (jL2 (rec .done (some c))) :: .ob D jL4 :: T)) ∧ Sat w0 Wr (T' ++ (RO ++ Jr)) w3 := by
  have hb : Sat w1 (wrs (RO ++ ((.ob L (jL2 (rec .ready none)) :: .ob D jL4 :: T0) ++ Jr))) (RO ++ ((.ob L (jL2 (rec .ready none)) :: .ob D jL4 :: T0) ++ Jr)) w1 :=
   (HLe.comm3 _ _ _ _ _ _ hw1).base
  refine (hFn.2 w1 hb).mono fun e w3 he => ?_
  obtain ⟨v, T', rfl, hT, hS3⟩ := he
  have hT : (∃ i T, Fin i ∧ J i T ∧ T' = .ob L (jL2 (rec .ready none)) :: .ob D jL4 :: T) ∨ (∃ c T, S c T ∧ T' = .ob L (jL2 (rec .done (some c))) :: .ob D jL4 :: T) := by
   rcases hT with ⟨i, hf, T, h1, h2⟩ | h
   ·exact .inl ⟨i, T, hf, h1, h2⟩
   ·exact .inr h
  have hTW : Wrs T' := by
   rcases hT with ⟨i, T, _, h1, rfl⟩ | ⟨c, T, h1, rfl⟩
   ·exact .cons rfl (.cons rfl (hJ _ T h1))
   ·exact .cons rfl (.cons rfl (hS c T h1))
  refine ⟨v, T', rfl, hT, ?_⟩
  have e1 : wrs (RO ++ ((.ob L (jL2 (rec .ready none)) :: .ob D jL4 :: T0) ++ Jr)) = wrs ((.ob L (jL2 (rec .ready none)) :: .ob D jL4 :: T0) ++ (RO ++ Jr)) := by
   rw [hroU.wrs, ← xF, hJr.wrs]
   simp [wrs, zB, hRO.filter]
  rw [e1] at hS3
  have h4 := Sat.callA (Hc := .ob L (jL2 (rec .ready none)) :: .ob D jL4 :: T0) (K := RO ++ Jr) (U := RO ++ Jr) hw1 hroU hS3
  rwa [hTW.filter] at h4
 obtain ⟨fnc, hE1, hE2, hE3⟩ := hFn.1
 refine ⟨L, [jU1 D], w1, { target := .fn (.func f) caps.toArray, args := #[.func (.yield L) #[] #[]] }, w1, f, (.func (.yield L) #[] #[] :: caps).toArray, w1, ?_, ?_, fun _ _ => trivial, ?_, (fun e => by cases e), vU5 (hcall.mono fun e w3 he => ?_)⟩
 ·rw [← hw1e, hrec, ← hLe, ← hDe]; exact run_enterLoop_outer _ _ _ _ _
 ·simp only [resolve, ha.eval hg]
  simp [go_sem]
 ·have h2' : ¬ (fnc.name = "runtime.NumGoroutine") := by simpa using hE2
  have h3' : ¬ (fnc.body = none) := by intro e; rw [e] at hE3; cases hE3
  simp [invoke, callFunc, hE1, h2', h3', program, lI, l9, Sem.run]
 ·obtain ⟨v, T', rfl, hT, hS3⟩ := he
  have hact : FrOk ⟨n, none, D :: ds⟩ fr { a with defers := [jU1 D] ++ a.defers } := ⟨ha.size, by simp [ha.defers], ha.at_⟩
  rcases hT with ⟨i, T, hf, hT, rfl⟩ | ⟨c, T, hc, rfl⟩
  ·have hl3 : w3.heap[L]? = some (.loop (rec .ready none)) := by
    obtain ⟨o, h1, h2⟩ := (hS3.ents _ lO).1
    rw [h1, h2]
   obtain ⟨o, hend⟩ : ∃ o, (Instr.endLoop L).run P w3 = .ok (none) (w3.putObj L o) :=
    ⟨_, (run_endLoop (P := P) hl3 (by rw [hrec]; simp)).trans (by rw [show (rec .ready none).pending = none from by rw [hrec]])⟩
   refine ⟨none, _, hend, hdone D i T hf hT _ _ hact (Sat.turnOut (Sat.tail hS3) ?_ (fun x hx => hS3.head rfl x hx))⟩
   exact (hS3.ents _ lO).2 rfl
  ·have hl3 : w3.heap[L]? = some (.loop (rec .done (some c))) := by
    obtain ⟨o, h1, h2⟩ := (hS3.ents _ lO).1
    rw [h1, h2]
   obtain ⟨o, hend⟩ : ∃ o, (Instr.endLoop L).run P w3 = .ok (some c) (w3.putObj L o) :=
    ⟨_, (run_endLoop (P := P) hl3 (by rw [hrec]; simp)).trans (by rw [show (rec .done (some c)).pending = some c from by rw [hrec]])⟩
   refine ⟨some c, _, hend, hstop D c T hc _ _ hact (Sat.turnOut (Sat.tail hS3) ?_ (fun x hx => hS3.head rfl x hx)) (fun e => by cases e)⟩
   exact (hS3.ents _ lO).2 rfl
theorem kE5 {g : Operand} {ps : List Nat} {assign body : Code} {f : FuncId} {caps : List Value} {RO : Heap} {items : List (List Value)} (J : Nat → Heap → Prop) (Jr : Heap) (S : Code → Heap → Prop) (T0 : Heap) (hit : Iter P f caps RO items)
  (hg : ev fr g = some (.func (.func f) #[] caps.toArray)) (hJ : ∀ k T, J k T → Wrs T) (hS : ∀ c T, S c T → Wrs T) (hJr : Ro Jr) (hRO : Ro RO)
  (hps : ∀ (k : Nat) (vs : List Value), items[k]? = some vs → vs.length = ps.length) (hN : ps.all (fun p => Nat.ble (p + 1) n) = true) (h0 : J 0 T0) (hH : HLe (T0 ++ (RO ++ Jr)) H) (hpl : (jJ4 assign && jJ4 body) = true)
  (hround : ∀ k vs T, items[k]? = some vs → J k T → ∀ l w0, awp P ⟨n, some l, []⟩ w0 (wrs (T ++ Jr)) assign (kT2 ps vs fr) (T ++ Jr) (yF7 ⟨n, some l, []⟩ w0 (wrs (T ++ Jr)) (T ++ Jr) fun fr1 X => ∀ w2, awp P ⟨n, some l, []⟩ w2 (wrs (X ++ (T ++ Jr))) body fr1 (X ++ (T ++ Jr)) (yF5 w2 (wrs (X ++ (T ++ Jr))) (J (k + 1)) S)))
  (hdone : ∀ (D : Nat) T, J items.length T → nx ⟨n, none, D :: ds⟩ w0 Wr fr (.ob D jL4 :: (T ++ (RO ++ Jr))) Q .normal)
  (hstop : ∀ (D : Nat) c T, S c T → awp P ⟨n, none, D :: ds⟩ w0 Wr c fr (.ob D jL4 :: (T ++ (RO ++ Jr))) Q) :
  awp P ⟨n, none, ds⟩ w0 Wr (.rangeFunc g ps.toArray assign body) fr H Q :=
 kH1 J Jr S T0 hit.gen hg hJ (fun _ _ _ => lN _) hS hJr hRO (fun k vs _ h => hps k vs h.1) hN h0 hH hpl (fun k vs k' T h hj l w0 => by obtain ⟨h1, rfl⟩ := h; exact hround k vs T h1 hj l w0) (fun D i T hf hj => by subst hf; exact hdone D T hj) hstop
def kZ4 : List Nat → Heap → Heap
 | [], H => H
 | i :: is, H => kZ4 is (H.eraseIdx i)
def vO3 : List Mk → List Nat → Heap → Prop
 | [], [], _ => True
 | .at D :: ds, i :: is, H => H[i]? = some (.ob D jL4) ∧ vO3 ds is (H.eraseIdx i)
 | _, _, _ => False
theorem kE0 {α : Type} : ∀ (l : List α) (i : Nat) (e : α), l[i]? = some e → l.Perm (e :: l.eraseIdx i)
 | x :: r, 0, e, h => by simp at h; subst h; simp
 | x :: r, i + 1, e, h => by
  have := kE0 r i e (by simpa using h)
  exact ((this.cons x).trans (uO e x _))
 | [], i, e, h => by simp at h
theorem yG1 {fn : Func} {tmps : Array Value} {R : Ending → World → Prop} : ∀ (ds : List Mk) (is : List Nat) (H : Heap) (w : World), vO3 ds is H → Sat w0 Wr H w → (∀ w', Sat w0 Wr (kZ4 is H) w' → LeavesIn Fence.wide 0 P fn tmps R [] .returning w') →
  LeavesInM Fence.wide 0 P fn tmps R (ds.map jU1) .returning w
 | [], [], H, w, _, hw, h => h w hw
 | .at D :: ds, i :: is, H, w, hm, hw, h => by
  have hp := hw.perm (kE0 H i _ hm.1)
  have hD : w.heap[D]? = some (.deferred (some [])) := by
   obtain ⟨o, h1, h2⟩ := (hp.ents _ lO).1
   rw [h1, h2]
  refine ⟨by simp, .inl ⟨D, _, rfl, run_takeDeferred hD, yG1 ds is (H.eraseIdx i) _ hm.2 (Sat.turnOut hp.tail ((hp.ents _ lO).2 rfl) (fun x hx => hp.head rfl x hx)) h⟩⟩
 | [], _ :: _, _, _, hm, _, _ => hm.elim
 | .at _ :: _, [], _, _, hm, _, _ => hm.elim
 | .fn _ _ :: _, _, _, _, hm, _, _ => hm.elim
abbrev yD6 (P : Program) (fn : Func) (R : Ending → World → Prop) : Exit → Act → World → Prop := bodyPostM Fence.wide 0 P fn R
theorem jJ5 {fn : Func} {R : Ending → World → Prop} (is : List Nat) (hm : vO3 ds is H) (h : nx ⟨n, none, []⟩ w0 Wr fr (kZ4 is H) (bodyPost P fn R) .ret) : nx ⟨n, none, ds⟩ w0 Wr fr H (yD6 P fn R) .ret := fun a w ha hw => by
 show LeavesInM Fence.wide 0 P fn a.tmps R a.defers .returning w
 rw [ha.defers]
 refine yG1 ds is H w hm hw fun w' hw' => ?_
 obtain ⟨_, v, h1, h2⟩ := h { tmps := a.tmps, defers := [] } w' ⟨ha.size, rfl, ha.at_⟩ hw'
 exact ⟨v, h1, h2⟩
theorem Fn.enterM {f : FuncId} {fn : Func} {c : Code} {args : List Value} {R : Value → Heap → Prop} (hf : P.funcs[f]? = some fn) (hb : fn.body = some c) (hn : (fn.name == "runtime.NumGoroutine") = false) (hN : args.length + (fn.ntmps - args.length) = n)
  (h : ∀ w0, awp P ⟨n, none, []⟩ w0 (wrs H) c (kS2 0 args) H (yD6 P fn (jR4 w0 (wrs H) R))) : Fn P f args H R := by
 refine ⟨⟨fn, hf, hn, by simp [hb]⟩, fun w hw => callsIn_wide.1 (callsIn_of_wp_marks (n := 0) hf hb trivial (h w _ w ⟨?_, rfl, ?_⟩ hw (fun e => by cases e)))⟩
 ·simp [← hN]
 ·intro t v ht
  obtain ⟨k, rfl, hk⟩ := kY5 args 0 t v ht
  have hl : k < args.length := (List.getElem?_eq_some_iff.1 hk).1
  simp only [lA]
  rw [Array.getElem?_append_left (by simpa using hl)]
  simpa using hk
end
end
section
open Go.RowKit
section
variable {P : Program} {N : Frm} {w0 : World} {Wr : List Nat} {ops : Array Oper} {rest : List Oper} {fr : Fr} {H : Heap} {Z : Fr → Heap → Prop}
variable {d ty : Nat} {pos : String} {after : Array Edge}
theorem jH1 {f : FuncId} {xs : List Operand} {vs : List Value} (hx : evs fr xs = some vs) (hN : Nat.ble (d + 1) N.n = true)
  (h : sx P N w0 Wr ops rest ((d, .func (.func f) #[] vs.toArray) :: fr) H Z) : sx P N w0 Wr ops (⟨some d, .makeFunc (.func f) #[] xs.toArray, ty, pos, after, none⟩ :: rest) fr H Z :=
 jE9 _ hN (fun a w ha hw => by
  have := ha.evals hx
  subst this
  simp [execOp, Instr.makeFunc, l9]) h
theorem vD6 {f : FuncId} {caps : List Value} {vs : List Value} (hE : Enters P f) {x : Operand} {xs : List Operand} {ts : Array TypeId} {ρ : Operand → Value} (hx : xs.map ρ = vs) (hf : ρ x = .func (.func f) #[] caps.toArray) {dst : Option Nat} {w : World} :
  (execOp ρ ⟨dst, .call { callee := .value x, args := xs.toArray, argTypes := ts }, ty, pos, after, none⟩).run P w = .ok (.enter f (vs ++ caps).toArray) w := by
 obtain ⟨fn, h1, h2, h3⟩ := hE
 subst hx
 have h2' : ¬ (fn.name = "runtime.NumGoroutine") := by simpa using h2
 have h3' : ¬ (fn.body = none) := by intro e; rw [e] at h3; cases h3
 simp [execOp, resolve, hf, Deferred.ofValue, invoke, callFunc, h1, h2', h3', program, lI, l9, Sem.run]
theorem vC1 {f : FuncId} {caps : List Value} {x : Operand} {xs : List Operand} {vs : List Value} {ts : Array TypeId} {dst : Option Nat} {R : Value → Heap → Prop} (hE : Enters P f) (hf : ev fr x = some (.func (.func f) #[] caps.toArray)) (hx : evs fr xs = some vs) (hN : dstB N dst = true)
  (hc : ∀ w, Sat w0 Wr H w → Calls P f (vs ++ caps).toArray w fun e w' => ∃ v H', e = .returned v ∧ R v H' ∧ Sat w0 Wr H' w')
  (h : ∀ v H', R v H' → sx P N w0 Wr ops rest (match dst with | some d => (d, v) :: fr | none => fr) H' Z) :
  sx P N w0 Wr ops (⟨dst, .call { callee := .value x, args := xs.toArray, argTypes := ts }, ty, pos, after, none⟩ :: rest) fr H Z :=
 vW0 rfl fun a w K Q ha hw hK => by
  unfold Oper.wp
  rw [vD6 hE (ha.evals hx) (ha.eval hf)]
  refine (hc w hw).mono fun e w' he => ?_
  obtain ⟨v, H', rfl, hR, hS⟩ := he
  cases dst with
  | none => exact hK v w' fr H' (h v H' hR) (ha.skip _) hS
  | some d => exact hK v w' _ H' (h v H' hR) (ha.put hN v) hS
end
theorem jI9 (v : Value) (e : TypeId) (size : Nat) (xs : List Value) : Wrs (rowE v e size xs) := fun x hx => by
 unfold rowE at hx
 split at hx
 ·rw [List.mem_singleton.1 hx]; rfl
 ·cases hx
theorem jF1 (v : Value) (e : TypeId) (size : Nat) (xs : List Value) : (rowE v e size xs).filter Ent.wr = rowE v e size xs := (jI9 v e size xs).filter
section
variable {P : Program} {N : Frm} {w0 : World} {Wr : List Nat} {ops : Array Oper} {rest : List Oper} {fr : Fr} {H : Heap} {Z : Fr → Heap → Prop}
variable {d ty : Nat} {pos : String} {after : Array Edge}
theorem jA5 {f : FuncId} {xs : List Operand} {vs : List Value} {ts : Array TypeId} {dst : Option Nat} {R : Value → Heap → Prop} (Hc K : Heap) (hc : Fn P f vs Hc R) (hx : evs fr xs = some vs) (hH : HLe (Hc ++ K) H) (hN : dstB N dst = true)
  (h : ∀ v H', R v H' → sx P N w0 Wr ops rest (match dst with | some d => (d, v) :: fr | none => fr) (H'.filter Ent.wr ++ K) Z) :
  sx P N w0 Wr ops (⟨dst, .call { callee := .value (.func f), args := xs.toArray, argTypes := ts }, ty, pos, after, none⟩ :: rest) fr H Z :=
 jK1 Hc [] K (by rw [lH]; exact hc) hx hH (lN _) Ro.nil hN h
theorem yG3 {t t' : TypeId} {x y : Operand} {k : IntKind} {m n : Int} (hx : ev fr x = some (.int k m)) (hy : ev fr y = some (.int k n)) (r : Int) (hr : max m n = r) (hN : Nat.ble (d + 1) N.n = true)
  (h : sx P N w0 Wr ops rest ((d, .int k r) :: fr) H Z) : sx P N w0 Wr ops (⟨some d, .call { callee := .builtin .max, args := #[x, y], argTypes := #[t, t'] }, ty, pos, after, none⟩ :: rest) fr H Z :=
 jE9 _ hN (fun a w ha _ => by
  subst hr
  have e1 := ha.eval hx
  have e2 := ha.eval hy
  simp [execOp, resolve, invoke, builtin, e1, e2, Builtin.max_, Builtin.max2]
  try (rw [Int.max_def]; split <;> split <;> simp_all <;> omega)) h
end
theorem HLe.toRo {g : Nat} {t : TypeId} {cs : List Value} (A B : Heap) : HLe (A ++ .ro g 0 cs :: B) (A ++ .own g t cs :: B) := fun w0 Wr w h => by
 have hm := h.ents (.own g t cs) (by simp)
 have hro : (Ent.ro g 0 cs).holds w := ⟨Ent.lt hm.1, fun j u hu => by rw [lA, Ent.cell hm.1]; exact hu⟩
 refine ⟨h.only, fun e he => ?_, ?_⟩
 ·rcases List.mem_append.1 he with he | he
  ·exact h.ents e (xI _ he)
  ·rcases List.mem_cons.1 he with rfl | he
   ·exact ⟨hro, fun hh => by cases hh⟩
   ·exact h.ents e (x0 _ (lW _ he))
 ·have hs := List.pairwise_append.1 h.sep
  have hs2 := List.pairwise_cons.1 hs.2.1
  refine List.pairwise_append.2 ⟨hs.1, zN (fun b hb hh => hs2.1 b hb (by simp [Ent.wr])) hs2.2, fun a ha b hb hh => ?_⟩
  rcases List.mem_cons.1 hb with rfl | hb
  ·exact hs.2.2 a ha (.own g t cs) lO (by simp [Ent.wr])
  ·exact hs.2.2 a ha b (lW _ hb) hh
section
variable {P : Program} {N : Frm} {n : Nat} {ds : List Mk} {w0 : World} {Wr : List Nat} {fr : Fr} {H : Heap} {Q : Exit → Act → World → Prop}
theorem jN8 {R : Option Nat} {ds ds' : List Mk} {y : Code} (h : awp P ⟨n, R, ds'⟩ w0 Wr y fr H Q) : nx ⟨n, R, ds'⟩ w0 Wr fr H (Exit.then (wq P ⟨n, R, ds⟩ y Q) Q) .normal := h
theorem vH1 {l : Nat} (h : nx N w0 Wr fr H Q .normal) : awp P N w0 Wr (.label l) fr H Q := fun a w ha hw _ => wpIn_label (h a w ha hw)
theorem vH0 {c : Code} (h : awp P ⟨n, none, ds⟩ w0 Wr c fr H (Exit.noGoto Q)) : awp P ⟨n, none, ds⟩ w0 Wr (.scope c) fr H Q := fun a w ha hw _ => wpIn_wide.2 (wp_scope_straight (vH9 (h a w ha hw)))
theorem kN6 (h : nx N w0 Wr fr H Q .normal) : nx N w0 Wr fr H (Exit.noGoto Q) .normal := h
theorem jF5 (h : nx N w0 Wr fr H Q .ret) : nx N w0 Wr fr H (Exit.noGoto Q) .ret := h
end
end
section
open Go.RowKit
section
variable {P : Program} {N : Frm} {w0 : World} {Wr : List Nat} {ops : Array Oper} {rest : List Oper} {fr : Fr} {H : Heap} {Z : Fr → Heap → Prop} {d ty : Nat} {pos : String} {after : Array Edge}
theorem jO2 {f : FuncId} {xs : List Operand} {vs : List Value} {ts : Array TypeId} {v : Value} (U : Heap) (hc : Fn P f vs U fun u _ => u = v) (hx : evs fr xs = some vs) (hU : HLe U H) (hroU : Ro U) (hN : Nat.ble (d + 1) N.n = true)
  (h : sx P N w0 Wr ops rest ((d, v) :: fr) H Z) :
  sx P N w0 Wr ops (⟨some d, .call { callee := .value (.func f), args := xs.toArray, argTypes := ts }, ty, pos, after, none⟩ :: rest) fr H Z :=
 jP5 (R := fun u H' => u = v ∧ H' = H) hc.1 hx hN (fun w hw => by
  have hu := hU _ _ _ hw
  have hpre : Sat w (wrs U) U w := hu.base
  exact (hc.2 w hpre).mono fun e w' he => by
   obtain ⟨u, H', h1, h2, h3⟩ := he
   have h0 : wrs U = [] := by have := hroU.wrs []; simpa [wrs] using this
   rw [h0] at h3
   exact ⟨u, H, h1, ⟨h2, rfl⟩, hw.bel h3.only.bel⟩) (fun u H' hR => by obtain ⟨rfl, rfl⟩ := hR; exact h)
theorem vE7 (zs : List Value) (n : Nat) : madeCells zs.toArray (n * zs.length) = (List.replicate n zs).flatten.toArray := by
 apply Array.ext'
 simp only [madeCells, Array.toList_map, Array.toList_range]
 induction n with
 | zero => simp
 | succ n ih =>
  have hz : zs.length = 0 ∨ 0 < zs.length := by omega
  rcases hz with hz | hz
  ·have : zs = [] := List.length_eq_zero_iff.1 hz
   subst this
   simp
  rw [List.replicate_succ', List.flatten_append, ← ih, zZ, List.range_add, x8]
  congr 1
  simp only [z6, List.flatten_nil, lH, uJ]
  refine List.ext_getElem (by simp) fun i h1 h2 => ?_
  have hi : i < zs.length := h2
  simp [zU hi, hi, qN n]
theorem kH6 {t e size bytes n : Nat} {x y : Operand} {kl kc : IntKind} {zs : List Value} {z : Value} (ht : P.underlying t = some (.slice e)) (hi : (P.info? e).map (fun i => (i.zero, i.size, i.bytes)) = some (some z, size, bytes)) (hz : z.cells.toList = zs) (hs : zs.length = size)
  (hx : ev fr x = some (.int kl (n : Int))) (hy : ev fr y = some (.int kc (n : Int))) (hby : bytes * n ≤ 281474976710656) (hn : n ≤ maxLen) (hN : Nat.ble (d + 1) N.n = true)
  (h : ∀ g, sx P N w0 Wr ops rest ((d, .slice (some ⟨g, 0, none⟩) n n) :: fr) (.own g e (List.replicate n zs).flatten :: H) Z) :
  sx P N w0 Wr ops (⟨some d, .makeSlice t x y, ty, pos, after, none⟩ :: rest) fr H Z := by
 refine jL0 (R := fun v H' => ∃ g, v = .slice (some ⟨g, 0, none⟩) n n ∧ H' = .own g e (List.replicate n zs).flatten :: H) hN (fun a w ha hw => ?_) (fun v H' hR => by obtain ⟨g, rfl, rfl⟩ := hR; exact h g)
 obtain ⟨i, h1, h2⟩ := Option.map_eq_some_iff.1 hi
 obtain ⟨h3, h4, h5⟩ : i.zero = some z ∧ i.size = size ∧ i.bytes = bytes := by simpa using h2
 have hn' : (n : Int) ≤ 9223372036854775807 := by have : n ≤ 9223372036854775807 := hn; omega
 have hb : (i.bytes : Int) * (n : Int) ≤ 281474976710656 := by
  rw [h5]
  have : ((bytes * n : Nat) : Int) ≤ 281474976710656 := by omega
  rwa [Int.natCast_mul] at this
 have hr := run_make (P := P) w t e i z ht h1 h3 kl kc (n : Int) (n : Int) (by omega) (Int.le_refl _) hb hn'
 have hc : z.cells = zs.toArray := by rw [← hz]
 rw [x9, h4, ← hs, hc, vE7] at hr
 exact ⟨_, _, _, by simp only [execOp, ha.eval hx, ha.eval hy, lI, hr]; rfl, ⟨_, rfl, rfl⟩, hw.alloc _ _⟩
end
theorem kS1 {α : Type} {f : α → List Value} {n : Nat} (hf : ∀ x, (f x).length = n) {v : Value} {x y : α} {j : Nat} (hy : f y = (f x).set j v) (hj : j < n) : ∀ {L : List α} {i : Nat}, L[i]? = some x → (L.flatMap f).set (i * n + j) v = (L.set i y).flatMap f
 | [], i, h => by simp at h
 | z :: r, 0, h => by
  obtain rfl : z = x := by simpa using h
  simp only [xK, qS, xX, hy]
  rw [List.set_append_left _ _ (by rw [hf]; exact hj)]
 | z :: r, i + 1, h => by
  simp only [xX, lU]
  rw [List.set_append_right _ _ (by rw [hf, zZ]; omega), hf, show (i + 1) * n + j - n = i * n + j by rw [zZ]; omega, kS1 hf hy hj (by simpa using h)]
theorem zF9 {a b : Nat} (h : a ≤ b) : Nat.ble a b = true := Nat.ble_eq_true_of_le h
theorem HLe.ownRow {g : Nat} {t : TypeId} {size n : Nat} {cs : List Value} (A B : Heap) (hl : cs.length = n * size) (hn : n ≤ maxLen) : HLe (A ++ .ob g (RowP t size n n cs) :: B) (A ++ .own g t cs :: B) := fun w0 Wr w h => by
 have hm := h.ents (.own g t cs) (by simp)
 have hro : (Ent.ob g (RowP t size n n cs)).holds w := ⟨_, hm.1, cs.toArray, rfl, xB _, hn, by simp [hl], by simp [← hl], hl⟩
 refine ⟨h.only, fun e he => ?_, ?_⟩
 ·rcases List.mem_append.1 he with he | he
  ·exact h.ents e (xI _ he)
  ·rcases List.mem_cons.1 he with rfl | he
   ·exact ⟨hro, fun _ => hm.2 rfl⟩
   ·exact h.ents e (x0 _ (lW _ he))
 ·have hs := h.sep
  simp only [Sep, xV, qG] at hs ⊢
  obtain ⟨h1, ⟨h2, h3⟩, h4⟩ := hs
  refine ⟨h1, ⟨fun b hb _ => h2 b hb (by simp [Ent.wr]), h3⟩, fun a ha b hb => ?_⟩
  rcases List.mem_cons.1 hb with rfl | hb
  ·intro hw
   exact h4 a ha (.own g t cs) lO (by simp [Ent.wr])
  ·exact h4 a ha b (lW _ hb)
theorem HLe.rowRo {g : Nat} {t : TypeId} {size n c : Nat} {cs : List Value} (A B : Heap) : HLe (A ++ .ro g 0 cs :: B) (A ++ .ob g (RowP t size n c cs) :: B) := fun w0 Wr w h => by
 have hm := h.ents (.ob g (RowP t size n c cs)) (by simp)
 obtain ⟨o, ho, cur, rfl, h1, h2, h3, h4, h5⟩ := hm.1
 have hro : (Ent.ro g 0 cs).holds w := ⟨(Array.getElem?_eq_some_iff.1 ho).1, fun j u hu => by
  have hj : j < n * size := by rw [← h5]; exact (List.getElem?_eq_some_iff.1 hu).1
  rw [← h4, qU, if_pos hj] at hu
  rw [lA]
  simp only [World.cell?, ho]
  simpa using hu⟩
 refine ⟨h.only, fun e he => ?_, ?_⟩
 ·rcases List.mem_append.1 he with he | he
  ·exact h.ents e (xI _ he)
  ·rcases List.mem_cons.1 he with rfl | he
   ·exact ⟨hro, fun hh => by cases hh⟩
   ·exact h.ents e (x0 _ (lW _ he))
 ·have hs := h.sep
  simp only [Sep, xV, qG] at hs ⊢
  obtain ⟨h1, ⟨h2, h3⟩, h4⟩ := hs
  refine ⟨h1, ⟨fun b hb hw => h2 b hb (by simp [Ent.wr]), h3⟩, fun a ha b hb => ?_⟩
  rcases List.mem_cons.1 hb with rfl | hb
  ·intro hw
   exact h4 a ha (.ob g (RowP t size n c cs)) lO (by simp [Ent.wr])
  ·exact h4 a ha b (lW _ hb)
theorem RowOk.ro {v : Value} {n : Nat} (h : RowOk v n) : ∃ A c, v = .slice A n c ∧ SlOk A n ∧ ∀ (X Y : Heap) (t : TypeId) (size : Nat) (xs : List Value), HLe (X ++ (roE A xs ++ Y)) (X ++ (rowE (.slice A n c) t size xs ++ Y)) := by
 rcases h with ⟨rfl, rfl⟩ | ⟨g, c, rfl⟩
 ·exact ⟨none, 0, rfl, .inl ⟨rfl, rfl⟩, fun X Y t size xs => HLe.refl _⟩
 ·exact ⟨_, c, rfl, .inr ⟨g, 0, rfl⟩, fun X Y t size xs => HLe.rowRo X Y⟩
section
variable {P : Program} {N : Frm} {w0 w : World} {Wr : List Nat} {ops : Array Oper} {rest : List Oper} {fr : Fr} {H : Heap} {Z : Fr → Heap → Prop} {d ty : Nat} {pos : String} {after : Array Edge}
theorem wC0 {t e n g o len c : Nat} {x lo hi mx : Operand} {k1 k2 k3 : IntKind} {i j m : Nat} (o' : Nat) (ht : P.underlying t = some (.slice e)) (hs : tySize P e = some n) (hx : ev fr x = some (.slice (some ⟨g, o, none⟩) len c)) (hl : ev fr lo = some (.int k1 (i : Int))) (hh : ev fr hi = some (.int k2 (j : Int))) (hm : ev fr mx = some (.int k3 (m : Int))) (h0 : i < m) (h1 : i ≤ j) (h2 : j ≤ m) (h3 : m ≤ c) (ho : o + i * n = o') (hN : Nat.ble (d + 1) N.n = true)
  (h : sx P N w0 Wr ops rest ((d, .slice (some ⟨g, o', none⟩) (j - i) (m - i)) :: fr) H Z) : sx P N w0 Wr ops (⟨some d, .slice t x (some lo) (some hi) (some mx), ty, pos, after, none⟩ :: rest) fr H Z :=
 jE9 (.slice (some ⟨g, o', none⟩) (j - i) (m - i)) hN (fun a w ha _ => by
  have hb1 : ∀ code, (Instr.sliceBound (.int k3 (m : Int)) c code).run P w = .ok m w := fun code => by
   have := jI1 (P := P) (k := k3) (i := (m : Int)) (y := c) (code := code) (w := w) ⟨by omega, by omega⟩
   simpa using this
  have hb2 : ∀ code, (Instr.sliceBound (.int k2 (j : Int)) m code).run P w = .ok j w := fun code => by
   have := jI1 (P := P) (k := k2) (i := (j : Int)) (y := m) (code := code) (w := w) ⟨by omega, by omega⟩
   simpa using this
  have hb3 : ∀ code, (Instr.sliceBound (.int k1 (i : Int)) j code).run P w = .ok i w := fun code => by
   have := jI1 (P := P) (k := k1) (i := (i : Int)) (y := j) (code := code) (w := w) ⟨by omega, by omega⟩
   simpa using this
  have hne : ¬ m = i := by omega
  subst ho
  simp [execOp, Instr.sliceAt, Instr.slice, Instr.sliceBounds, ha.eval hx, ha.eval hl, ha.eval hh, ha.eval hm, lI, run_underlying ht, jC0 hs, hb1, hb2, hb3, hne, jI3]) h
theorem kB9 {t t' e : TypeId} {x : Operand} {A : Option Addr} {n c : Nat} (ht : P.underlying t = some (.slice e)) (hx : ev fr x = some (.slice A n c)) (hN : Nat.ble (d + 1) N.n = true)
  (h : sx P N w0 Wr ops rest ((d, .bool A.isNone) :: fr) H Z) : sx P N w0 Wr ops (⟨some d, .binOp .eql t x (.const (.slice none 0 0)) t', ty, pos, after, none⟩ :: rest) fr H Z :=
 jE9 _ hN (fun a w ha _ => by
  have e' : a.eval (.const (.slice none 0 0)) = .slice none 0 0 := rfl
  have hq : (Op.equal t (.slice A n c) (.slice none 0 0)).run P w = .ok A.isNone w := by
   unfold Op.equal Op.maxDepth Op.equalIn
   cases A <;> simp [lI, run_underlying ht]
  have hg : (eqGuard .eql t x (.const (.slice none 0 0)) (.slice A n c) (.slice none 0 0)).run P w = .ok () w := by
   unfold eqGuard
   split <;> rfl
  simp only [execOp, ha.eval hx, e', lI, hg, lQ, binOp]
  simp [hq]) h
theorem jI4 {t e n : Nat} (ht : P.underlying t = some (.slice e)) (hs : tySize P e = some n) (hN : Nat.ble (d + 1) N.n = true)
  (h : ∀ g, sx P N w0 Wr ops rest ((d, .slice (some ⟨g, 0, none⟩) 0 0) :: fr) (.own g e [] :: H) Z) : sx P N w0 Wr ops (⟨some d, .buildSlice t 0 #[], ty, pos, after, none⟩ :: rest) fr H Z := by
 refine jL0 (R := fun v H' => ∃ g, v = .slice (some ⟨g, 0, none⟩) 0 0 ∧ H' = .own g e [] :: H) hN (fun a w ha hw => ?_) (fun v H' hR => by obtain ⟨g, rfl, rfl⟩ := hR; exact h g)
 refine ⟨_, w.alloc (.cells #[] e), _, ?_, ⟨w.heap.size, rfl, rfl⟩, hw.alloc [] e⟩
 simp [execOp, Instr.buildSlice, lI, run_underlying ht, jC0 hs, Instr.fill, newRow, newObj, show Array.range 0 = #[] from rfl]
 rfl
theorem jU7 {f : FuncId} {caps : List Value} {x : Operand} {xs : List Operand} {vs : List Value} {ts : Array TypeId} {v : Value} (U : Heap) (hc : Fn P f (vs ++ caps) U fun u _ => u = v) (hf : ev fr x = some (.func (.func f) #[] caps.toArray)) (hx : evs fr xs = some vs) (hU : HLe U H) (hroU : Ro U) (hN : Nat.ble (d + 1) N.n = true)
  (h : sx P N w0 Wr ops rest ((d, v) :: fr) H Z) :
  sx P N w0 Wr ops (⟨some d, .call { callee := .value x, args := xs.toArray, argTypes := ts }, ty, pos, after, none⟩ :: rest) fr H Z :=
 vC1 (R := fun u H' => u = v ∧ H' = H) hc.1 hf hx hN (fun w hw => by
  have hu := hU _ _ _ hw
  have hpre : Sat w (wrs U) U w := hu.base
  exact (hc.2 w hpre).mono fun e w' he => by
   obtain ⟨u, H', h1, h2, h3⟩ := he
   have h0 : wrs U = [] := by have := hroU.wrs []; simpa [wrs] using this
   rw [h0] at h3
   exact ⟨u, H, h1, ⟨h2, rfl⟩, hw.bel h3.only.bel⟩) (fun u H' hR => by obtain ⟨rfl, rfl⟩ := hR; exact h)
theorem zA7 {t t' : TypeId} {x y : Operand} {k : IntKind} {m n : Int} (hx : ev fr x = some (.int k m)) (hy : ev fr y = some (.int k n)) (r : Int) (hr : min m n = r) (hN : Nat.ble (d + 1) N.n = true)
  (h : sq P N w0 Wr ops rest ((d, .int k r) :: fr) H Z) : sq P N w0 Wr ops (⟨some d, .call { callee := .builtin .min, args := #[x, y], argTypes := #[t, t'] }, ty, pos, after, none⟩ :: rest) fr H Z :=
 jM5 _ hN (fun a w ha _ => by
  subst hr
  have e1 := ha.eval hx
  have e2 := ha.eval hy
  simp [execOp, resolve, invoke, builtin, e1, e2, lI, Builtin.min_, Builtin.min2]
  try (rw [Int.min_def]; split <;> split <;> simp_all <;> omega)) h
theorem kF6 {p : Prop} {l : List Oper} (hp : ∀ w, Sat w0 Wr H w → p) (h : p → sx P N w0 Wr ops l fr H Z) : sx P N w0 Wr ops l fr H Z := fun Q hQ a w ha hw => h (hp w hw) Q hQ a w ha hw
theorem yD9 {p : Prop} {c : Code} {Q : Exit → Act → World → Prop} (hp : ∀ w, Sat w0 Wr H w → p) (h : p → awp P N w0 Wr c fr H Q) : awp P N w0 Wr c fr H Q := fun a w ha hw => h (hp w hw) a w ha hw
theorem row_cap {A : Option Addr} {n c size : Nat} {e : TypeId} {xs : List Value} (hv : RowOk (.slice A n c) n) (hin : ∀ x ∈ rowE (.slice A n c) e size xs, x ∈ H) (hw : Sat w0 Wr H w) : n ≤ c ∧ c ≤ maxLen := by
 rcases hv with ⟨h, _⟩ | ⟨g, c', h⟩
 ·simp only [Value.slice.injEq] at h
  obtain ⟨_, rfl, rfl⟩ := h
  exact ⟨xB _, xD _⟩
 ·simp only [Value.slice.injEq] at h
  obtain ⟨rfl, _, rfl⟩ := h
  obtain ⟨o, _, cur, _, h1, h2, _⟩ := (hw.ents _ (hin _ (List.mem_singleton.2 rfl))).1
  exact ⟨h1, h2⟩
theorem vQ7 {A : Option Addr} {n size : Nat} {xs : List Value} {T : Heap} (hA : jH6 A n) (hT : 0 < n → T = roE A xs) (hl : xs.length = n * size) (hnil : A = none → n = 0) (hle : HLe T H) (hw : Sat w0 Wr H w) : Rd w size A n xs := by
 refine ⟨hl, hnil, fun hn => ?_⟩
 obtain ⟨g, o, rfl⟩ := hA hn
 obtain rfl := hT hn
 have h := ((hle _ _ _ hw).ents (.ro g o xs) lO).1
 exact ⟨g, o, rfl, h.1, h.2⟩
end
theorem HLe.view {g o k : Nat} {xs ys : List Value} {H : Heap} (hm : Ent.ro g o xs ∈ H) (hys : ∀ j u, ys[j]? = some u → xs[k + j]? = some u) : HLe (.ro g (o + k) ys :: H) H := fun w0 Wr w h => by
 have hh := (h.ents _ hm).1
 refine ⟨h.only, fun e he => ?_, zN (fun b hb hw => ?_) h.sep⟩
 ·rcases List.mem_cons.1 he with rfl | he
  ·exact ⟨⟨hh.1, fun j u hu => by rw [qI]; exact hh.2 (k + j) u (hys j u hu)⟩, fun hw => by cases hw⟩
  ·exact h.ents e he
 ·have hbw : b.wr = true := by simpa [Ent.wr] using hw
  obtain ⟨i, hi⟩ := List.mem_iff_getElem?.1 hm
  obtain ⟨j, hj⟩ := List.mem_iff_getElem?.1 hb
  have hne : i ≠ j := fun e => by
   rw [e, hj] at hi
   rw [lV hi] at hbw
   cases hbw
  have hp := h.sep
  rw [Sep, zO] at hp
  obtain ⟨hi1, hi2⟩ := List.getElem?_eq_some_iff.1 hi
  obtain ⟨hj1, hj2⟩ := List.getElem?_eq_some_iff.1 hj
  rcases Nat.lt_or_gt_of_ne hne with hlt | hlt
  ·have := hp i j hi1 hj1 hlt (by rw [hi2, hj2]; simp [hbw])
   rw [hi2, hj2] at this
   exact this
  ·have := hp j i hj1 hi1 hlt (by rw [hi2, hj2]; simp [hbw])
   rw [hi2, hj2] at this
   exact this.symm
theorem HLe.toEnd (X R Y : Heap) : HLe ((X ++ Y) ++ R) (X ++ (R ++ Y)) := fun _ _ _ hw => hw.perm (by rw [xF]; exact qP X qX)
theorem jX7 {P : Program} {n : Nat} {ro : Option Nat} {w0 : World} {Wr : List Nat} {fr : Fr} {H : Heap} {fn : Func} {R : Value → Heap → Prop} {r s t q : ResultVar} {v u x y : Value} (HH : Heap) (hr : fn.results = #[r, s, t, q]) (h1 : ResOk P fr H r v) (h2 : ResOk P fr H s u) (h3 : ResOk P fr H t x) (h4 : ResOk P fr H q y) (hk : HLe HH H) (hR : R (.tuple #[v, u, x, y]) HH) : nx ⟨n, ro, []⟩ w0 Wr fr H (bodyPost P fn (jR4 w0 Wr R)) .ret :=
 fun a w ha hw => ⟨ha.defers, _, by
  have e1 := h1.run' ha hw
  have e2 := h2.run' ha hw
  have e3 := h3.run' ha hw
  have e4 := h4.run' ha hw
  rw [jN7]
  simp [hr, lI, e1, e2, e3, e4], _, HH, rfl, hR, hk _ _ _ hw⟩
section
variable {P : Program} {N : Frm} {w0 : World} {Wr : List Nat} {ops : Array Oper} {C : World → Prop} {Q Q' : Exit → Act → World → Prop} {fr : Fr} {H : Heap}
theorem yK6 {x : Nat × Bool} {o : Oper} {K : Act → World → Prop} {a : Act} {w : World} (ho : ops[x.1]? = some o) (h : vst P ops C Q x K a w) : vst P ops C Q' x K a w := by
 unfold vst at h ⊢
 split at h
 ·exact h
 ·exact kJ3 ho h
def QF (P : Program) (ops : Array Oper) (Q : Exit → Act → World → Prop) (f : Nat) : Exit → Act → World → Prop := fun _ a w => wpOp P ops (QN Q) f (fun a w => QN Q .normal a w) a w
theorem yF0 {f : Nat} (hsel : ∀ (j : Nat) (o : Oper) cs b, ops[j]? = some o → o.op ≠ .select cs b) (hedge : ∀ (j : Nat) (o : Oper), ops[j]? = some o → ∀ e ∈ o.after, Region.binds .any e = true → e.on < ops.size) :
  ∀ (n : Nat) (ord : List (Nat × Bool)) (listed : Array Bool) (a : Act) (w : World), ord.length = n → C w → Left ops ((ord ++ [(f, false)]).map Prod.fst) listed →
  (ord.Pairwise fun x y => Dep ops x.1 y.1 ∨ MayV ops x y) → (∀ x ∈ ord, Dep ops x.1 f) → Wv P ops C (QF P ops Q f) ord a w → wpAny P .any ops (QN Q) (n + 1) listed a w := by
 intro n
 induction n with
 | zero =>
  intro ord listed a w hl hC hL hp hd h
  obtain rfl := qT hl
  refine ⟨fun hnil => ?_, fun j hj => ?_⟩
  ·have := hL.first hedge
   rw [hnil] at this
   cases this
  ·obtain ⟨h0, o, ho, _⟩ := mem_ready.1 hj
   have hjm := (hL.mem j (Array.getElem?_eq_some_iff.1 ho).1).1 h0
   obtain rfl : j = f := by simpa using hjm
   have hL' : Left ops [] (listed.setIfInBounds j true) := Left.step (p := []) (r := []) (by simpa using hL) hedge hj
   refine wpOp_mono (fun b w' hb => ?_) h.2
   refine ⟨List.eq_nil_iff_forall_not_mem.2 fun k hk => ?_, hb⟩
   obtain ⟨h0, o, ho, _⟩ := mem_ready.1 hk
   have := (hL'.mem k (Array.getElem?_eq_some_iff.1 ho).1).1 h0
   simp at this
 | succ n ih =>
  intro ord listed a w hl hC hL hp hd h
  refine ⟨fun hnil => ?_, fun j hj => ?_⟩
  ·exfalso
   match ord, hl with
   | x :: r, _ =>
    have := hL.first hedge
    rw [hnil] at this
    cases this
  ·have hdeps := hL.deps hedge hj
   obtain ⟨h0, o, ho, hall⟩ := mem_ready.1 hj
   have hjm := (hL.mem j (Array.getElem?_eq_some_iff.1 ho).1).1 h0
   rw [x8, xH] at hjm
   rcases hjm with hjm | hjm
   ·obtain ⟨bj, hjb⟩ := kY4 hjm
    obtain ⟨p, r, rfl⟩ := List.append_of_mem hjb
    have hpp := List.pairwise_append.1 hp
    have hswap : ∀ x ∈ p, MayV ops x (j, bj) := fun x hx => by
     rcases hpp.2.2 x hx (j, bj) lO with hd | hd
     ·exact absurd (List.mem_map.2 ⟨x, xI _ (xI _ hx), rfl⟩) (hdeps x.1 hd)
     ·exact hd
    have hL' : Left ops (((p ++ r) ++ [(f, false)]).map Prod.fst) (listed.setIfInBounds j true) := by
     rw [xF, x8]
     exact Left.step (by simpa using hL) hedge hj
    have hv : vst P ops C Q (j, bj) (Wv P ops C (QF P ops Q f) (p ++ r)) a w := yK6 ho (kL6 hsel p a w hswap h)
    refine wpOp_mono (fun b w' hb => ih (p ++ r) _ b w' (by simp at hl ⊢; omega) hb.1 hL' ?_ (fun x hx => hd x ?_) hb.2) (vO6 hC hv)
    ·exact List.pairwise_append.2 ⟨hpp.1, (List.pairwise_cons.1 hpp.2.1).2, fun x hx y hy => hpp.2.2 x hx y (lW _ hy)⟩
    ·rcases List.mem_append.1 hx with hx | hx
     ·exact xI _ hx
     ·exact x0 _ (lW _ hx)
   ·obtain rfl : j = f := by simpa using hjm
    match ord, hl with
    | x :: r, _ =>
     exact absurd (List.mem_map.2 ⟨x, lO, rfl⟩) (hdeps x.1 (hd x lO))
def yA2 (l : List Oper) (ls : List (Nat × Bool)) (f : Nat) : Bool := vG7 l (ls ++ [(f, false)]) && vB l.toArray (ancs l) ls && ls.all fun x => ((ancs l).getD f []).contains x.1
theorem kP4 {id : Nat} {l : List Oper} {a : Act} {w : World} (ls : List (Nat × Bool)) (f : Nat) (hm : P.follows .mixedOrders = true) (hB : yA2 l ls f = true) (hC : C w.drew) (h : Wv P l.toArray C (QF P l.toArray Q f) ls a w.drew) : wq P N (.region id l.toArray true) Q a w := by
 simp only [yA2, vG7, xW, decide_eq_true_eq] at hB
 obtain ⟨⟨⟨⟨⟨⟨hsel, hlen⟩, hnd⟩, hext⟩, _⟩, hpairs⟩, hlast⟩ := hB
 have hlen := x7 hlen
 obtain ⟨he1, he2⟩ := kD8 hext (by simp) hnd
 have hall : ∀ k, k < l.length → k ∈ (ls ++ [(f, false)]).map Prod.fst := vH5 l.length _ hnd (by simpa using hlen) (fun x hx => by simpa using he2 x hx)
 have hedge : ∀ (j : Nat) (o : Oper), l.toArray[j]? = some o → ∀ e ∈ o.after, Region.binds .any e = true → e.on < l.toArray.size := fun j o ho e he hb =>
  jW2 _ _ hext (by simp) j (hall j (by simpa using (Array.getElem?_eq_some_iff.1 ho).1)) o ho e he hb
 refine kL3 hm ?_
 have hA := kH3 l
 have := yF0 (P := P) (Q := Q) (C := C) (f := f) (Region.noSelect_spec hsel) hedge ls.length ls (Array.replicate l.toArray.size false) a w.drew rfl hC
  ⟨hnd, by simp, he2, fun k hk => by
   have h1 : k ∈ (ls ++ [(f, false)]).map Prod.fst := hall k (by simpa using hk)
   have hk' : k < l.length := by simpa using hk
   have h2 : (Array.replicate l.toArray.size false).getD k true = false := by simp [zH, hk']
   exact ⟨fun _ => h1, fun _ => h2⟩, he1, fun j o ho hj => absurd (hall j (by simpa using (Array.getElem?_eq_some_iff.1 ho).1)) hj⟩
  (yL0 hA hpairs) (fun x hx => hA f x.1 (by have := List.all_eq_true.1 hlast x hx; simpa using this)) h
 have e : ls.length + 1 = l.toArray.size := by simpa using hlen
 rw [e] at this
 exact this
theorem jS4 {id : Nat} {l : List Oper} (H0 : Heap) (ls : List (Nat × Bool)) (f : Nat) {o : Oper} (ho : l.toArray[f]? = some o) (hm : P.follows .mixedOrders = true) (hB : yA2 l ls f = true) (hk : HLe H0 H)
  (h : ∀ Z : Fr → Heap → Prop, (∀ fr H, nx N w0 Wr fr H Q .normal → Z fr H) → tw P N w0 Wr l.toArray H0 ls fr H fun fr' H' => sx P N w0 Wr l.toArray [o] fr' H' Z) : awp P N w0 Wr (.region id l.toArray true) fr H Q :=
 fun a w ha hw => kP4 (C := Sat w0 Wr H0) ls f hm hB (hk _ _ _ hw.drew)
  (h (fun fr H => nx N w0 Wr fr H Q .normal) (fun _ _ h => h) (QF P l.toArray Q f) (fun fr' H' a w hz hf hs => by
   have h1 := hz (QN Q) (fun fr2 H2 a w hy hf2 hs2 => ⟨rfl, hy a w hf2 hs2⟩) a w hf hs
   show wpOp P l.toArray (QN Q) f (fun a w => QN Q .normal a w) a w
   unfold wpOp
   simp only [ho]
   unfold wpList at h1
   split
   ·rename_i hw'
    rw [if_pos hw'] at h1
    exact h1.imp (Oper.wp_mono fun a w hh => hh) (fun h => h)
   ·rename_i hw'
    rw [if_neg hw'] at h1
    exact h1) a w.drew ha hw.drew)
theorem jY7 {id : Nat} {l : List Oper} {y : Code} (H0 : Heap) (ls : List (Nat × Bool)) (f : Nat) {o : Oper} (ho : l.toArray[f]? = some o) (hm : P.follows .mixedOrders = true) (hB : yA2 l ls f = true) (hk : HLe H0 H)
  (h : ∀ Z : Fr → Heap → Prop, (∀ fr H, awp P N w0 Wr y fr H Q → Z fr H) → tw P N w0 Wr l.toArray H0 ls fr H fun fr' H' => sx P N w0 Wr l.toArray [o] fr' H' Z) : awp P N w0 Wr (.seq (.region id l.toArray true) y) fr H Q :=
 aS (jS4 H0 ls f ho hm hB hk fun Z hZ => h Z fun fr H hy => hZ fr H hy)
end
end
section
open Go.RowKit Go.Lib
section
variable {P : Program} {N : Frm} {w0 w : World} {Wr : List Nat} {ops : Array Oper} {rest : List Oper} {fr : Fr} {H : Heap} {Z : Fr → Heap → Prop} {d ty : Nat} {pos : String} {after : Array Edge}
theorem vC8 (m : List UInt8) : strCells (str m) = bv m := by simp [strCells, str, bv]
theorem vW9 {t u e : TypeId} {i : TypeInfo} (ht : P.underlying t = some (.slice e)) (hu : P.underlying u = some .string) (hi : P.info? e = some i) (hz : i.zero = some (.int .u8 0)) (hsize : i.size = 1) (hby : i.bytes = 1)
  {v : Value} {n : Nat} {xs : List Value} (hown : w.ownsRow 0 e 1 v n xs) (s : ByteArray) (hl : n + s.size ≤ 140737488355328) :
  ∃ v' w', (Builtin.append_ #[t, u] ty #[v, .string s]).run P w = .ok v' w' ∧ w'.ownsRow 0 e 1 v' (n + s.size) (xs ++ strCells s) ∧ w.grownBy w' v.ownBlock ∧ (v'.ownBlock = v.ownBlock ∨ v'.ownBlock = some w.heap.size) := by
 obtain ⟨v', w', h1, h2, h3, _⟩ := run_append_own_string (P := P) w 0 t u ty e i ht hu hi hz hsize hby v n xs hown s (by show _ ≤ 9223372036854775807; omega) hl (xD _)
 refine ⟨v', w', h1, h2, h3, ?_⟩
 have hxl : xs.length = n := by simpa using hown.1
 rcases hown.2 with ⟨rfl, rfl⟩ | ⟨g, cap, cur, rfl, hbg, hg, hnc, hcm, hcs, htake⟩
 ·by_cases hm : s.size = 0
  ·have hf := run_firstCells_string (P := P) w 1 s
   rw [hm] at hf
   have h4 : (Builtin.append_ #[t, u] ty #[.slice none 0 0, .string s]).run P w = .ok (.slice none 0 0) w := by
    simp [Builtin.append_, run_underlying ht, run_underlying hu, sizeOf, typeInfo, hi, hsize, Builtin.lenOf, hm, hf]
   rw [h4] at h1
   injection h1 with h1 _
   subst h1
   exact .inl rfl
  ·have hr := run_append_nil_string (P := P) w t u ty e i (.int .u8 0) ht hu hi hz s (by omega) (by omega) (by rw [hby]; omega)
   rw [hr] at h1
   injection h1 with h1 _
   subst h1
   exact .inr rfl
 ·by_cases hroom : n + s.size ≤ cap
  ·have hcs' : cur.size = cap := by simpa using hcs
   have hr := run_append_room_string (P := P) w t u ty e i ht hu hi hsize g n cap cur hg s hroom (by omega)
   rw [hr] at h1
   injection h1 with h1 _
   subst h1
   exact .inl rfl
  ·have holds : ∀ j u, xs[j]? = some u → w.cell? ((⟨g, 0, none⟩ : Addr).add j) = some u := hown.cells (g := g) rfl
   have hr := run_append_grow_string (P := P) w t u ty e i (.int .u8 0) ht hu hi hz ⟨g, 0, none⟩ n cap xs (by rw [hsize]; simpa using hxl) holds s (by omega) (by omega) (by rw [hby]; exact growslice_fits (by omega) (by omega))
   rw [hr] at h1
   injection h1 with h1 _
   subst h1
   exact .inr rfl
theorem kH7 {t u e : TypeId} {s x : Operand} {v : Value} {l m : List UInt8} (H1 : Heap) (ht : P.underlying t = some (.slice e)) (hu : P.underlying u = some .string) (hi : (P.info? e).map (fun i => (i.zero, i.size, i.bytes)) = some (some (.int .u8 0), 1, 1)) (hs : ev fr s = some v) (hv : RowOk v l.length) (hx : ev fr x = some (.string (str m)))
  (hl : l.length + m.length ≤ 140737488355328) (hH : HLe (H1 ++ rowE v e 1 (bv l)) H) (hN : Nat.ble (d + 1) N.n = true)
  (h : ∀ v', RowOk v' (l ++ m).length → sx P N w0 Wr ops rest ((d, v') :: fr) (H1 ++ rowE v' e 1 (bv (l ++ m))) Z) :
  sx P N w0 Wr ops (⟨some d, .call { callee := .builtin .append, args := #[s, x], argTypes := #[t, u] }, ty, pos, after, none⟩ :: rest) fr H Z := by
 obtain ⟨i, h1, h2⟩ := Option.map_eq_some_iff.1 hi
 obtain ⟨h3, h4, h5⟩ : i.zero = some (.int .u8 0) ∧ i.size = 1 ∧ i.bytes = 1 := by simpa using h2
 refine jL0 (R := fun v' H' => RowOk v' (l ++ m).length ∧ H' = H1 ++ rowE v' e 1 (bv (l ++ m))) hN (fun a w ha hw => ?_) (fun v' H' hR => by obtain ⟨h2, rfl⟩ := hR; exact h v' h2)
 have hw' := (HLe.trans (HLe.swap H1 (rowE v e 1 (bv l))) hH) _ _ _ hw
 have hown := kG0 hv (by simp [jH3]) hw'
 obtain ⟨v', w', hrun, g2, g4, g5⟩ := vW9 (P := P) (ty := ty) ht hu h1 h3 h4 h5 hown (str m) (by rw [str_size]; exact hl)
 rw [vC8, ← jN1, str_size] at g2
 refine ⟨v', w', _, ?_, ⟨by rw [lX]; exact (jM7 g2).1, rfl⟩, (HLe.swap _ _) _ _ _ (hw'.app hv g2 g4 g5)⟩
 simp only [execOp, resolve, uE, xN, qJ, ha.eval hs, ha.eval hx, lI, l9, lQ, invoke, builtin, hrun]
theorem kV8 {f : FuncId} {xs : List Operand} {vs : List Value} {ts : Array TypeId} {dst : Option Nat} {R : Value → Heap → Prop} (U : Heap) (hc : Fn P f vs U R) (hx : evs fr xs = some vs) (hU : U.Sublist H) (hroU : Ro U) (hN : dstB N dst = true)
  (h : ∀ v H', R v H' → sx P N w0 Wr ops rest (match dst with | some d => (d, v) :: fr | none => fr) (H'.filter Ent.wr ++ H) Z) :
  sx P N w0 Wr ops (⟨dst, .call { callee := .value (.func f), args := xs.toArray, argTypes := ts }, ty, pos, after, none⟩ :: rest) fr H Z :=
 jA5 U H hc hx ((HLe.swap H U).trans (HLe.dup hU hroU)) hN h
theorem Sat.callV {w' : World} {H' : Heap} (hw : Sat w0 Wr H w) (h3 : Sat w [] H' w') : Sat w0 Wr (H'.filter Ent.wr ++ H) w' := by
 have hH := hw.bel h3.only.bel
 have hfr : ∀ e ∈ H'.filter Ent.wr, w.heap.size ≤ e.g := fun e he => by
  obtain ⟨h1, h2⟩ := List.mem_filter.1 he
  rcases (h3.ents e h1).2 h2 with h | h
  ·cases h
  ·exact h
 refine ⟨hH.only, fun e he => ?_, List.pairwise_append.2 ⟨h3.sep.sublist (List.filter_sublist), hw.sep, fun a ha b hb _ => ?_⟩⟩
 ·rcases List.mem_append.1 he with he | he
  ·exact ⟨(h3.ents e (List.mem_filter.1 he).1).1, fun _ => .inr (zM hw.only.size (hfr e he))⟩
  ·exact hH.ents e he
 ·have h1 := hfr a ha
  have h2 := Ent.lt (hw.ents b hb).1
  omega
theorem jU6 {f : FuncId} {xs : List Operand} {vs : List Value} {ts : Array TypeId} {dst : Option Nat} {R : Value → Heap → Prop} (U : Heap) (hc : Fn P f vs U R) (hx : evs fr xs = some vs) (hU : HLe U H) (hroU : Ro U) (hN : dstB N dst = true)
  (h : ∀ v H', R v H' → sx P N w0 Wr ops rest (match dst with | some d => (d, v) :: fr | none => fr) (H'.filter Ent.wr ++ H) Z) :
  sx P N w0 Wr ops (⟨dst, .call { callee := .value (.func f), args := xs.toArray, argTypes := ts }, ty, pos, after, none⟩ :: rest) fr H Z :=
 jP5 (R := fun u H2 => ∃ H', R u H' ∧ H2 = H'.filter Ent.wr ++ H) hc.1 hx hN (fun w hw => by
  have hpre : Sat w (wrs U) U w := (hU _ _ _ hw).base
  exact (hc.2 w hpre).mono fun e w' he => by
   obtain ⟨u, H', h1, h2, h3⟩ := he
   have h0 : wrs U = [] := by have := hroU.wrs []; simpa [wrs] using this
   rw [h0] at h3
   exact ⟨u, _, h1, ⟨H', h2, rfl⟩, hw.callV h3⟩) (fun u H2 hR => by obtain ⟨H', hR, rfl⟩ := hR; exact h u H' hR)
end
theorem kK0 {A : Option Addr} {n c : Nat} (hle : ∀ (X Y : Heap) (t : TypeId) (size : Nat) (xs : List Value), HLe (X ++ (roE A xs ++ Y)) (X ++ (rowE (.slice A n c) t size xs ++ Y))) (X : Heap) (t : TypeId) (size : Nat) (xs : List Value) : HLe (roE A xs) (X ++ rowE (.slice A n c) t size xs) := by
 have h := hle X [] t size xs
 simp only [lH] at h
 exact (HLe.sub (lP X _)).trans h
end
section
open Go.RowKit
structure SlIn (A : Option Addr) (n c : Nat) : Prop where
 ok : SlOk A n
 cap : n ≤ c
 none : A = Option.none → c = 0
theorem SlIn.arg {A : Option Addr} {n c : Nat} (h : SlIn A n c) : jH6 A n := h.ok.arg
theorem SlIn.nil {A : Option Addr} {n c : Nat} (h : SlIn A n c) (ha : A = Option.none) : n = 0 := by
 rcases h.ok with ⟨_, h0⟩ | ⟨g, o, h0⟩
 ·exact h0
 ·rw [ha] at h0; cases h0
def wS2 (A : Option Addr) (k size : Nat) (A' : Option Addr) (m : Nat) : Prop := (A = Option.none → A' = Option.none) ∧ (∀ g o, A = some ⟨g, o, Option.none⟩ → ∃ o', A' = some ⟨g, o', Option.none⟩ ∧ (0 < m → o' = o + k * size))
theorem yP0 {w : World} {size n i : Nat} {A : Option Addr} {xs : List Value} (h : Rd w size A n xs) (hi : i ≤ n) : Rd w size A i (xs.take (i * size)) := by
 obtain ⟨h1, h2, h3⟩ := h
 have := uN size hi
 refine ⟨by rw [xS, h1]; omega, fun ha => by have := h2 ha; omega, fun hn => ?_⟩
 obtain ⟨g, o, h4, h5, h6⟩ := h3 (by omega)
 refine ⟨g, o, h4, h5, fun j u hu => h6 j u ?_⟩
 rw [qU] at hu
 split at hu
 ·exact hu
 ·cases hu
section
variable {P : Program} {N : Frm} {w0 w : World} {Wr : List Nat} {ops : Array Oper} {rest : List Oper} {fr : Fr} {H : Heap} {Z : Fr → Heap → Prop} {d ty : Nat} {pos : String} {after : Array Edge}
theorem wV0 {t e size n c i : Nat} {x l m : Operand} {A : Option Addr} (ht : P.underlying t = some (.slice e)) (hs : tySize P e = some size) (hA : SlIn A n c) (hx : ev fr x = some (.slice A n c)) (hl : ev fr l = some (.int .i64 (i : Int))) (hm : ev fr m = some (.int .i64 (i : Int))) (hi : i ≤ c) (hN : Nat.ble (d + 1) N.n = true)
  (h : sx P N w0 Wr ops rest ((d, .slice A i i) :: fr) H Z) : sx P N w0 Wr ops (⟨some d, .slice t x none (some l) (some m), ty, pos, after, none⟩ :: rest) fr H Z :=
 jE9 (.slice A i i) hN (fun a w ha _ => by
  have e1 := ha.eval hx
  have e2 := ha.eval hl
  have e3 := ha.eval hm
  have b1 : ∀ code, (Instr.sliceBound (.int .i64 (i : Int)) c code).run P w = .ok i w := fun code => by
   have := jI1 (P := P) (k := .i64) (i := (i : Int)) (y := c) (code := code) (w := w) (by omega)
   simpa using this
  have b2 : ∀ code, (Instr.sliceBound (.int .i64 (i : Int)) i code).run P w = .ok i w := fun code => by
   have := jI1 (P := P) (k := .i64) (i := (i : Int)) (y := i) (code := code) (w := w) (by omega)
   simpa using this
  have hb : (Instr.sliceBounds true n c none (some (.int .i64 (i : Int))) (some (.int .i64 (i : Int)))).run P w = .ok (0, i, i) w := by
   simp [Instr.sliceBounds, lI, b1, b2]
  simp only [execOp, Instr.sliceAt, Instr.slice, e1, e2, e3, lI, run_underlying ht, lQ, uC, qA, hb, l9, jC0 hs]
  rcases hA.ok with ⟨rfl, rfl⟩ | ⟨g, o, rfl⟩
  ·have := hA.none rfl
   obtain rfl : i = 0 := by omega
   simp
  ·simp [jI3]) h
theorem wC2 {t e size n c : Nat} {x : Operand} {lo hi : Option Operand} {i j : Nat} {A : Option Addr} (ht : P.underlying t = some (.slice e)) (hs : tySize P e = some size) (hA : SlIn A n c) (hx : ev fr x = some (.slice A n c)) (hl : bnd fr 0 lo = some (i : Int)) (hh : bnd fr (n : Int) hi = some (j : Int)) (h1 : i ≤ j) (h2 : j ≤ c) (hN : Nat.ble (d + 1) N.n = true)
  (h : ∀ A', SlIn A' (j - i) (c - i) → wS2 A i size A' (j - i) → sx P N w0 Wr ops rest ((d, .slice A' (j - i) (c - i)) :: fr) H Z) : sx P N w0 Wr ops (⟨some d, .slice t x lo hi none, ty, pos, after, none⟩ :: rest) fr H Z := by
 rcases hA.ok with ⟨rfl, rfl⟩ | ⟨g, o, rfl⟩
 ·have hc := hA.none rfl
  subst hc
  obtain rfl : j = 0 := by omega
  obtain rfl : i = 0 := by omega
  refine jE9 (.slice none 0 0) hN (fun a w ha _ => ?_) (h none ⟨.inl ⟨rfl, rfl⟩, xB _, fun _ => rfl⟩ ⟨fun _ => rfl, fun g o h => by cases h⟩)
  have hb := jI5 (P := P) (isS := true) (len := 0) (cap := 0) (w := w) ha hl hh (by omega) (by omega) (by omega)
  simp only [execOp, Instr.sliceAt, Instr.slice, ha.eval hx, lI, run_underlying ht, lQ, uC, hb, l9, jC0 hs]
  simp
 ·refine wU7 ht hs hx hl hh (by omega) (by omega) (by omega) hN (fun o' ho => ?_)
  have ht2 : wS2 (some ⟨g, o, none⟩) i size (some ⟨g, o', none⟩) (j - i) := by
   refine ⟨fun h => (by cases h), fun g2 o2 he => ?_⟩
   injection he with he
   injection he with e1 e2 _
   subst e1; subst e2
   exact ⟨o', rfl, fun hm => by have := ho (by omega); simpa using this⟩
  have := h (some ⟨g, o', none⟩) ⟨.inr ⟨g, o', rfl⟩, by omega, fun h => (by cases h)⟩ ht2
  simpa using this
theorem yM9 {t e size n c : Nat} {x : Operand} {lo hi : Option Operand} {i j : Nat} {A : Option Addr} (ht : P.underlying t = some (.slice e)) (hs : tySize P e = some size) (hA : SlIn A n c) (hx : ev fr x = some (.slice A n c)) (hl : bnd fr 0 lo = some (i : Int)) (hh : bnd fr (n : Int) hi = some (j : Int)) (h1 : i ≤ j) (h2 : j ≤ c) (hN : Nat.ble (d + 1) N.n = true)
  (h : ∀ A', SlIn A' (j - i) (c - i) → wS2 A i size A' (j - i) → sv P N w0 Wr ops rest ((d, .slice A' (j - i) (c - i)) :: fr) H Z) : sv P N w0 Wr ops (⟨some d, .slice t x lo hi none, ty, pos, after, none⟩ :: rest) fr H Z := by
 rcases hA.ok with ⟨rfl, rfl⟩ | ⟨g, o, rfl⟩
 ·have hc := hA.none rfl
  subst hc
  obtain rfl : j = 0 := by omega
  obtain rfl : i = 0 := by omega
  refine jM0 (.slice none 0 0) hN (fun a w ha _ => ?_) (h none ⟨.inl ⟨rfl, rfl⟩, xB _, fun _ => rfl⟩ ⟨fun _ => rfl, fun g o h => by cases h⟩)
  have hb := jI5 (P := P) (isS := true) (len := 0) (cap := 0) (w := w) ha hl hh (by omega) (by omega) (by omega)
  simp only [execOp, Instr.sliceAt, Instr.slice, ha.eval hx, lI, run_underlying ht, lQ, uC, hb, l9, jC0 hs]
  simp
 ·refine wV6 ht hs hx hl hh (by omega) (by omega) (by omega) hN (fun o' ho => ?_)
  have ht2 : wS2 (some ⟨g, o, none⟩) i size (some ⟨g, o', none⟩) (j - i) := by
   refine ⟨fun h => (by cases h), fun g2 o2 he => ?_⟩
   injection he with he
   injection he with e1 e2 _
   subst e1; subst e2
   exact ⟨o', rfl, fun hm => by have := ho (by omega); simpa using this⟩
  have := h (some ⟨g, o', none⟩) ⟨.inr ⟨g, o', rfl⟩, by omega, fun h => (by cases h)⟩ ht2
  simpa using this
theorem vC2 {t e : TypeId} {size bytes n m c : Nat} {s x : Operand} {A B : Option Addr} {xs news : List Value} (hE : ElemOk P t e size bytes) (hA : SlOk A n) (hs : ev fr s = some (.slice A n n)) (hx : ev fr x = some (.slice B m c))
  (hr : ∀ w, Sat w0 Wr H w → Rd w size A n xs) (hr' : ∀ w, Sat w0 Wr H w → Rd w size B m news) (hB : B ≠ none) (h1 : news.all Value.oneCell' = true) (hm0 : 0 < m) (h63 : n + m ≤ maxLen) (hby : (n + m) * bytes ≤ 140737488355328) (hN : Nat.ble (d + 1) N.n = true)
  (h : ∀ v', RowOk v' (n + m) → sx P N w0 Wr ops rest ((d, v') :: fr) (rowE v' e size (xs ++ news) ++ H) Z) :
  sx P N w0 Wr ops (⟨some d, .call { callee := .builtin .append, args := #[s, x], argTypes := #[t, t] }, ty, pos, after, none⟩ :: rest) fr H Z := by
 have hE' := hE
 rcases hA with ⟨rfl, rfl⟩ | ⟨g, o, rfl⟩
 ·refine jL0 (R := fun v' H' => RowOk v' (0 + m) ∧ H' = rowE v' e size (xs ++ news) ++ H) hN (fun a w ha hw => ?_) (fun v' H' hR => by obtain ⟨h2, rfl⟩ := hR; exact h v' h2)
  have hl : xs = [] := List.length_eq_zero_iff.1 (by simpa using (hr w hw).1)
  subst hl
  have hown := kG0 (e := e) (size := size) (xs := []) (H1 := H) RowOk.nil (by simp) (show Sat w0 Wr (rowE (.slice none 0 0) e size [] ++ H) w from hw)
  obtain ⟨v', w', hrun, h2, h3, h4, h5⟩ := vK2 (P := P) (W0 := { w with heap := #[] }) (ty := ty) (c := c) hE' (Bel.emp w) (xB _) (xD _) hown (hr' w hw) (fun u hu => List.all_eq_true.1 h1 u hu) h63 hby
  refine ⟨v', w', _, ?_, ⟨(jM7 h2).1, rfl⟩, Sat.app (H1 := H) (v := .slice none 0 0) (n := 0) (xs := []) hw RowOk.nil h2 h4 h5⟩
  simp only [execOp, resolve, uE, xN, qJ, ha.eval hs, ha.eval hx, lI, l9, lQ, invoke, builtin, hrun]
 ·obtain ⟨b', rfl⟩ : ∃ b', B = some b' := by cases B with | none => exact absurd rfl hB | some b' => exact ⟨b', rfl⟩
  refine jL0 (R := fun v' H' => RowOk v' (n + m) ∧ H' = rowE v' e size (xs ++ news) ++ H) hN (fun a w ha hw => ?_) (fun v' H' hR => by obtain ⟨h2, rfl⟩ := hR; exact h v' h2)
  obtain ⟨ht, i, z, hi, hz, hsize, hbs, hzs, hsz⟩ := hE
  have cells : ∀ {A : Addr} {k : Nat} {ys : List Value}, Rd w size (some A) k ys → ys.length = k * size ∧ ∀ j u, ys[j]? = some u → w.cell? (A.add j) = some u := fun {A k ys} hR => by
   refine ⟨hR.1, fun j u hu => ?_⟩
   rcases zK k with hk | hk
   ·have := hR.1
    rw [hk, xK] at this
    rw [List.length_eq_zero_iff.1 this] at hu
    simp at hu
   ·obtain ⟨g, o, hA, _, hc⟩ := hR.2.2 hk
    obtain rfl := lV hA
    rw [jI3]
    exact hc j u hu
  obtain ⟨l1, c1⟩ := cells (hr w hw)
  obtain ⟨l2, c2⟩ := cells (hr' w hw)
  obtain ⟨v', w', hrun, h2, h3⟩ := run_append_arg_grows (P := P) w t ty e i z size bytes ht hi hz hsize hbs hzs hsz ⟨g, o, none⟩ n n xs l1 c1 b' m c news l2 c2 (by omega) h63 hby
  refine ⟨v', w', _, ?_, ⟨(jM7 h2).1, rfl⟩, hw.row ⟨h3.os, h3.tape, h3.output, h3.size, fun k hk => h3.block k hk (by simp)⟩ h2⟩
  simp only [execOp, resolve, uE, xN, qJ, ha.eval hs, ha.eval hx, lI, l9, lQ, invoke, builtin, hrun]
theorem kV9 {f : FuncId} {xs : List Operand} {vs : List Value} {ts : Array TypeId} {e : TypeId} {size n : Nat} {ys : List Value} (U : Heap) (hc : Fn P f vs U fun u H' => RowOk u n ∧ H' = rowE u e size ys) (hx : evs fr xs = some vs) (hU : U.Sublist H) (hroU : Ro U) (hN : Nat.ble (d + 1) N.n = true)
  (h : ∀ A c, SlIn A n c → sx P N w0 Wr ops rest ((d, .slice A n c) :: fr) (roE A ys ++ H) Z) :
  sx P N w0 Wr ops (⟨some d, .call { callee := .value (.func f), args := xs.toArray, argTypes := ts }, ty, pos, after, none⟩ :: rest) fr H Z :=
 kM5 U hc hx hU hroU hN (fun v hv => by
  have hn : ∀ A c, v = .slice A n c → A = none → c = 0 := fun A c hv2 ha => by
   rcases hv with ⟨h1, _⟩ | ⟨g, c', h1⟩
   ·rw [h1] at hv2; injection hv2 with _ _ h3; exact h3.symm
   ·rw [h1] at hv2; injection hv2 with h2 _ _; rw [ha] at h2; cases h2
  obtain ⟨A, c, rfl, hA, hle⟩ := hv.ro
  refine kF6 (fun w hw => row_cap hv (fun x hx => xI _ hx) hw) (fun hcap => jC3 (roE A ys ++ H) (hle [] H _ _ _) (h A c ⟨hA, hcap.1, hn A c rfl⟩)))
end
theorem ixb0 : Lays.n137 Tryz.prog jM4 where
 mixed := by kernel_rfl
 f137 := by kernel_rfl
 f217 := by kernel_rfl
 f266 := by kernel_rfl
 t3 := by kernel_rfl
 a3 := fun w => by kernel_rfl
 z3 := fun w => by kernel_rfl
 v3 := fun w => by kernel_rfl
 t5 := by kernel_rfl
 a5 := fun w => by kernel_rfl
 z5 := fun w => by kernel_rfl
 v5 := fun w => by kernel_rfl
 t9 := by kernel_rfl
 a9 := fun w => by kernel_rfl
 z9 := fun w => by kernel_rfl
 v9 := fun w => by kernel_rfl
theorem wN3 : Enters Tryz.prog 115 := Enters.mk Tryz.func115 (by kernel_rfl) (by kernel_rfl)
theorem yI1 (s : List UInt8) (c : UInt8) : Fn Tryz.prog 115 [.string (str s), .int .u8 (c.toNat : Int)] [] fun v _ => v = iq (Lib.indexByte s c) :=
 Fn.of_same wN3 fun w => (Any.strings_IndexByte ixb0 (str s) (c.toNat : Int) w).mono fun e w' ⟨he, hw⟩ => ⟨by rw [he]; simp [str], hw.symm⟩
abbrev rdr (g : Nat) (s : List UInt8) (at_ e : Nat) : Ent := .own g 145 [.string (str s), iq (at_ : Nat), iq (e : Nat)]
def isBl (c : UInt8) : Bool := decide (0 ≤ Lib.indexByte [32, 9, 10, 13] c)
def jD2 (s : List UInt8) (i : Nat) : Nat := i + ((s.drop i).takeWhile isBl).length
theorem wQ2 {s : List UInt8} {i : Nat} {c : UInt8} (h : s[i]? = some c) (hc : isBl c = true) : jD2 s i = jD2 s (i + 1) := by
 obtain ⟨hl, hg⟩ := List.getElem?_eq_some_iff.1 h
 unfold jD2
 rw [qR hl, hg, List.takeWhile_cons_of_pos hc, lE]
 omega
theorem kS6 {s : List UInt8} {i : Nat} (h : ∀ c, s[i]? = some c → isBl c = false) : jD2 s i = i := by
 unfold jD2
 rcases xP i s.length with hl | hl
 ·have := h _ (xC hl)
  rw [qR hl, List.takeWhile_cons_of_neg (by rw [this]; decide)]
  rfl
 ·rw [List.drop_eq_nil_of_le hl]
  rfl
theorem jJ6 {s : List UInt8} {i : Nat} (h : i ≤ s.length) : i ≤ jD2 s i ∧ jD2 s i ≤ s.length := by
 unfold jD2
 have h1 := (List.takeWhile_prefix (p := isBl) (l := s.drop i)).length_le
 rw [xY] at h1
 omega
theorem jO4 (g : Nat) (s : List UInt8) (i0 e : Nat) (hi0 : i0 ≤ s.length) (hs : s.length ≤ 1000000) :
  Fn Tryz.prog 64 [ptr g 0] [rdr g s i0 e] fun v H' => v = .tuple #[] ∧ H' = [rdr g s (jD2 s i0) e] := by
 refine Fn.enter (N := 32) Tryz.func64 rfl (by kernel_rfl) rfl (fun w0 => ?_)
 refine aB <| jB9 (ι := Nat) (fun i => [(0, ptr g 0)]) (fun i => [rdr g s i e]) (fun i => i ≤ s.length ∧ jD2 s i = jD2 s i0) (fun i => s.length - i) i0 ⟨hi0, rfl⟩ (Kn.cons rfl Kn.nil) (HLe.refl _) ?_
 rintro i ⟨hi, hb⟩
 rcases xP i s.length with hl | hl
 ·obtain ⟨c, hc⟩ : ∃ c, s[i]? = some c := ⟨_, xC hl⟩
  refine aS <| jE8 [(0, ptr g 0), (24, .bool (isBl c))] [rdr g s i e] mixed (by kernel_rfl) (fun Z hZ => ?_) ?_
  ·refine qM rfl rfl <| jA9 rfl rfl <| qFA0 jC5 ?_
   first | refine jB6 0 tyA3 tyS3 ?_
   refine qM rfl rfl <| jA9 rfl rfl <| qFA0 jG5 ?_
   first | refine jB6 0 tyA9 tyS9 ?_
   refine jQ1 Tryz.underlying9 rfl rfl <| kQ6 rfl rfl rfl <| qM rfl rfl <| jL7 12 rfl true (by simp; omega) ?_
   refine jA4 ?_
   refine qM rfl rfl <| jA4 ?_
   refine jA9 rfl rfl <| jA4 ?_
   refine qFA0 jG5 ?_
   refine jA4 ?_
   first | refine jB6 0 tyA9 tyS9 ?_
   refine jA4 ?_
   refine qM rfl rfl <| jA4 ?_
   refine jA9 rfl rfl <| jA4 ?_
   refine qFA0 jC5 ?_
   refine jA4 ?_
   first | refine jB6 0 tyA3 tyS3 ?_
   refine jA4 ?_
   refine jV3 Tryz.underlying9 rfl rfl (by omega) (by simpa using hc) rfl ?_
   refine jA4 ?_
   refine jH4 (yI1 [32, 9, 10, 13] c) rfl rfl <| jA4 ?_
   refine wE0 rfl rfl rfl <| jE3 rfl rfl rfl <| jF0 (hZ _ _ ?_ ?_)
   ·exact kR rfl
   ·exact HLe.refl _
  refine aC0 (fun h => ?_) (fun h => ?_)
  ·refine aK <| nN <| aB <| aG (fun Z hZ => sM rfl rfl <| jA0 ?_)
   refine sFA0 jC5 ?_
   first | refine sL0 0 tyA3 tyS3 ?_
   refine jC2 rfl rfl ((i + 1 : Nat) : Int) (by rw [lT _ (by omega)]; omega) rfl ?_
   refine jA0 ?_
   refine sFA0 jC5 ?_
   first | refine sS10 0 tyS3 ?_
   refine sN (hZ _ _ <| nF [(0, _)] (Kn.cons rfl (Kn.nil)) ?_)
   repeat refine nBN ?_
   exact jB8 (i + 1) ⟨by omega, (wQ2 hc h).symm.trans hb⟩ (by omega) (Kn.cons rfl Kn.nil) (HLe.refl _)
  ·refine jB1 ?_
   repeat refine nTE ?_
   refine nBE ?_
   have hb' : jD2 s i = i := kS6 fun c' h' => by rw [hc] at h'; rw [← lV h']; exact h
   exact jH5 _ rfl (HLe.refl _) ⟨rfl, by rw [← hb, hb']⟩
 ·refine aS <| jE8 [(0, ptr g 0), (24, .bool false)] [rdr g s i e] mixed (by kernel_rfl) (fun Z hZ => ?_) ?_
  ·refine qM rfl rfl <| jA9 rfl rfl <| qFA0 jC5 ?_
   first | refine jB6 0 tyA3 tyS3 ?_
   refine qM rfl rfl <| jA9 rfl rfl <| qFA0 jG5 ?_
   first | refine jB6 0 tyA9 tyS9 ?_
   refine jQ1 Tryz.underlying9 rfl rfl <| kQ6 rfl rfl rfl <| qM rfl rfl <| jL7 12 rfl false (by simp; omega) ?_
   refine qO0 ?_
   refine qO0 ?_
   refine qO0 ?_
   refine qO0 ?_
   refine qO0 ?_
   refine qO0 ?_
   refine qO0 ?_
   refine qO0 ?_
   refine qO0 ?_
   refine qO0 ?_
   refine qO0 ?_
   refine jE3 rfl rfl rfl <| jF0 (hZ _ _ ?_ ?_)
   ·exact kR rfl
   ·exact HLe.refl _
  refine aC0 (fun h => ?_) (fun h => ?_)
  ·cases h
  ·refine jB1 ?_
   repeat refine nTE ?_
   refine nBE ?_
   have hb' : jD2 s i = i := kS6 fun c' h' => by rw [qL hl] at h'; cases h'
   exact jH5 _ rfl (HLe.refl _) ⟨rfl, by rw [← hb, hb']⟩
theorem yZ0 (a b : UInt8) : decide ((a.toNat : Int) = (b.toNat : Int)) = (some a == some b) := by
 rw [lR]
 simp only [decide_eq_true_eq, beq_iff_eq, x5]
 constructor
 ·intro h; exact UInt8.toNat_inj.1 (by omega)
 ·intro h; rw [h]
theorem zG7 (a b : UInt8) : ((a.toNat : Int) != (b.toNat : Int)) = !(some a == some b) := by rw [← yZ0]; rfl
def jG9 (s : List UInt8) (i : Nat) (c : UInt8) : Bool := s[i]? == some c
theorem kJ9 (g : Nat) (s : List UInt8) (i e : Nat) (c : UInt8) (hi : i ≤ s.length) (hs : s.length ≤ 1000000) :
  Fn Tryz.prog 165 [ptr g 0, .int .u8 (c.toNat : Int)] [rdr g s i e] fun v H' => v = .bool (jG9 s i c) ∧ H' = [rdr g s (if jG9 s i c = true then jD2 s (i + 1) else i) e] := by
 refine Fn.enter (N := 37) Tryz.func165 rfl (by kernel_rfl) rfl (fun w0 => ?_)
 refine aA rfl rfl <| f2K 0 1 rfl ?_
 rcases xP i s.length with hl | hl
 ·obtain ⟨c', hc⟩ : ∃ c, s[i]? = some c := ⟨_, xC hl⟩
  refine aS <| jE8 [(0, ptr g 0), (27, .bool (!jG9 s i c))] [rdr g s i e] mixed (by kernel_rfl) (fun Z hZ => ?_) ?_
  ·refine qM rfl rfl <| jA9 rfl rfl <| qFA0 jC5 ?_
   first | refine jB6 0 tyA3 tyS3 ?_
   refine qM rfl rfl <| jA9 rfl rfl <| qFA0 jG5 ?_
   first | refine jB6 0 tyA9 tyS9 ?_
   refine jQ1 Tryz.underlying9 rfl rfl <| jM6 rfl rfl rfl <| qM rfl rfl <| jL7 15 rfl false (by simp; omega) ?_
   refine jA4 ?_
   refine qM rfl rfl <| jA4 ?_
   refine jA9 rfl rfl <| jA4 ?_
   refine qFA0 jG5 ?_
   refine jA4 ?_
   first | refine jB6 0 tyA9 tyS9 ?_
   refine jA4 ?_
   refine qM rfl rfl <| jA4 ?_
   refine jA9 rfl rfl <| jA4 ?_
   refine qFA0 jC5 ?_
   refine jA4 ?_
   first | refine jB6 0 tyA3 tyS3 ?_
   refine jA4 ?_
   refine jV3 Tryz.underlying9 rfl rfl (by omega) (by simpa using hc) rfl ?_
   refine jA4 ?_
   refine qM rfl rfl <| jA4 ?_
   refine vP8 rfl rfl rfl <| jE3 rfl rfl rfl <| jF0 (hZ _ _ ?_ ?_)
   ·exact Kn.cons rfl (Kn.cons (congrArg some (congrArg Value.bool (by rw [jG9, hc]; exact zG7 c' c))) Kn.nil)
   ·exact HLe.refl _
  refine aC0 (fun h => ?_) (fun h => ?_)
  ·have h' : jG9 s i c = false := by simpa using h
   rw [h']
   refine aA rfl rfl <| f1K 4 rfl <| aE ?_
   repeat refine nTR ?_
   exact nR10 ⟨rfl, rfl⟩
  have h' : jG9 s i c = true := by simpa using h
  rw [h', if_pos rfl]
  refine aK <| nN <| aR fun Z hZ => sM rfl rfl <| jA0 ?_
  refine sFA0 jC5 ?_
  first | refine sL0 0 tyA3 tyS3 ?_
  refine jC2 rfl rfl ((i + 1 : Nat) : Int) (by rw [lT _ (by omega)]; omega) rfl ?_
  refine jA0 ?_
  refine sFA0 jC5 ?_
  first | refine sS10 0 tyS3 ?_
  refine sN (hZ _ _ <| f1K 0 rfl <| aR fun Z hZ => sM rfl rfl <| jD7 [0] [] (jO4 g s (i + 1) e (by omega) hs) rfl rfl (by simp) rfl ?_)
  rintro v H' ⟨rfl, rfl⟩
  refine jD5 ?_
  refine sN (hZ _ _ <| aF [] (Kn.nil) <| aA rfl rfl <| f1K 4 rfl <| aE <| nR10 ⟨rfl, rfl⟩)
 ·have h' : jG9 s i c = false := by simp [jG9, qL hl]
  refine aS <| jE8 [(0, ptr g 0), (27, .bool true)] [rdr g s i e] mixed (by kernel_rfl) (fun Z hZ => ?_) ?_
  ·refine qM rfl rfl <| jA9 rfl rfl <| qFA0 jC5 ?_
   first | refine jB6 0 tyA3 tyS3 ?_
   refine qM rfl rfl <| jA9 rfl rfl <| qFA0 jG5 ?_
   first | refine jB6 0 tyA9 tyS9 ?_
   refine jQ1 Tryz.underlying9 rfl rfl <| jM6 rfl rfl rfl <| qM rfl rfl <| jL7 15 rfl true (by simp; omega) ?_
   refine qO0 ?_
   refine qO0 ?_
   refine qO0 ?_
   refine qO0 ?_
   refine qO0 ?_
   refine qO0 ?_
   refine qO0 ?_
   refine qO0 ?_
   refine qO0 ?_
   refine qO0 ?_
   refine qO0 ?_
   refine jE3 rfl rfl rfl <| jF0 (hZ _ _ ?_ ?_)
   ·exact kR rfl
   ·exact HLe.refl _
  refine aC0 (fun h => ?_) (fun h => ?_)
  ·rw [h']
   refine aA rfl rfl <| f1K 4 rfl <| aE ?_
   repeat refine nTR ?_
   exact nR10 ⟨rfl, rfl⟩
  ·cases h
theorem vK4 (g : Nat) (s : List UInt8) (i e : Nat) (c : UInt8) (hi : i ≤ s.length) (hs : s.length ≤ 1000000) :
  Fn Tryz.prog 201 [ptr g 0, .int .u8 (c.toNat : Int)] [rdr g s i e] fun v H' => v = .bool (jG9 s i c) ∧ H' = [rdr g s (if jG9 s i c = true then i + 1 else i) e] := by
 refine Fn.enter (N := 35) Tryz.func201 rfl (by kernel_rfl) rfl (fun w0 => ?_)
 refine aA rfl rfl <| f2K 0 1 rfl ?_
 rcases xP i s.length with hl | hl
 ·obtain ⟨c', hc⟩ : ∃ c, s[i]? = some c := ⟨_, xC hl⟩
  refine aS <| jE8 [(0, ptr g 0), (27, .bool (jG9 s i c))] [rdr g s i e] mixed (by kernel_rfl) (fun Z hZ => ?_) ?_
  ·refine qM rfl rfl <| jA9 rfl rfl <| qFA0 jC5 ?_
   first | refine jB6 0 tyA3 tyS3 ?_
   refine qM rfl rfl <| jA9 rfl rfl <| qFA0 jG5 ?_
   first | refine jB6 0 tyA9 tyS9 ?_
   refine jQ1 Tryz.underlying9 rfl rfl <| kQ6 rfl rfl rfl <| qM rfl rfl <| jL7 15 rfl true (by simp; omega) ?_
   refine jA4 ?_
   refine qM rfl rfl <| jA4 ?_
   refine jA9 rfl rfl <| jA4 ?_
   refine qFA0 jG5 ?_
   refine jA4 ?_
   first | refine jB6 0 tyA9 tyS9 ?_
   refine jA4 ?_
   refine qM rfl rfl <| jA4 ?_
   refine jA9 rfl rfl <| jA4 ?_
   refine qFA0 jC5 ?_
   refine jA4 ?_
   first | refine jB6 0 tyA3 tyS3 ?_
   refine jA4 ?_
   refine jV3 Tryz.underlying9 rfl rfl (by omega) (by simpa using hc) rfl ?_
   refine jA4 ?_
   refine qM rfl rfl <| jA4 ?_
   refine jM6 rfl rfl rfl <| jE3 rfl rfl rfl <| jF0 (hZ _ _ ?_ ?_)
   ·exact Kn.cons rfl (Kn.cons (congrArg some (congrArg Value.bool (by rw [jG9, hc]; exact yZ0 c' c))) Kn.nil)
   ·exact HLe.refl _
  refine aC0 (fun h => ?_) (fun h => ?_)
  ·rw [h, if_pos rfl]
   refine aR fun Z hZ => sM rfl rfl <| jA0 ?_
   refine sFA0 jC5 ?_
   first | refine sL0 0 tyA3 tyS3 ?_
   refine jC2 rfl rfl ((i + 1 : Nat) : Int) (by rw [lT _ (by omega)]; omega) rfl ?_
   refine jA0 ?_
   refine sFA0 jC5 ?_
   first | refine sS10 0 tyS3 ?_
   refine sN (hZ _ _ <| aF [] (Kn.nil) <| aA rfl rfl <| f1K 4 rfl <| aE ?_)
   repeat refine nTR ?_
   exact nR10 ⟨rfl, rfl⟩
  rw [h]
  refine aK <| nN <| aA rfl rfl <| f1K 4 rfl <| aE <| nR10 ⟨rfl, rfl⟩
 ·have h' : jG9 s i c = false := by simp [jG9, qL hl]
  rw [h']
  refine aS <| jE8 [(0, ptr g 0), (27, .bool false)] [rdr g s i e] mixed (by kernel_rfl) (fun Z hZ => ?_) ?_
  ·refine qM rfl rfl <| jA9 rfl rfl <| qFA0 jC5 ?_
   first | refine jB6 0 tyA3 tyS3 ?_
   refine qM rfl rfl <| jA9 rfl rfl <| qFA0 jG5 ?_
   first | refine jB6 0 tyA9 tyS9 ?_
   refine jQ1 Tryz.underlying9 rfl rfl <| kQ6 rfl rfl rfl <| qM rfl rfl <| jL7 15 rfl false (by simp; omega) ?_
   refine qO0 ?_
   refine qO0 ?_
   refine qO0 ?_
   refine qO0 ?_
   refine qO0 ?_
   refine qO0 ?_
   refine qO0 ?_
   refine qO0 ?_
   refine qO0 ?_
   refine qO0 ?_
   refine qO0 ?_
   refine jE3 rfl rfl rfl <| jF0 (hZ _ _ ?_ ?_)
   ·exact kR rfl
   ·exact HLe.refl _
  refine aC0 (fun h => ?_) (fun h => ?_)
  ·cases h
  refine aK <| nN <| aA rfl rfl <| f1K 4 rfl <| aE <| nR10 ⟨rfl, rfl⟩
theorem wW9 (g : Nat) (s : List UInt8) (i e j f : Nat) :
  Fn Tryz.prog 66 [ptr g 0, iq (j : Nat), iq (f : Nat)] [rdr g s i e] fun v H' => v = .nilIface ∧ H' = [rdr g s (if e = 0 then j else i) (if e = 0 then f else e)] := by
 refine Fn.enter (N := 20) Tryz.func66 rfl (by kernel_rfl) rfl (fun w0 => ?_)
 refine aA rfl rfl <| f3K 0 1 2 rfl <| aS <| aR fun Z hZ => sM rfl rfl <| jA0 ?_
 refine sFA0 jH9 ?_
 first | refine sL0 0 tyA33 tyS33 ?_
 refine jB0 ?_
 refine sN (hZ _ _ <| f4K 0 1 2 11 rfl <| aC0 (fun h => ?_) (fun h => ?_))
 ·have h' : e = 0 := by simpa using h
  subst h'
  refine aG (fun Z hZ => sM rfl rfl <| sM rfl rfl <| sM rfl rfl <| sM rfl rfl <| jA0 ?_)
  refine sFA0 jC5 ?_
  first | refine sS10 0 tyS3 ?_
  refine jA0 ?_
  refine sFA0 jH9 ?_
  first | refine sS10 0 tyS33 ?_
  refine sN (hZ _ _ <| nF [] (Kn.nil) <| nN <| aA rfl rfl <| f1K 6 rfl <| aE <| nR10 ⟨rfl, rfl⟩)
 have h' : e ≠ 0 := by simpa using h
 rw [if_neg h', if_neg h']
 refine aK <| nN <| aA rfl rfl <| f1K 6 rfl <| aE <| nR10 ⟨rfl, rfl⟩
theorem wF8 (g : Nat) (s : List UInt8) (i : Nat) (deep : Nat) (a b : UInt8) (f : Value) (hd : deep ≤ 4) (hi : i < s.length) (hs : s.length ≤ 1000000) (ha : jG9 s i a = true) (hb : jG9 s (jD2 s (i + 1)) b = true) :
  Fn Tryz.prog 160 [ptr g 0, iq (deep : Nat), .int .u8 (a.toNat : Int), .int .u8 (b.toNat : Int), f] [rdr g s i 0] fun v H' => v = .tuple #[] ∧ H' = [rdr g s (jD2 s (i + 1) + 1) 0] := by
 have h1 := kJ9 g s i 0 a (by omega) hs
 rw [ha, if_pos rfl] at h1
 have hle := (jJ6 (s := s) (i := i + 1) (by omega)).2
 have h2 := vK4 g s (jD2 s (i + 1)) 0 b hle hs
 rw [hb, if_pos rfl] at h2
 refine Fn.enter (N := 70) Tryz.func160 rfl (by kernel_rfl) rfl (fun w0 => ?_)
 refine aS <| aR fun Z hZ => sM rfl rfl <| jC4 ?_
 refine sN (hZ _ _ <| f5K 0 2 3 4 12 rfl <| aC0 (fun h => ?_) (fun h => ?_))
 ·simp at h; omega
 refine aK <| nN <| aR fun Z hZ => sM rfl rfl <| sM rfl rfl <| jD7 [0] [] h1 rfl rfl (by simp) rfl ?_
 rintro v H' ⟨rfl, rfl⟩
 refine jD5 ?_
 refine sN (hZ _ _ <| f3K 0 3 4 rfl <| aS <| aR fun Z hZ => sM rfl rfl <| sM rfl rfl <| jD7 [0] [] h2 rfl rfl (by simp) rfl ?_)
 rintro v H' ⟨rfl, rfl⟩
 refine jD5 ?_
 refine sN (hZ _ _ <| f4K 0 3 4 24 rfl <| aC0 (fun h => ?_) (fun h => ?_))
 ·refine aE ?_
  repeat refine nTR ?_
  exact jK3 _ rfl (HLe.refl _) ⟨rfl, rfl⟩
 ·cases h
theorem vK3 (g : Nat) (s : List UInt8) (i : Nat) (deep : Nat) (hd : deep ≤ 4) (hi : i < s.length) (hs : s.length ≤ 1000000) (ha : jG9 s i 123 = true) (hb : jG9 s (jD2 s (i + 1)) 125 = true) :
  Fn Tryz.prog 120 [ptr g 0, iq (deep : Nat)] [rdr g s i 0] fun v H' => (∃ A c, v = .iface 73 (.slice A 0 c)) ∧ H' = [rdr g s (jD2 s (i + 1) + 1) 0] := by
 refine Fn.enter (N := 13) Tryz.func120 rfl (by kernel_rfl) rfl (fun w0 => ?_)
 refine aR (fun Z hZ => jB5 (fun g1 => ?_))
 refine jB5 (fun g2 => ?_)
 refine sAN hZ rfl rfl <| f2K 2 3 rfl <| aR (fun Z hZ => jI4 Tryz.underlying73 tyS261 rfl (fun gs => sAl tyZ73 rfl (fun g3 => sS10 0 tyS73 ?_)))
 refine sN (hZ _ _ <| f3K 2 3 5 rfl <| aR (fun Z hZ => sL0 3 tyA143 tyS143 ?_))
 refine sL0 2 tyA3 tyS3 ?_
 refine jH1 rfl rfl <| jA5 [rdr g s i 0] [.own g3 73 [.slice (some ⟨gs, 0, none⟩) 0 0]] (wF8 g s i deep 123 125 _ hd hi hs ha hb) rfl (HLe.pick [4, 0] (by simp) rfl) rfl ?_
 rintro v H' ⟨rfl, rfl⟩
 refine jC3 [rdr g s (jD2 s (i + 1) + 1) 0, .own g3 73 [.slice (some ⟨gs, 0, none⟩) 0 0]] (HLe.refl _) <| sN (hZ _ _ <| f1K 5 rfl <| aR (fun Z hZ => sL0 1 tyA73 tyS73 ?_))
 refine jK8 Tryz.underlying73 rfl rfl rfl <| sAN hZ rfl rfl <| f1K 4 rfl <| aE <| jC1 [rdr g s (jD2 s (i + 1) + 1) 0] rfl rfl (HLe.pick [0] (by simp) rfl) ⟨⟨_, _, rfl⟩, rfl⟩
theorem vW7 (g : Nat) (s : List UInt8) (i : Nat) (deep : Nat) (hd : deep ≤ 4) (hi : i < s.length) (hs : s.length ≤ 1000000) (ha : jG9 s i 123 = true) (hb : jG9 s (jD2 s (i + 1)) 125 = true) :
  Fn Tryz.prog 65 [ptr g 0, iq (deep : Nat)] [rdr g s i 0] fun v H' => (∃ A c, v = .iface 73 (.slice A 0 c)) ∧ H' = [rdr g s (jD2 s (i + 1) + 1) 0] := by
 have hc : s[i]? = some 123 := by simpa [jG9] using ha
 refine Fn.enter (N := 74) Tryz.func65 rfl (by kernel_rfl) rfl (fun w0 => ?_)
 refine aA rfl rfl <| f2K 0 1 rfl <| aS <| jC6 mixed (by kernel_rfl) (fun Z hZ => ?_)
 refine qM rfl rfl <| jA9 rfl rfl <| qFA0 jC5 ?_
 first | refine jB6 0 tyA3 tyS3 ?_
 refine qM rfl rfl <| jA9 rfl rfl <| qFA0 jG5 ?_
 first | refine jB6 0 tyA9 tyS9 ?_
 refine jQ1 Tryz.underlying9 rfl rfl <| jM6 rfl rfl rfl <| jF0 (hZ _ _ <| f3K 0 1 15 rfl <| aC0 (fun h => ?_) (fun h => ?_))
 ·simp at h; omega
 refine aK <| nN <| aS <| jC6 mixed (by kernel_rfl) (fun Z hZ => ?_)
 refine qM rfl rfl <| jA9 rfl rfl <| qFA0 jG5 ?_
 first | refine jB6 0 tyA9 tyS9 ?_
 refine qM rfl rfl <| jA9 rfl rfl <| qFA0 jC5 ?_
 first | refine jB6 0 tyA3 tyS3 ?_
 refine jV3 Tryz.underlying9 rfl rfl (by omega) (by simpa using hc) rfl ?_
 refine jC8 rfl rfl <| jF0 (hZ _ _ <| f3K 0 1 5 rfl <| aB <| aR fun Z hZ => sM rfl rfl <| jB0 ?_)
 refine sAN hZ rfl rfl <| f4K 0 1 5 27 rfl <| aC0 (fun h1 => ?_) (fun h1 => ?_)
 ·cases h1
 refine aR fun Z hZ => sM rfl rfl <| jB0 ?_
 refine sAN hZ rfl rfl <| f4K 0 1 5 32 rfl <| aC0 (fun h2 => ?_) (fun h2 => ?_)
 ·cases h2
 refine aR fun Z hZ => sM rfl rfl <| jB0 ?_
 refine sAN hZ rfl rfl <| f4K 0 1 5 38 rfl <| aC0 (fun h3 => ?_) (fun h3 => ?_)
 ·cases h3
 refine aR fun Z hZ => sM rfl rfl <| jB0 ?_
 refine sAN hZ rfl rfl <| f4K 0 1 5 44 rfl <| aC0 (fun h4 => ?_) (fun h4 => ?_)
 ·cases h4
 refine aR fun Z hZ => sM rfl rfl <| jB0 ?_
 refine sAN hZ rfl rfl <| f4K 0 1 5 50 rfl <| aC0 (fun h5 => ?_) (fun h5 => ?_)
 ·cases h5
 refine aR fun Z hZ => sM rfl rfl <| jB0 ?_
 refine sAN hZ rfl rfl <| f4K 0 1 5 56 rfl <| aC0 (fun h6 => ?_) (fun h6 => ?_)
 ·refine aR (fun Z hZ => sM rfl rfl <| sM rfl rfl <| jD7 [0] [] (vK3 g s i deep hd hi hs ha hb) rfl rfl (by simp) rfl ?_)
  rintro v H' ⟨⟨A, c, rfl⟩, rfl⟩
  refine jD5 ?_
  refine sAN hZ rfl rfl <| f1K 4 rfl <| aE ?_
  repeat (with_reducible (first | refine nTR ?_ | refine nBR ?_))
  exact jC1 _ rfl rfl (HLe.refl _) ⟨⟨A, c, rfl⟩, rfl⟩
 ·cases h6
theorem wU4 (s : List UInt8) (hs : s.length ≤ 4096) (ha : jG9 s (jD2 s 0) 123 = true) (hb : jG9 s (jD2 s (jD2 s 0 + 1)) 125 = true) (he : jD2 s (jD2 s (jD2 s 0 + 1) + 1) = s.length) :
  Fn Tryz.prog 26 [.string (str s)] [] fun v _ => ∃ A c, v = .tuple #[.iface 73 (.slice A 0 c), iq (s.length : Nat), iq 0] := by
 have hi : jD2 s 0 < s.length := by
  have hc : s[jD2 s 0]? = some 123 := by simpa [jG9] using ha
  exact (List.getElem?_eq_some_iff.1 hc).1
 have hj : jD2 s (jD2 s 0 + 1) < s.length := by
  have hc : s[jD2 s (jD2 s 0 + 1)]? = some 125 := by simpa [jG9] using hb
  exact (List.getElem?_eq_some_iff.1 hc).1
 refine Fn.enter (N := 52) Tryz.func26 rfl (by kernel_rfl) rfl (fun w0 => ?_)
 refine aR fun Z hZ => sA rfl rfl <| sA rfl rfl <| sAN hZ rfl rfl <| f1K 0 rfl <| aS <| aR fun Z hZ => sM rfl rfl <| jD6 Tryz.underlying9 rfl rfl <| jC4 ?_
 refine sN (hZ _ _ <| f2K 0 8 rfl <| aC0 (fun h => ?_) (fun h => ?_))
 ·simp at h; omega
 refine aK <| nN <| aR fun Z hZ => sM rfl rfl <| jD4 tyZ145 tyP145 ?_
 refine jB5 (fun g1 => ?_)
 refine sAN hZ rfl rfl <| f2K 0 5 rfl <| aR fun Z hZ => sM rfl rfl <| jD7 [0] [] (jO4 g1 s 0 0 (by omega) (by omega)) rfl rfl (by simp) rfl ?_
 rintro v H' ⟨rfl, rfl⟩
 refine jD5 ?_
 refine sN (hZ _ _ <| f2K 0 5 rfl <| aR fun Z hZ => sM rfl rfl <| jD7 [0] [] (vW7 g1 s _ 1 (by omega) hi (by omega) ha hb) rfl rfl (by simp) rfl ?_)
 rintro v H' ⟨⟨A, c, rfl⟩, rfl⟩
 refine jD5 ?_
 refine sAN hZ rfl rfl <| f3K 0 2 5 rfl <| aS <| aR fun Z hZ => sM rfl rfl <| jA0 ?_
 refine sFA0 jH9 ?_
 first | refine sL0 0 tyA33 tyS33 ?_
 refine jB0 ?_
 refine sN (hZ _ _ <| f4K 0 2 5 20 rfl <| aC0 (fun h => ?_) (fun h => ?_))
 ·refine aR (fun Z hZ => sM rfl rfl <| jD7 [0] [] (jO4 g1 s _ 0 (by omega) (by omega)) rfl rfl (by simp) rfl ?_)
  rintro v H' ⟨rfl, rfl⟩
  refine jD5 ?_
  rw [he]
  refine sN (hZ _ _ <| f3K 0 2 5 rfl <| aR fun Z hZ => sM rfl rfl <| jA0 ?_)
  refine sFA0 jC5 ?_
  first | refine sL0 0 tyA3 tyS3 ?_
  refine sM rfl rfl <| jD6 Tryz.underlying9 rfl rfl <| jB2 ?_
  refine sN (hZ _ _ <| f4K 0 2 5 29 rfl <| aC0 (fun h2 => ?_) (fun h2 => ?_))
  ·simp at h2
  refine aK <| nN <| aS <| aR fun Z hZ => sM rfl rfl <| jA0 ?_
  refine sFA0 jH9 ?_
  first | refine sL0 0 tyA33 tyS33 ?_
  refine jC7 ?_
  refine sN (hZ _ _ <| f4K 0 2 5 40 rfl <| aC0 (fun h3 => ?_) (fun h3 => ?_))
  ·cases h3
  refine aK <| nN <| aR fun Z hZ => sM rfl rfl <| sM rfl rfl <| jD6 Tryz.underlying9 rfl rfl <| sA rfl rfl <| sA rfl rfl <| sAN hZ rfl rfl <| f3K 2 3 4 rfl <| aE <| jF6 [] rfl rfl rfl rfl (HLe.sub (lN _)) ⟨A, c, rfl⟩
 ·cases h
end
namespace V
open Go.RowKit
def vb (x : Nat) : List UInt8 := if x < 128 then [UInt8.ofNat x] else UInt8.ofNat (x % 128 + 128) :: vb (x / 128)
theorem kU0 {x : Nat} (h : x < 128) : vb x = [UInt8.ofNat x] := by rw [vb, if_pos h]
theorem vI0 {x : Nat} (h : 128 ≤ x) : vb x = UInt8.ofNat (x % 128 + 128) :: vb (x / 128) := by rw [vb, if_neg (by omega)]
theorem vB1 (x : Nat) : 0 < (vb x).length := by
 rw [vb]; split <;> simp
theorem vB2 : ∀ (k x : Nat), x < 128 ^ (k + 1) → (vb x).length ≤ k + 1
 | 0, x, h => by rw [kU0 (by simpa using h)]; simp
 | k + 1, x, h => by
  rcases xP x 128 with h1 | h1
  ·rw [kU0 h1]; simp
  ·rw [vI0 h1, lE]
   have := vB2 k (x / 128) (by rw [Nat.div_lt_iff_lt_mul (by omega)]; rw [qY] at h; exact h)
   omega
theorem kU1 {x : Nat} (h : x < 18446744073709551616) : (vb x).length ≤ 10 := vB2 9 x (by omega)
theorem zH4 : ∀ m : Nat, m < 256 → kE4 .or .u8 (m : Int) 128 = ((m % 128 + 128 : Nat) : Int) := by decide +kernel
theorem wO2 : ElemOk Tryz.prog 44 5 1 1 := ElemOk.mk_ (z := .int .u8 0) Tryz.underlying44 (by kernel_rfl) rfl (by omega)
theorem wQ1 (b : List UInt8) : (bv b).all Value.oneCell' = true := List.all_eq_true.2 (yJ2 b)
theorem wB0 (x : Nat) : IntKind.u8.wrap (x : Int) = ((x % 256 : Nat) : Int) := by simp [IntKind.wrap, IntKind.bits, IntKind.signed]
theorem or_y (y : Nat) : kE4 .or .u8 (IntKind.u8.wrap (y : Int)) 128 = ((y % 128 + 128 : Nat) : Int) := by
 rw [wB0, zH4 _ (by omega), Nat.mod_mod_of_dvd y (by decide : 128 ∣ 256)]
theorem zI4 (y : Nat) : (y : Int).fdiv (2 ^ (min (7 : Int).toNat IntKind.u64.bits)) = ((y / 128 : Nat) : Int) := by
 show (y : Int).fdiv 128 = _
 rw [Int.fdiv_eq_ediv_of_nonneg _ (by omega)]
 omega
theorem zD7 (v : Value) (b : List UInt8) (x : Nat) (hv : RowOk v b.length) (hx : x < 18446744073709551616) (hb : b.length ≤ 1000000) :
  Fn Tryz.prog 108 [v, uq x] (rowE v 5 1 (bv b)) fun u H' => RowOk u (b ++ vb x).length ∧ H' = rowE u 5 1 (bv (b ++ vb x)) := by
 refine Fn.enter (N := 20) Tryz.func108 rfl (by kernel_rfl) rfl (fun w0 => ?_)
 refine aA rfl rfl <| f2K 0 1 rfl <| aS (aB ?_)
 refine jB9 (ι := Value × List UInt8 × Nat) (fun i => [(0, i.1), (1, uq i.2.2)]) (fun i => rowE i.1 5 1 (bv i.2.1))
  (fun i => RowOk i.1 i.2.1.length ∧ i.2.2 < 18446744073709551616 ∧ i.2.1 ++ vb i.2.2 = b ++ vb x) (fun i => i.2.2) (v, b, x) ⟨hv, hx, rfl⟩ (kR rfl) (HLe.refl _) ?_
 rintro ⟨u, c, y⟩ ⟨hu, hy, hc⟩
 simp only at hu hy hc
 have hcl : c.length ≤ 1000010 := by
  have h1 := congrArg List.length hc
  have h2 := kU1 hx
  simp at h1
  omega
 refine aS <| aR fun Z hZ => sM rfl rfl <| jC4 ?_
 refine sN (hZ _ _ <| f3K 0 1 6 rfl <| aC0 (fun h => ?_) (fun h => ?_))
 ·have hge : 128 ≤ y := by simp at h; omega
  refine aK <| nN <| aB <| aR fun Z hZ => sM rfl rfl <| sM rfl rfl <| jB7 Tryz.underlying25 Tryz.underlying5 rfl _ rfl rfl <| jJ1 (.inr (.inl rfl)) rfl rfl ((y % 128 + 128 : Nat) : Int) (or_y y) rfl <| sBS0 Tryz.underlying44 tyS5 tyZ5 (fun g1 => ?_)
  refine jC9 [_] wO2 rfl hu (by simp [jH3]) rfl (fun w hw => jJ3 (i := 0) (xs := bv [UInt8.ofNat (y % 128 + 128)]) (by show some (Ent.own _ _ [Value.int .u8 _]) = some (Ent.own _ _ [Value.int .u8 _]); rw [show (UInt8.ofNat (y % 128 + 128)).toNat = y % 128 + 128 by simp; omega]) (by rw [jH3]; rfl) hw) (wQ1 _) (by show _ ≤ 9223372036854775807; omega) (by omega) (HLe.refl _) rfl (fun v2 hv2 => ?_)
  rw [← jN1]
  refine sAN hZ rfl rfl <| f2K 0 1 rfl <| aG (fun Z hZ => sM rfl rfl <| kH5 rfl rfl (by decide) ((y / 128 : Nat) : Int) (zI4 y) rfl ?_)
  refine sAN hZ rfl rfl <| nF [(0, _), (1, _)] (kR rfl) ?_
  repeat refine nBN ?_
  refine jB8 (v2, c ++ [UInt8.ofNat (y % 128 + 128)], y / 128) ⟨by simpa using hv2, by show y / 128 < _; omega, ?_⟩ (by simp; omega) (kR rfl) (HLe.sub (lP _ _))
  rw [← hc, vI0 hge]; simp
 ·refine jB1 ?_
  repeat refine nTE ?_
  refine nBE <| nN ?_
  have hlt : y < 128 := by simp at h; omega
  rw [kU0 hlt] at hc
  refine aR fun Z hZ => sM rfl rfl <| sM rfl rfl <| jB7 Tryz.underlying25 Tryz.underlying5 rfl _ rfl rfl <| sBS0 Tryz.underlying44 tyS5 tyZ5 (fun g2 => ?_)
  refine jC9 [_] wO2 rfl hu (by simp [jH3]) rfl (fun w hw => jJ3 (i := 0) (xs := bv [UInt8.ofNat y]) (by show some (Ent.own _ _ [Value.int .u8 _]) = some (Ent.own _ _ [Value.int .u8 _]); rw [show (UInt8.ofNat y).toNat = y % 256 by simp, wB0]) (by rw [jH3]; rfl) hw) (wQ1 _) (by show _ ≤ 9223372036854775807; omega) (by omega) (HLe.refl _) rfl (fun v2 hv2 => ?_)
  rw [← jN1, hc]
  refine sAN hZ rfl rfl <| f1K 4 rfl <| aE <| jC1 _ rfl rfl (HLe.sub (lP _ _)) ⟨by rw [← hc]; simpa using hv2, rfl⟩
end V
namespace V
open Go.RowKit
theorem len0 : Lays.n129 Tryz.prog jM4 where
 mixed := by kernel_rfl
 f129 := by kernel_rfl
 t3 := by kernel_rfl
 a3 := fun w => by kernel_rfl
 z3 := fun w => by kernel_rfl
 v3 := fun w => by kernel_rfl
 t4 := by kernel_rfl
 a4 := fun w => by kernel_rfl
 z4 := fun w => by kernel_rfl
 v4 := fun w => by kernel_rfl
 t5 := by kernel_rfl
 a5 := fun w => by kernel_rfl
 z5 := fun w => by kernel_rfl
 v5 := fun w => by kernel_rfl
 t9 := by kernel_rfl
 a9 := fun w => by kernel_rfl
 z9 := fun w => by kernel_rfl
 v9 := fun w => by kernel_rfl
 t46 := by kernel_rfl
 a46 := fun w => by kernel_rfl
 z46 := fun w => by kernel_rfl
 v46 := fun w => by kernel_rfl
 t53 := by kernel_rfl
 a53 := fun w => by kernel_rfl
 z53 := fun w => by kernel_rfl
 v53 := fun w => by kernel_rfl
theorem vM6 : Enters Tryz.prog 136 := Enters.mk Tryz.func136 (by kernel_rfl) (by kernel_rfl)
theorem yA0 (x : Nat) (hx : x < 18446744073709551616) : Fn Tryz.prog 136 [uq x] [] fun v _ => v = iq (Lib.bitLen x : Nat) :=
 Fn.of_same vM6 fun w => (Any.bits_Len64 len0 (x : Int) w (by omega) (by omega)).mono fun e w' ⟨he, hw⟩ => ⟨by rw [he]; rfl, hw.symm⟩
theorem zG0 {x : Nat} (h0 : x ≠ 0) (h : x < 2 ^ 64) : 1 ≤ Lib.bitLen x := by rw [Lib.bitLen_half x h0 h]; omega
theorem yN7 (x : Nat) : x < 18446744073709551616 → max 1 ((Lib.bitLen x + 6) / 7) = (vb x).length := by
 induction x using Nat.strongRecOn with
 | _ x ih =>
  intro hx
  rcases xP x 128 with h | h
  ·rw [kU0 h]
   have := Lib.bitLen_le x 7 (by omega) (by omega)
   simp only [zD]
   omega
  ·rw [vI0 h, lE, ← ih (x / 128) (by omega) (by omega), Lib.bitLen_shift 7 x (by omega) (by omega)]
   have := zG0 (x := x / 128) (by omega) (by omega)
   rw [show (2 : Nat) ^ 7 = 128 from rfl]
   omega
theorem wT4 (x : Nat) (hx : x < 18446744073709551616) : Fn Tryz.prog 104 [uq x] [] fun v _ => v = iq ((vb x).length : Nat) := by
 have hb := Lib.bitLen_le x 64 (by omega) (by omega)
 refine Fn.enter (N := 8) Tryz.func104 rfl (by kernel_rfl) rfl (fun w0 => ?_)
 refine aA rfl rfl <| f1K 0 rfl <| aR fun Z hZ => sM rfl rfl <| sCP0 (yA0 x hx) ?_
 refine jC2 rfl rfl ((Lib.bitLen x + 6 : Nat) : Int) (by rw [lT _ (by omega)]; omega) rfl ?_
 refine yG2 rfl rfl (by decide) (((Lib.bitLen x + 6) / 7 : Nat) : Int) (by rw [Int.tdiv_eq_ediv_of_nonneg (by omega), lT _ (by omega)]; omega) rfl ?_
 refine yG3 rfl rfl (((vb x).length : Nat) : Int) (by rw [← yN7 x hx]; omega) rfl ?_
 refine sAN hZ rfl rfl <| f1K 2 rfl <| aE <| nR10 rfl
def allB (xs : List Nat) : List UInt8 := xs.flatMap vb
theorem jT8 {xs : List Nat} (h : ∀ x ∈ xs, x < 18446744073709551616) : (allB xs).length ≤ 10 * xs.length := by
 induction xs with
 | nil => simp [allB]
 | cons x r ih =>
  have h1 := kU1 (h x lO)
  have h2 := ih fun y hy => h y (lW _ hy)
  simp only [allB, xX, lX, lE] at h2 ⊢
  omega
theorem kO9 {xs : List Nat} {k : Nat} (h : k < xs.length) : allB (xs.take (k + 1)) = allB (xs.take k) ++ vb xs[k] := by
 simp only [allB]
 rw [qB h, zV]
 simp only [xX, List.flatMap_nil, lH]
abbrev uqL (l : List Nat) : List Value := l.map uq
theorem zG4 (g c : Nat) (xs : List Nat) (hx : ∀ x ∈ xs, x < 18446744073709551616) (hl : xs.length ≤ 50000) :
  Fn Tryz.prog 56 [.slice (some ⟨g, 0, none⟩) xs.length c] [.ob g (RowP 25 1 xs.length c (uqL xs))] fun u H' => RowOk u (allB xs).length ∧ H' = rowE u 5 1 (bv (allB xs)) := by
 refine Fn.enter (N := 17) Tryz.func56 rfl (by kernel_rfl) rfl (fun w0 => ?_)
 refine aA rfl rfl <| f1K 0 rfl <| aA rfl rfl <| f2K 0 3 rfl <| aS <| aR fun Z hZ => sM rfl rfl <| jE2 Tryz.underlying127 rfl rfl <| sMN hZ rfl rfl <| f4K 3 6 7 8 rfl <| aB ?_
 refine jB9 (ι := Nat × Value) (fun i => [(3, i.2), (6, .slice (some ⟨g, 0, none⟩) xs.length c), (7, iq (xs.length : Nat)), (8, iq (i.1 : Nat))]) (fun i => .ob g (RowP 25 1 xs.length c (uqL xs)) :: rowE i.2 5 1 (bv (allB (xs.take i.1))))
  (fun i => i.1 ≤ xs.length ∧ RowOk i.2 (allB (xs.take i.1)).length) (fun i => xs.length - i.1) (0, .slice none 0 0) ⟨by simp, RowOk.nil⟩ (kR rfl) (HLe.refl _) ?_
 rintro ⟨k, u⟩ ⟨hk, hu⟩
 simp only at hk hu
 have hlen := jT8 (xs := xs.take k) fun x h => hx x (List.mem_of_mem_take h)
 rw [xS, uP hk] at hlen
 refine aR (fun Z hZ => jB2 ?_)
 refine sN (hZ _ _ <| f5K 3 6 7 8 9 rfl <| aS (aC0 (fun h => ?_) (fun h => ?_)))
 ·have hlt : k < xs.length := by simpa using h
  have hxk : xs[k] < 18446744073709551616 := hx _ (uA _)
  have hrd : rdV false 1 (uqL xs) k = some (uq xs[k]) := by show (uqL xs)[k]? = _; simp [hlt]
  refine aK <| nN <| aS (aB <| aR (fun Z hZ => jB3 (k * 1) Tryz.underlying127 tyS25 rfl rfl (by omega) (by simp) rfl ?_))
  refine jS0 (o := 0) k rfl (by omega) (fun w hw => jV4 (i := 0) rfl hw) (by omega) tyA25 tyS25 hrd rfl ?_
  refine sAN hZ rfl rfl <| f5K 3 5 6 7 8 rfl <| aG (fun Z hZ => sM rfl rfl <| sM rfl rfl <| jA5 (rowE u 5 1 (bv (allB (xs.take k)))) [_] (zD7 u (allB (xs.take k)) xs[k] hu hxk (by omega)) rfl (HLe.swap [_] _) rfl ?_)
  rintro u2 H' ⟨hu2, rfl⟩
  rw [jF1, ← kO9 hlt]
  rw [← kO9 hlt] at hu2
  refine sAN hZ rfl rfl <| nF [(3, _), (6, _), (7, _), (8, _)] (kR rfl) ?_
  repeat refine nBN ?_
  refine nN ?_
  refine aG (fun Z hZ => ?_)
  refine jC2 rfl rfl ((k + 1 : Nat) : Int) (by rw [lT _ (by omega)]; omega) rfl ?_
  refine sMN hZ rfl rfl <| nF [(3, _), (6, _), (7, _), (8, _)] (kR rfl) <| jB8 (k + 1, u2) ⟨by show k + 1 ≤ _; omega, hu2⟩ (by simp; omega) (kR rfl) (HLe.swap _ [_])
 ·refine jB1 ?_
  repeat refine nTE ?_
  refine nBE <| nN ?_
  have hke : k = xs.length := by simp at h; omega
  subst hke
  rw [x6] at hu ⊢
  refine aR fun Z hZ => sM rfl rfl <| sAN hZ rfl rfl <| f1K 2 rfl <| aE <| jC1 _ rfl rfl (HLe.sub (x4 _ _)) ⟨hu, rfl⟩
end V
namespace V
open Go.RowKit
def dat (t : List UInt8) (i : Nat) : Nat := (t.getD i 0).toNat
def valL : List UInt8 → Nat
 | [] => 0
 | b :: r => b.toNat % 128 + 128 * valL r
def cnt : Nat → List UInt8 → Nat
 | 0, _ => 0
 | _ + 1, [] => 0
 | k + 1, b :: r => if 128 ≤ b.toNat then cnt k r + 1 else 0
theorem wP8 : ∀ (k : Nat) (t : List UInt8), cnt k t ≤ k ∧ cnt k t ≤ t.length
 | 0, t => by simp [cnt]
 | k + 1, [] => by simp [cnt]
 | k + 1, b :: r => by
  have := wP8 k r
  simp only [cnt, lE]
  split <;> omega
theorem kZ9 (b : UInt8) (r : List UInt8) (i : Nat) : dat (b :: r) (i + 1) = dat r i := by simp [dat]
theorem yI9 : ∀ (k : Nat) (t : List UInt8) (i : Nat), i < cnt k t → 128 ≤ dat t i
 | 0, t, i, h => by simp [cnt] at h
 | k + 1, [], i, h => by simp [cnt] at h
 | k + 1, b :: r, i, h => by
  simp only [cnt] at h
  split at h
  ·cases i with
   | zero => simpa [dat] using ‹128 ≤ b.toNat›
   | succ i => rw [kZ9]; exact yI9 k r i (by omega)
  ·omega
theorem wP9 : ∀ (k : Nat) (t : List UInt8), cnt k t < k → cnt k t < t.length → dat t (cnt k t) < 128
 | 0, t, h, _ => by omega
 | k + 1, [], _, h => by simp [cnt] at h
 | k + 1, b :: r, h1, h2 => by
  simp only [cnt] at h1 h2 ⊢
  split
  ·rename_i hb
   rw [if_pos hb] at h1 h2
   rw [kZ9]
   exact wP9 k r (by omega) (by simpa using h2)
  ·rename_i hb
   simpa [dat] using hb
def jE1 (t : List UInt8) : Nat × Nat :=
 if cnt 10 t = 10 then (11, 0) else if cnt 10 t = t.length then (3, 0) else if cnt 10 t = 9 ∧ 1 < dat t 9 then (11, 0) else if 0 < cnt 10 t ∧ dat t (cnt 10 t) = 0 then (4, 0) else (0, cnt 10 t + 1)
def getQ (s : List UInt8) (p : Nat) : Nat × Nat × Nat :=
 if (jE1 (s.drop p)).1 = 0 then (valL ((s.drop p).take (jE1 (s.drop p)).2), p + (jE1 (s.drop p)).2, 0) else (0, p, (jE1 (s.drop p)).1)
def scV (s : List UInt8) (p e : Nat) : Value := .agg #[.string (str s), iq p, iq e]
def getV (g : Nat × Nat × Nat) (s : List UInt8) : Value := .tuple #[uq g.1, scV s g.2.1 g.2.2]
theorem wL4 {t : List UInt8} {i : Nat} (h : i < t.length) : t[i]? = some (t.getD i 0) := by simp [h]
theorem kT9 (s : List UInt8) (p e0 e : Nat) : Fn Tryz.prog 171 [scV s p e0, iq e] [] fun v _ => v = .tuple #[uq 0, scV s p e] := by
 refine Fn.enter (N := 9) Tryz.func171 rfl (by kernel_rfl) rfl (fun w0 => ?_)
 refine aR (fun Z hZ => jB5 (fun g1 => ?_))
 refine sA rfl rfl <| sAl tyZ159 rfl (fun g2 => sN (hZ _ _ <| f3K 1 2 5 rfl <| aR fun Z hZ => sM rfl rfl <| sFA0 jX0 ?_))
 refine sS10 1 tyS33 ?_
 refine sN (hZ _ _ <| f2K 2 5 rfl <| jY8 [0, 1, 2] mixed (by kernel_rfl) rfl (fun Z hZ => ?_))
 refine sLA0 1 tyA159 tyS159 ?_
 refine sA rfl rfl <| sS0 0 tyS159 ?_
 refine sN (hZ _ _ <| f2K 4 5 rfl <| aE <| jF8 rfl rfl (ResOk.cell 0 rfl rfl tyA159 tyS159 rfl) rfl)
theorem wA6 : ∀ l : List UInt8, valL l < 128 ^ l.length
 | [] => by simp [valL]
 | b :: r => by
  have := wA6 r
  rw [lE, qY]
  simp only [valL]
  omega
theorem vB3 : ∀ (l : List UInt8) (b : UInt8), valL (l ++ [b]) = valL l + b.toNat % 128 * 128 ^ l.length
 | [], b => by simp [valL]
 | a :: r, b => by
  rw [lL, valL, valL, vB3 r b, lE, qY, Nat.mul_add, qI]
  congr 2
  rw [qN 128, Nat.mul_assoc]
theorem kL5 {t : List UInt8} {i : Nat} (h : i < t.length) : valL (t.take (i + 1)) = valL (t.take i) + dat t i % 128 * 128 ^ i := by
 rw [qB h, vB3, xS, uP (by omega)]
 simp [dat, h]
theorem zG3 : ∀ m : Nat, m < 256 → kE4 .and .u8 (m : Int) 127 = ((m % 128 : Nat) : Int) := by decide +kernel
theorem pow7 (i : Nat) : 128 ^ i = 2 ^ (7 * i) := by rw [Nat.pow_mul]
theorem zA8 {x b i : Nat} (hi : i ≤ 9) (hx : x < 128 ^ i) : kE4 .or .u64 (x : Int) (IntKind.u64.wrap ((b : Int) * 2 ^ (min ((7 * i : Nat) : Int).toNat IntKind.u64.bits))) = (((x + b * 128 ^ i) % 18446744073709551616 : Nat) : Int) := by
 have h1 : (min ((7 * i : Nat) : Int).toNat IntKind.u64.bits) = 7 * i := by
  show min (7 * i) 64 = 7 * i
  omega
 have h2 : ((b : Int) * 2 ^ (7 * i)) = ((b * 2 ^ (7 * i) : Nat) : Int) := by push_cast; rfl
 have h64 : (18446744073709551616 : Nat) = 2 ^ (64 - 7 * i) * 2 ^ (7 * i) := by rw [← Nat.pow_add, show 64 - 7 * i + 7 * i = 64 by omega]
 have h3 : b * 2 ^ (7 * i) % 18446744073709551616 = (b % 2 ^ (64 - 7 * i)) * 2 ^ (7 * i) := by
  conv => lhs; rw [h64]
  rw [Nat.mul_mod_mul_right]
 have hw : ∀ m : Nat, IntKind.u64.wrap (m : Int) = ((m % 18446744073709551616 : Nat) : Int) := fun m => by simp [IntKind.wrap, IntKind.bits, IntKind.signed]
 have hb : ∀ m : Nat, m < 18446744073709551616 → (BitVec.ofInt IntKind.u64.bits (m : Int)).toNat = m := fun m hm => by
  show (BitVec.ofInt 64 (m : Int)).toNat = m
  rw [BitVec.toNat_ofInt]
  omega
 rw [pow7] at hx ⊢
 have hxs : x < 18446744073709551616 := uH hx (by rw [show (18446744073709551616 : Nat) = 2 ^ 64 from rfl]; exact z7 (by omega) (by omega))
 have hq : b % 2 ^ (64 - 7 * i) < 2 ^ (64 - 7 * i) := Nat.mod_lt _ (Nat.pow_pos (by omega))
 have hsum : b % 2 ^ (64 - 7 * i) * 2 ^ (7 * i) + x < 18446744073709551616 := by
  rw [h64]
  calc b % 2 ^ (64 - 7 * i) * 2 ^ (7 * i) + x < b % 2 ^ (64 - 7 * i) * 2 ^ (7 * i) + 2 ^ (7 * i) := by omega
   _ = (b % 2 ^ (64 - 7 * i) + 1) * 2 ^ (7 * i) := by rw [Nat.add_mul, Nat.one_mul]
   _ ≤ 2 ^ (64 - 7 * i) * 2 ^ (7 * i) := uN _ hq
 rw [h1, h2, hw, h3]
 have hm : b % 2 ^ (64 - 7 * i) * 2 ^ (7 * i) < 18446744073709551616 := by omega
 show IntKind.u64.wrap (((BitVec.ofInt IntKind.u64.bits (x : Int)) ||| (BitVec.ofInt IntKind.u64.bits ((b % 2 ^ (64 - 7 * i) * 2 ^ (7 * i) : Nat) : Int))).toNat : Int) = _
 rw [BitVec.toNat_or, hb x hxs, hb _ hm, Nat.or_comm, ← Nat.shiftLeft_eq, ← Nat.shiftLeft_add_eq_or_of_lt hx, Nat.shiftLeft_eq, hw, zU hsum]
 rw [show x + b * 2 ^ (7 * i) = b * 2 ^ (7 * i) + x by omega, Nat.add_mod, h3, zU hxs, zU hsum]
end V
namespace V
open Go.RowKit
theorem zE9 (t : List UInt8) (i : Nat) : dat t i < 256 := (t.getD i 0).toNat_lt
theorem add7 (i : Nat) (hi : i ≤ 9) : IntKind.i64.wrap ((7 : Int) * (i : Int)) = ((7 * i : Nat) : Int) := by rw [lT _ (by omega)]; omega
theorem yY7 {t : List UInt8} {i : Nat} (hi : i ≤ 9) : valL (t.take i) < 128 ^ i :=
 uH (wA6 _) (z7 (by omega) (by rw [xS]; omega))
theorem kU2 {t : List UInt8} {k : Nat} (hk : k ≤ 9) (hl : k < t.length) (h9 : k = 9 → dat t 9 ≤ 1) : valL (t.take (k + 1)) % 18446744073709551616 = valL (t.take (k + 1)) := by
 have hb := yY7 (t := t) (i := k) hk
 refine zU ?_
 rw [kL5 hl]
 have hp : (128 : Nat) ^ k ≤ 128 ^ 9 := z7 (by omega) hk
 by_cases h : k = 9
 ·subst h
  have := h9 rfl
  have : dat t 9 % 128 ≤ 1 := by omega
  omega
 ·have hp : (128 : Nat) ^ (k + 1) ≤ 128 ^ 9 := z7 (by omega) (by omega)
  rw [qY] at hp
  have h2 : dat t k % 128 * 128 ^ k ≤ 127 * 128 ^ k := uN _ (by omega)
  omega
theorem yK7 (s : List UInt8) (p : Nat) (hp : p ≤ s.length) (hs : s.length ≤ 1000000) : Fn Tryz.prog 122 [scV s p 0] [] fun v _ => v = getV (getQ s p) s := by
 obtain ⟨t, ht⟩ := xZ9 (s.drop p)
 have htl : t.length + p = s.length := by rw [← ht, xY]; omega
 obtain ⟨hc10, hcl⟩ := wP8 10 t
 refine Fn.enter (N := 121) Tryz.func122 rfl (by kernel_rfl) rfl (fun w0 => ?_)
 refine aR (fun Z hZ => jB5 (fun g1 => ?_))
 refine sA rfl rfl <| sAl tyZ159 rfl (fun g2 => sN (hZ _ _ <| f2K 1 3 rfl <| vH0 <| aS <| aR (fun Z hZ => sFA0 jX0 ?_)))
 refine sL0 1 tyA33 tyS33 ?_
 refine jC7 ?_
 refine sN (hZ _ _ <| f3K 1 3 12 rfl <| aC0 (fun h => ?_) (fun h => ?_))
 ·cases h
 refine aK <| nN <| aS <| jA3 [(1, ptr g1 0), (3, ptr g2 0), (24, .bool false)] [.own g2 159 [.string (str []), iq 0, iq 0], .own g1 159 [.string (str s), iq p, iq 0]] (fun Z hZ => ?_) ?_
 ·refine sFA0 jP2 ?_
  refine sL0 1 tyA3 tyS3 ?_
  refine jB2 ?_
  refine sM rfl rfl <| jE5 17 rfl false (by simp) ?_
  refine sOn0 ?_
  refine sFA0 jP2 ?_
  refine sOn0 ?_
  refine sL0 1 tyA3 tyS3 ?_
  refine sOn0 ?_
  refine sFA0 vO9 ?_
  refine sOn0 ?_
  refine sL0 1 tyA9 tyS9 ?_
  refine sOn0 ?_
  refine jD6 Tryz.underlying9 rfl rfl <| sOn0 ?_
  refine jC4 ?_
  refine sP rfl rfl rfl <| sN (hZ _ _ ?_ ?_)
  ·exact Kn.cons rfl (Kn.cons rfl (Kn.cons (congrArg some (congrArg Value.bool (by simp; omega))) Kn.nil))
  ·exact HLe.refl _
 refine aC0 (fun h => ?_) (fun h => ?_)
 ·cases h
 refine aK <| nN <| aR fun Z hZ => sA rfl rfl <| sA rfl rfl <| sAN hZ rfl rfl <| f5K 1 3 4 5 6 rfl <| aR (fun Z hZ => sFA0 vO9 ?_)
 refine sL0 1 tyA9 tyS9 ?_
 refine sFA0 jP2 ?_
 refine sL0 1 tyA3 tyS3 ?_
 refine jL9 t Tryz.underlying9 rfl rfl rfl (by omega) (by omega) (by omega) (by rw [← ht]; exact qZ (by rw [xY]; omega)) rfl ?_
 refine sAN hZ rfl rfl <| f6K 1 3 4 5 6 7 rfl <| aS (vH1 <| nN <| aS <| aR fun Z hZ => sM rfl rfl <| jD6 Tryz.underlying9 rfl rfl <| sMN hZ rfl rfl <| f8K 1 3 4 5 6 7 35 36 rfl ?_)
 refine vA4 (ι := Nat × Nat × Bool) (fun j => [(1, ptr g1 0), (3, ptr g2 0), (4, uq j.1), (5, iq j.2.1), (6, .bool j.2.2), (7, .string (str t))]) (fun _ => [.own g2 159 [.string (str []), iq 0, iq 0], .own g1 159 [.string (str s), iq p, iq 0]])
  (fun j => (j.2.2 = false ∧ j.2.1 = cnt 10 t ∧ (j.2.1 = 10 ∨ j.2.1 = t.length)) ∨ (j.2.2 = true ∧ j.2.1 = cnt 10 t + 1 ∧ cnt 10 t < 10 ∧ cnt 10 t < t.length ∧ j.1 = valL (t.take j.2.1) % 18446744073709551616)) ?_ ?_
 ·refine aB ?_
  refine jB9 (ι := Nat × Nat) (fun i => [(1, ptr g1 0), (3, ptr g2 0), (4, uq i.2), (5, iq (i.1 : Nat)), (6, .bool false), (7, .string (str t)), (35, iq (t.length : Nat)), (36, iq (i.1 : Nat))]) (fun _ => [.own g2 159 [.string (str []), iq 0, iq 0], .own g1 159 [.string (str s), iq p, iq 0]])
   (fun i => i.1 ≤ cnt 10 t ∧ (i.1 ≤ 9 → i.2 = valL (t.take i.1))) (fun i => t.length - i.1) (0, 0) ⟨by omega, fun _ => rfl⟩ (kR rfl) (HLe.refl _) ?_
  rintro ⟨i, x⟩ ⟨hi, hx⟩
  simp only at hi hx
  refine aR (fun Z hZ => jB2 ?_)
  refine sN (hZ _ _ <| f9K 1 3 4 5 6 7 35 36 37 rfl <| aS (aC0 (fun h => ?_) (fun h => ?_)))
  ·have hlt : i < t.length := by simpa using h
   have hd := wL4 hlt
   refine aK <| nN <| aS (aB <| aR fun Z hZ => sM rfl rfl <| sAN hZ rfl rfl <| f9K 1 3 4 5 6 7 8 35 36 rfl <| aR fun Z hZ => sM rfl rfl <| sM rfl rfl <| jK4 (l := t) (c := t.getD i 0) Tryz.underlying9 rfl rfl (by omega) hd rfl ?_)
   refine sAN hZ rfl rfl <| f10K 1 3 4 5 6 7 8 9 35 36 rfl <| aB <| aR fun Z hZ => sM rfl rfl <| jB0 ?_
   refine sAN hZ rfl rfl <| f11K 1 3 4 5 6 7 8 9 35 36 52 rfl <| aC0 (fun h2 => ?_) (fun h2 => ?_)
   ·have hi10 : i = 10 := by simp at h2; omega
    refine jB1 ?_
    repeat (with_reducible (first | refine nTE ?_ | refine jR7 (by decide) ?_))
    refine nBE <| jE4 (x, i, false) (.inl ⟨rfl, by show i = _; omega, .inl hi10⟩) (kR rfl) (HLe.refl _)
   have hi9 : i ≤ 9 := by simp at h2; omega
   have hx := hx hi9
   have hb := yY7 (t := t) (i := i) hi9
   have hdd : dat t i < 256 := zE9 t i
   refine aR fun Z hZ => sM rfl rfl <| jB2 ?_
   refine sAN hZ rfl rfl <| f10K 1 3 4 6 7 8 9 35 36 55 rfl <| aC0 (fun h3 => ?_) (fun h3 => ?_)
   ·have hd1 : dat t i < 128 := by
     have : (((t.getD i 0).toNat : Int)) < 128 := by simpa using h3
     simp only [dat]
     omega
    have hic : i = cnt 10 t := by
     rcases xP i (cnt 10 t) with h4 | h4
     ·have := yI9 10 t i h4
      omega
     ·omega
    refine aR fun Z hZ => sM rfl rfl <| sM rfl rfl <| jB7 Tryz.underlying5 Tryz.underlying25 rfl ((dat t i : Nat) : Int) (by rw [l6 _ (by have := (t.getD i 0).toNat_lt; omega)]; rfl) rfl ?_
    refine sM rfl rfl <| vB9 rfl rfl ((7 * i : Nat) : Int) (add7 i hi9) rfl <| vP3 rfl rfl (by omega) _ rfl rfl ?_
    refine jJ1 (.inr (.inl rfl)) rfl rfl ((valL (t.take (i + 1)) % 18446744073709551616 : Nat) : Int) (by rw [hx, zA8 hi9 hb, kL5 hlt, zU hd1]) rfl ?_
    refine sAN hZ rfl rfl ?_
    refine f5K 1 3 4 7 8 rfl ?_
    refine aR fun Z hZ => sM rfl rfl ?_
    refine jC2 rfl rfl ((i + 1 : Nat) : Int) (by rw [lT _ (by omega)]; omega) rfl ?_
    refine sA rfl rfl <| sAN hZ rfl rfl <| f6K 1 3 4 5 6 7 rfl <| jB1 ?_
    repeat (with_reducible (first | refine nTE ?_ | refine jR7 (by decide) ?_))
    refine nBE <| jE4 (valL (t.take (i + 1)) % 18446744073709551616, i + 1, true) (.inr ⟨rfl, by show i + 1 = _; omega, by omega, by omega, rfl⟩) (kR rfl) (HLe.refl _)
   have hd1 : 128 ≤ dat t i := by
    have : ¬ (((t.getD i 0).toNat : Int)) < 128 := by simpa using h3
    simp only [dat]
    omega
   have hic : i < cnt 10 t := by
    rcases xP i (cnt 10 t) with h4 | h4
    ·exact h4
    ·obtain rfl : i = cnt 10 t := by omega
     have := wP9 10 t (by omega) hlt
     omega
   refine aR fun Z hZ => sM rfl rfl <| sM rfl rfl <| jJ1 (.inl rfl) rfl rfl ((dat t i % 128 : Nat) : Int) (zG3 _ (t.getD i 0).toNat_lt) rfl <| jB7 Tryz.underlying5 Tryz.underlying25 rfl ((dat t i % 128 : Nat) : Int) (by rw [l6 _ (by omega)]) rfl ?_
   refine sM rfl rfl <| vB9 rfl rfl ((7 * i : Nat) : Int) (add7 i hi9) rfl <| vP3 rfl rfl (by omega) _ rfl rfl ?_
   refine jJ1 (.inr (.inl rfl)) rfl rfl ((valL (t.take (i + 1)) % 18446744073709551616 : Nat) : Int) (by rw [hx, zA8 hi9 hb, kL5 hlt]) rfl ?_
   refine sAN hZ rfl rfl ?_
   refine f8K 1 3 4 6 7 8 35 36 rfl ?_
   refine aG (fun Z hZ => ?_)
   refine sM rfl rfl ?_
   refine jC2 rfl rfl ((i + 1 : Nat) : Int) (by rw [lT _ (by omega)]; omega) rfl ?_
   refine sAN hZ rfl rfl <| nF [(1, _), (3, _), (4, _), (5, _), (6, _), (7, _), (35, _), (36, _)] (kR rfl) ?_
   repeat refine nBN ?_
   refine nN ?_
   refine aG (fun Z hZ => ?_)
   refine jC2 rfl rfl ((i + 1 : Nat) : Int) (by rw [lT _ (by omega)]; omega) rfl ?_
   refine sMN hZ rfl rfl <| nF [(1, _), (3, _), (4, _), (5, _), (6, _), (7, _), (35, _), (36, _)] (kR rfl) <| jB8 (i + 1, valL (t.take (i + 1)) % 18446744073709551616) ⟨by show i + 1 ≤ _; omega, fun h9 => ?_⟩ (by simp; omega) (kR rfl) (HLe.refl _)
   exact kU2 (by omega) hlt (fun h => by simp at h9; omega)
  ·have hge : i = t.length := by simp at h; omega
   refine jB1 ?_
   repeat refine nTE ?_
   refine nBE <| jE4 (x, i, false) (.inl ⟨rfl, by show i = _; omega, .inr hge⟩) (kR rfl) (HLe.refl _)
 rintro ⟨x, n, b⟩ hj
 simp only at hj
 refine nN ?_
 show awp _ _ _ _ _ [(1, ptr g1 0), (3, ptr g2 0), (4, uq x), (5, iq n), (6, .bool b), (7, .string (str t))] _ _
 have done : ∀ e : Nat, jE1 t = (e, 0) → e ≠ 0 → getQ s p = (0, p, e) := fun e he h0 => by
  unfold getQ
  rw [ht, he, if_neg h0]
 refine aS (aB ?_)
 rcases hj with ⟨hb, hn, hor⟩ | ⟨hb, hn, h10, hcl2, hx⟩
 ·subst hb hn
  refine jA3 [(1, ptr g1 0), (3, ptr g2 0), (4, uq x), (5, iq (cnt 10 t : Nat)), (6, .bool false), (7, .string (str t)), (68, .bool (decide (cnt 10 t = 10)))] [.own g2 159 [.string (str []), iq 0, iq 0], .own g1 159 [.string (str s), iq p, iq 0]] (fun Z hZ => ?_) ?_
  ·refine sM rfl rfl <| jI8 rfl rfl <| sM rfl rfl <| jE5 71 rfl true (by rfl) ?_
   refine sOn0 ?_
   refine sM rfl rfl <| sOn0 ?_
   refine jB0 ?_
   refine sP rfl rfl rfl <| sA rfl rfl <| sN (hZ _ _ ?_ ?_)
   ·exact Kn.cons rfl (Kn.cons rfl (Kn.cons rfl (Kn.cons rfl (Kn.cons rfl (Kn.cons rfl (Kn.cons (congrArg some (congrArg Value.bool (by rw [lR]; simp; omega))) Kn.nil))))))
   ·exact HLe.refl _
  refine aC0 (fun h => ?_) (fun h => ?_)
  ·have h10 : cnt 10 t = 10 := by simpa using h
   rw [done 11 (by unfold jE1; rw [if_pos h10]) (by decide)]
   refine aR (fun Z hZ => sLA0 1 tyA159 tyS159 ?_)
   refine sCP0 (kT9 s p 0 11) ?_
   refine sX rfl rfl rfl <| sX rfl rfl rfl <| sA rfl rfl <| sS0 0 tyS159 ?_
   refine sN (hZ _ _ <| f2K 2 3 rfl <| aE ?_)
   repeat (with_reducible (first | refine nTR ?_ | refine nBR ?_ | refine jF5 ?_))
   exact jF8 rfl rfl (ResOk.cell 0 rfl rfl tyA159 tyS159 rfl) rfl
  ·have h10 : cnt 10 t ≠ 10 := by simpa using h
   rw [done 3 (by unfold jE1; rw [if_neg h10, if_pos (hor.resolve_left h10)]) (by decide)]
   refine aR fun Z hZ => sM rfl rfl <| jI8 rfl rfl <| sAN hZ rfl rfl <| f6K 1 3 4 5 7 79 rfl <| aC0 (fun h2 => ?_) (fun h2 => ?_)
   ·refine aR (fun Z hZ => sLA0 1 tyA159 tyS159 ?_)
    refine sCP0 (kT9 s p 0 3) ?_
    refine sX rfl rfl rfl <| sX rfl rfl rfl <| sA rfl rfl <| sS0 0 tyS159 ?_
    refine sN (hZ _ _ <| f2K 2 3 rfl <| aE ?_)
    repeat (with_reducible (first | refine nTR ?_ | refine nBR ?_ | refine jF5 ?_))
    exact jF8 rfl rfl (ResOk.cell 0 rfl rfl tyA159 tyS159 rfl) rfl
   ·cases h2
 ·subst hb hn
  have hdk := wP9 10 t h10 hcl2
  have hdx := wL4 hcl2
  have hdd : (t.getD (cnt 10 t) 0).toNat = dat t (cnt 10 t) := rfl
  have e9 : cnt 10 t = 9 → dat t 9 = dat t (cnt 10 t) := fun h => by rw [h]
  refine jA3 [(1, ptr g1 0), (3, ptr g2 0), (4, uq x), (5, iq (cnt 10 t + 1 : Nat)), (6, .bool true), (7, .string (str t)), (68, .bool false)] [.own g2 159 [.string (str []), iq 0, iq 0], .own g1 159 [.string (str s), iq p, iq 0]] (fun Z hZ => ?_) ?_
  ·refine sM rfl rfl <| jI8 rfl rfl <| sM rfl rfl <| jD0 71 rfl (fun hb2 => ?_) (fun hb2 => ?_)
   ·refine sOn0 ?_
    refine sM rfl rfl <| sOn0 ?_
    refine jB0 ?_
    refine sP rfl rfl rfl <| sA rfl rfl <| sN (hZ _ _ ?_ ?_)
    ·(exfalso; revert hb2; decide)
    ·exact HLe.refl _
   ·refine sO0 ?_
    refine sO0 ?_
    refine sP rfl rfl rfl <| sA rfl rfl <| sN (hZ _ _ ?_ ?_)
    ·exact kR rfl
    ·exact HLe.refl _
  refine aC0 (fun h => ?_) (fun h => ?_)
  ·cases h
  refine aR fun Z hZ => sM rfl rfl <| jI8 rfl rfl <| sAN hZ rfl rfl <| f6K 1 3 4 5 7 79 rfl <| aC0 (fun h2 => ?_) (fun h2 => ?_)
  ·cases h2
  refine jA3 [(1, ptr g1 0), (3, ptr g2 0), (4, uq x), (5, iq (cnt 10 t + 1 : Nat)), (7, .string (str t)), (86, .bool (decide (cnt 10 t = 9 ∧ 1 < dat t 9)))] [.own g2 159 [.string (str []), iq 0, iq 0], .own g1 159 [.string (str s), iq p, iq 0]] (fun Z hZ => ?_) ?_
  ·refine sM rfl rfl <| jB0 ?_
   refine sM rfl rfl <| jD0 89 rfl (fun hb2 => ?_) (fun hb2 => ?_)
   ·refine sOn0 ?_
    refine sM rfl rfl <| sOn0 ?_
    refine sM rfl rfl <| sOn0 ?_
    refine jN3 rfl rfl ((cnt 10 t : Nat) : Int) (by rw [lT _ (by omega)]; omega) rfl ?_
    refine sOn0 ?_
    refine jK4 (l := t) (c := t.getD (cnt 10 t) 0) Tryz.underlying9 rfl rfl (by omega) hdx rfl ?_
    refine sOn0 ?_
    refine jC4 ?_
    refine sP rfl rfl rfl <| sA rfl rfl <| sN (hZ _ _ ?_ ?_)
    ·exact Kn.cons rfl (Kn.cons rfl (Kn.cons rfl (Kn.cons rfl (Kn.cons rfl (Kn.cons (congrArg some (congrArg Value.bool (by simp at hb2; rw [lR]; simp only [decide_eq_true_eq, hdd]; omega))) Kn.nil)))))
    ·exact HLe.refl _
   ·refine sO0 ?_
    refine sO0 ?_
    refine sO0 ?_
    refine sO0 ?_
    refine sO0 ?_
    refine sP rfl rfl rfl <| sA rfl rfl <| sN (hZ _ _ ?_ ?_)
    ·exact Kn.cons rfl (Kn.cons rfl (Kn.cons rfl (Kn.cons rfl (Kn.cons rfl (Kn.cons (congrArg some (congrArg Value.bool (by simp at hb2; rw [lR]; simp only [decide_eq_true_eq, Bool.false_eq_true, false_iff]; omega))) Kn.nil)))))
    ·exact HLe.refl _
  refine aC0 (fun h3 => ?_) (fun h3 => ?_)
  ·have h9 : cnt 10 t = 9 ∧ 1 < dat t 9 := by simpa using h3
   rw [done 11 (by unfold jE1; rw [if_neg (by omega), if_neg (by omega), if_pos h9]) (by decide)]
   refine aR (fun Z hZ => sLA0 1 tyA159 tyS159 ?_)
   refine sCP0 (kT9 s p 0 11) ?_
   refine sX rfl rfl rfl <| sX rfl rfl rfl <| sA rfl rfl <| sS0 0 tyS159 ?_
   refine sN (hZ _ _ <| f2K 2 3 rfl <| aE ?_)
   repeat (with_reducible (first | refine nTR ?_ | refine nBR ?_ | refine jF5 ?_))
   exact jF8 rfl rfl (ResOk.cell 0 rfl rfl tyA159 tyS159 rfl) rfl
  have h9 : ¬ (cnt 10 t = 9 ∧ 1 < dat t 9) := by simpa using h3
  refine jA3 [(1, ptr g1 0), (3, ptr g2 0), (4, uq x), (5, iq (cnt 10 t + 1 : Nat)), (100, .bool (decide (0 < cnt 10 t ∧ dat t (cnt 10 t) = 0)))] [.own g2 159 [.string (str []), iq 0, iq 0], .own g1 159 [.string (str s), iq p, iq 0]] (fun Z hZ => ?_) ?_
  ·refine sM rfl rfl <| jC4 ?_
   refine sM rfl rfl <| jD0 103 rfl (fun hb2 => ?_) (fun hb2 => ?_)
   ·refine sOn0 ?_
    refine sM rfl rfl <| sOn0 ?_
    refine sM rfl rfl <| sOn0 ?_
    refine jN3 rfl rfl ((cnt 10 t : Nat) : Int) (by rw [lT _ (by omega)]; omega) rfl ?_
    refine sOn0 ?_
    refine jK4 (l := t) (c := t.getD (cnt 10 t) 0) Tryz.underlying9 rfl rfl (by omega) hdx rfl ?_
    refine sOn0 ?_
    refine jB0 ?_
    refine sP rfl rfl rfl <| sA rfl rfl <| sN (hZ _ _ ?_ ?_)
    ·exact Kn.cons rfl (Kn.cons rfl (Kn.cons rfl (Kn.cons rfl (Kn.cons (congrArg some (congrArg Value.bool (by simp at hb2; rw [lR]; simp only [beq_iff_eq, decide_eq_true_eq, hdd]; omega))) Kn.nil))))
    ·exact HLe.refl _
   ·refine sO0 ?_
    refine sO0 ?_
    refine sO0 ?_
    refine sO0 ?_
    refine sO0 ?_
    refine sP rfl rfl rfl <| sA rfl rfl <| sN (hZ _ _ ?_ ?_)
    ·exact Kn.cons rfl (Kn.cons rfl (Kn.cons rfl (Kn.cons rfl (Kn.cons (congrArg some (congrArg Value.bool (by simp at hb2; rw [lR]; simp only [decide_eq_true_eq, Bool.false_eq_true, false_iff]; omega))) Kn.nil))))
    ·exact HLe.refl _
  refine aC0 (fun h4 => ?_) (fun h4 => ?_)
  ·have h0 : 0 < cnt 10 t ∧ dat t (cnt 10 t) = 0 := by simpa using h4
   rw [done 4 (by unfold jE1; rw [if_neg (by omega), if_neg (by omega), if_neg h9, if_pos h0]) (by decide)]
   refine aR (fun Z hZ => sLA0 1 tyA159 tyS159 ?_)
   refine sCP0 (kT9 s p 0 4) ?_
   refine sX rfl rfl rfl <| sX rfl rfl rfl <| sA rfl rfl <| sS0 0 tyS159 ?_
   refine sN (hZ _ _ <| f2K 2 3 rfl <| aE ?_)
   repeat (with_reducible (first | refine nTR ?_ | refine nBR ?_ | refine jF5 ?_))
   exact jF8 rfl rfl (ResOk.cell 0 rfl rfl tyA159 tyS159 rfl) rfl
  have h0 : ¬ (0 < cnt 10 t ∧ dat t (cnt 10 t) = 0) := by simpa using h4
  refine aK ?_
  repeat refine nBN ?_
  refine nN ?_
  have hw : jE1 t = (0, cnt 10 t + 1) := by unfold jE1; rw [if_neg (by omega), if_neg (by omega), if_neg h9, if_neg h0]
  have hg : getQ s p = (x, p + (cnt 10 t + 1), 0) := by
   unfold getQ
   rw [ht, hw, if_pos rfl, hx, kU2 (by omega) hcl2 (fun h => by have : ¬ 1 < dat t 9 := fun h' => h9 ⟨h, h'⟩; omega)]
  rw [hg]
  refine aR (fun Z hZ => sFA0 jP2 ?_)
  refine sL0 1 tyA3 tyS3 ?_
  refine sM rfl rfl ?_
  refine jC2 rfl rfl ((p + (cnt 10 t + 1) : Nat) : Int) (by rw [lT _ (by omega)]; omega) rfl ?_
  refine sFA0 jP2 ?_
  refine sS10 1 tyS3 ?_
  refine sN (hZ _ _ <| f3K 1 3 4 rfl <| jY8 [0, 1, 2, 3] mixed (by kernel_rfl) rfl (fun Z hZ => ?_))
  refine sM rfl rfl <| sLA0 1 tyA159 tyS159 ?_
  refine sA rfl rfl <| sS0 0 tyS159 ?_
  refine sN (hZ _ _ <| f2K 2 3 rfl <| aE ?_)
  repeat refine jF5 ?_
  exact jF8 rfl rfl (ResOk.cell 0 rfl rfl tyA159 tyS159 rfl) rfl
end V
namespace V
open Go.RowKit
theorem wS9 {t : List UInt8} (h : (jE1 t).1 = 0) : (jE1 t).2 = cnt 10 t + 1 ∧ cnt 10 t < 10 ∧ cnt 10 t < t.length ∧ (cnt 10 t = 9 → dat t 9 ≤ 1) := by
 obtain ⟨hc10, hcl⟩ := wP8 10 t
 unfold jE1 at h ⊢
 by_cases h1 : cnt 10 t = 10
 ·rw [if_pos h1] at h; cases h
 rw [if_neg h1] at h ⊢
 by_cases h2 : cnt 10 t = t.length
 ·rw [if_pos h2] at h; cases h
 rw [if_neg h2] at h ⊢
 by_cases h3 : cnt 10 t = 9 ∧ 1 < dat t 9
 ·rw [if_pos h3] at h; cases h
 rw [if_neg h3] at h ⊢
 by_cases h4 : 0 < cnt 10 t ∧ dat t (cnt 10 t) = 0
 ·rw [if_pos h4] at h; cases h
 rw [if_neg h4]
 exact ⟨rfl, by omega, by omega, fun h9 => by omega⟩
end V
end Go.Proofs.YtfeopecgedbfpaaGreatDoor
