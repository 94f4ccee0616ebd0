/- The small logic's rule for a range over a function, and for the end of a function that has one. No conditions. -/
import Derived.Test.YtfffhnefjaomnaaSxI
namespace Go.Proofs.Ytfffhnefjaomnaa
open Go.RowKit
set_option linter.unusedVariables false
set_option linter.unusedSimpArgs false
set_option linter.unusedSectionVars false
section
variable {P : Program} {w0 w w' : World} {Wr : List Nat} {H : Heap}
theorem Only.putObj (w : World) (l : Nat) (o : Obj) : Only [l] w (w.putObj l o) :=
  ⟨rfl, rfl, rfl, by simp, fun i _ hi => World.putObj_heap_other (by simpa using hi)⟩
/-- A block that is not known turns. -/
theorem Sat.turnOut {l : Nat} {o : Obj} (h : Sat w0 Wr H w) (hl : l ∈ Wr ∨ w0.heap.size ≤ l) (hn : ∀ e ∈ H, e.g ≠ l) : Sat w0 Wr H (w.putObj l o) :=
  ⟨h.only.trans (Only.putObj w l o) (by simpa using hl), fun e he => ⟨Ent.keep (h.ents e he).1 (by simp) (World.putObj_heap_other (hn e he)), (h.ents e he).2⟩, h.sep⟩
theorem Sat.base (h : Sat w0 Wr H w) : Sat w (wrs H) H w := ⟨Only.refl _ _, fun e he => ⟨(h.ents e he).1, fun hw => .inl (mem_wrs.2 ⟨e, he, hw, rfl⟩)⟩, h.sep⟩
theorem Sat.head {e : Ent} (h : Sat w0 Wr (e :: H) w) (he : e.wr = true) : ∀ x ∈ H, x.g ≠ e.g := fun x hx => by
  have := (List.pairwise_cons.1 h.sep).1 x hx (by simp [he])
  exact fun hg => this hg.symm
theorem Sat.tail {e : Ent} (h : Sat w0 Wr (e :: H) w) : Sat w0 Wr H w := h.sub (List.sublist_cons_self _ _)
theorem Sat.swap2 {a b : Ent} (h : Sat w0 Wr (a :: b :: H) w) : Sat w0 Wr (b :: a :: H) w := h.perm (List.Perm.swap b a H)
/-- A new entry ahead of those that are known. -/
theorem Sat.consW {e : Ent} (h : Sat w0 Wr H w) (he : e.holds w) (hw : e.g ∈ Wr ∨ w0.heap.size ≤ e.g) (hn : ∀ x ∈ H, x.g ≠ e.g) : Sat w0 Wr (e :: H) w :=
  ⟨h.only, fun x hx => by
    rcases List.mem_cons.1 hx with rfl | hx
    · exact ⟨he, fun _ => hw⟩
    · exact h.ents x hx, List.Pairwise.cons (fun x hx _ hg => hn x hx hg.symm) h.sep⟩
end
/-- How a round's body may be left: its memory is then what the family says, or the loop is left. -/
def RPost (w0 : World) (Wr : List Nat) (J : Heap → Prop) (S : Code → Heap → Prop) : Exit → Act → World → Prop
  | .normal, _, w => ∃ T, J T ∧ Sat w0 Wr T w
  | .ret, _, w => ∃ T, S .ret T ∧ Sat w0 Wr T w
  | .exit id, _, w => ∃ T, S (.exit id) T ∧ Sat w0 Wr T w
  | _, _, _ => False
/-- How the assignment to the loop's own variables is left: the body goes on, from this frame, with these new entries. -/
def APost (N : Frm) (w0 : World) (Wr : List Nat) (H : Heap) (Z : Fr → Heap → Prop) : Exit → Act → World → Prop :=
  fun e a w => e = .normal ∧ ∃ fr1 X, Wrs X ∧ Z fr1 X ∧ FrOk N fr1 a ∧ Sat w0 Wr (X ++ H) w
def zipFr : List Nat → List Value → Fr → Fr
  | p :: ps, v :: vs, fr => zipFr ps vs ((p, v) :: fr)
  | _, _, fr => fr
theorem zipFr_list {N : Frm} {l : Option Nat} : ∀ (ps : List Nat) (vs : List Value) (fr : Fr) (tmps : Array Value), ps.all (fun p => Nat.ble (p + 1) N.n) = true → FrOk N fr { tmps := tmps, defers := N.ds.map markOf } →
    FrOk ⟨N.n, l, []⟩ (zipFr ps vs fr) { tmps := (ps.zip vs).foldl (fun tmps (t, a) => tmps.setIfInBounds t a) tmps, defers := [] }
  | [], vs, fr, tmps, _, h => by
    simp only [zipFr]
    exact ⟨by simpa using h.size, rfl, fun t v hv => by simpa using h.at_ t v hv⟩
  | p :: ps, [], fr, tmps, _, h => by
    simp only [zipFr]
    exact ⟨by simpa using h.size, rfl, fun t v hv => by simpa using h.at_ t v hv⟩
  | p :: ps, v :: vs, fr, tmps, hp, h => by
    simp only [List.all_cons, Bool.and_eq_true] at hp
    have := zipFr_list (l := l) ps vs ((p, v) :: fr) (tmps.setIfInBounds p v) hp.2 (h.put hp.1 v)
    simpa [zipFr] using this
theorem zipFr_ok {N : Frm} {l : Option Nat} (ps : List Nat) (vs : List Value) (fr : Fr) (tmps : Array Value) (hp : ps.all (fun p => Nat.ble (p + 1) N.n) = true) (h : FrOk N fr { tmps := tmps, defers := N.ds.map markOf }) :
    FrOk ⟨N.n, l, []⟩ (zipFr ps vs fr) { tmps := (ps.toArray.zip vs.toArray).foldl (fun tmps (t, a) => tmps.setIfInBounds t a) tmps, defers := [] } := by
  rw [List.zip_toArray, List.foldl_toArray]
  exact zipFr_list ps vs fr tmps hp h
section
variable {P : Program} {n : Nat} {ds : List Nat} {w0 : World} {Wr : List Nat} {fr : Fr} {H : Heap} {Q : Exit → Act → World → Prop}
theorem nx_assign {N : Frm} {Z : Fr → Heap → Prop} {K : Heap} (X : Heap) (hX : Wrs X) (hH : HLe (X ++ K) H) (h : Z fr X) : nx N w0 Wr fr H (APost N w0 Wr K Z) .normal :=
  fun _ _ ha hw => ⟨rfl, fr, X, hX, h, ha, hH _ _ _ hw⟩
theorem nx_next {N : Frm} {J : Heap → Prop} {S : Code → Heap → Prop} (T : Heap) (hJ : J T) (hH : HLe T H) : nx N w0 Wr fr H (RPost w0 Wr J S) .normal := fun _ _ _ hw => ⟨T, hJ, hH _ _ _ hw⟩
theorem nx_stopRet {N : Frm} {J : Heap → Prop} {S : Code → Heap → Prop} (T : Heap) (hS : S .ret T) (hH : HLe T H) : nx N w0 Wr fr H (RPost w0 Wr J S) .ret := fun _ _ _ hw => ⟨T, hS, hH _ _ _ hw⟩
theorem nx_stopExit {N : Frm} {J : Heap → Prop} {S : Code → Heap → Prop} {id : Nat} (T : Heap) (hS : S (.exit id) T) (hH : HLe T H) : nx N w0 Wr fr H (RPost w0 Wr J S) (.exit id) := fun _ _ _ hw => ⟨T, hS, hH _ _ _ hw⟩
/-- One round. -/
theorem round_ok {l D : Nat} {rec : LoopState → Option Code → Loop} {ps : List Nat} {assign body : Code} {tmps : Array Value} {vs : List Value} {J Jr : Heap} {J' : Heap → Prop} {S : Code → Heap → Prop}
    (hrec : ∃ fn, rec = fun st pe => { state := st, pending := pe, fn, tmps, params := ps.toArray, assign, body, defers := D })
    (hvs : vs.length = ps.length) (hf : FrOk ⟨n, none, ds⟩ fr { tmps := tmps, defers := ds.map markOf }) (hN : ps.all (fun p => Nat.ble (p + 1) n) = true) (hJ' : ∀ T, J' T → Wrs T) (hS : ∀ c T, S c T → Wrs T) (hJr : Ro Jr)
    (hround : ∀ w0, awp P ⟨n, some l, []⟩ w0 (wrs (J ++ Jr)) assign (zipFr ps vs fr) (J ++ Jr) (APost ⟨n, some l, []⟩ w0 (wrs (J ++ Jr)) (J ++ Jr) fun fr1 X => ∀ w2, awp P ⟨n, some l, []⟩ w2 (wrs (X ++ (J ++ Jr))) body fr1 (X ++ (J ++ Jr)) (RPost w2 (wrs (X ++ (J ++ Jr))) J' S)))
    (hpl : plainC assign = true ∧ plainC body = true) :
    YOk P l vs ((.ob l (isLoop (rec .ready none)) :: .ob D isDef :: J) ++ Jr) (Goes (fun T => ∃ T', J' T' ∧ T = .ob l (isLoop (rec .ready none)) :: .ob D isDef :: T') fun T => ∃ c T', S c T' ∧ T = .ob l (isLoop (rec .done (some c))) :: .ob D isDef :: T') := by
  obtain ⟨fn, hrec⟩ := hrec
  intro w hw
  have hl : w.heap[l]? = some (.loop (rec .ready none)) := by
    obtain ⟨o, h1, h2⟩ := (hw.ents _ List.mem_cons_self).1
    rw [h1, h2]
  have hD : w.heap[D]? = some (.deferred (some [])) := by
    obtain ⟨o, h1, h2⟩ := (hw.ents _ (List.mem_cons_of_mem _ List.mem_cons_self)).1
    rw [h1, h2]
  have hlD : l ≠ D := fun e => by subst e; rw [hl] at hD; cases hD
  have hlt : l < w.heap.size := (Array.getElem?_eq_some_iff.1 hl).1
  have hDt : D < w.heap.size := (Array.getElem?_eq_some_iff.1 hD).1
  have hnl : ∀ x ∈ J ++ Jr, x.g ≠ l := fun x hx => hw.head rfl x (List.mem_cons_of_mem _ hx)
  have hnD : ∀ x ∈ J ++ Jr, x.g ≠ D := fun x hx => hw.tail.head rfl x hx
  have hwJ : Sat w (wrs (J ++ Jr)) (J ++ Jr) w := hw.tail.tail.base
  have hy := run_yield (P := P) (w := w) (args := vs.toArray) hl (by rw [hrec]; simp [hvs])
  rw [hrec] at hy
  refine ⟨fn, _, assign, body, hy, roundIn_of_wpIn trivial ?_⟩
  have ha := hround w _ w (zipFr_ok (l := some l) ps vs fr tmps hN hf) hwJ (fun _ => hpl.1)
  refine Go.wpIn_mono ha ?_
  rintro e a1 w1 ⟨rfl, fr1, X, hX, hb, hfr1, hw1⟩
  -- what of the loop's own blocks is known, behind whatever the round does
  have hs1 : w.heap.size ≤ w1.heap.size := hw1.only.size
  have hl1 : w1.heap[l]? = some (.loop (rec .ready none)) := (hw1.only.block l hlt (fun hm => by obtain ⟨x, hx, _, hg⟩ := mem_wrs.1 hm; exact hnl x hx hg)).trans hl
  have hD1 : w1.heap[D]? = some (.deferred (some [])) := (hw1.only.block D hDt (fun hm => by obtain ⟨x, hx, _, hg⟩ := mem_wrs.1 hm; exact hnD x hx hg)).trans hD
  have hXg : ∀ k, k < w.heap.size → (∀ x ∈ J ++ Jr, x.g ≠ k) → ∀ x ∈ X ++ (J ++ Jr), x.g ≠ k := fun k hk hn x hx => by
    rcases List.mem_append.1 hx with hx | hx
    · rcases (hw1.ents x (List.mem_append_left _ hx)).2 (hX x hx) with h1 | h1
      · obtain ⟨y, hy, _, hg⟩ := mem_wrs.1 h1
        exact hg ▸ hn y hy
      · omega
    · exact hn x hx
  have hXl := hXg l hlt hnl
  have hXD := hXg D hDt hnD
  obtain ⟨w2, hw2e⟩ : ∃ w2, w1.putObj l (.loop { rec .ready none with state := .busy }) = w2 := ⟨_, rfl⟩
  have hbr := run_beginRound (P := P) hl1 (by rw [hrec])
  rw [hw2e] at hbr
  refine ⟨w2, hbr, ?_⟩
  have hbusy : ({ rec .ready none with state := .busy } : Loop) = rec .busy none := by rw [hrec]
  have hl2 : w2.heap[l]? = some (.loop (rec .busy none)) := by rw [← hw2e, hbusy]; exact World.putObj_heap_same (by omega)
  have hD2 : w2.heap[D]? = some (.deferred (some [])) := by rw [← hw2e]; exact (World.putObj_heap_other (Ne.symm hlD)).trans hD1
  have hs2 : w2.heap.size = w1.heap.size := by rw [← hw2e]; simp
  have hw2 : Sat w2 (wrs (X ++ (J ++ Jr))) (X ++ (J ++ Jr)) w2 := by
    have h1 : Sat w1 (wrs (X ++ (J ++ Jr))) (X ++ (J ++ Jr)) w1 := hw1.base
    have h2 : Sat w1 (l :: wrs (X ++ (J ++ Jr))) (X ++ (J ++ Jr)) w1 := ⟨⟨rfl, rfl, rfl, Nat.le_refl _, fun _ _ _ => rfl⟩, fun e he => ⟨(h1.ents e he).1, fun hh => ((h1.ents e he).2 hh).imp (List.mem_cons_of_mem _) id⟩, h1.sep⟩
    rw [← hw2e]
    exact (h2.turnOut (.inl List.mem_cons_self) hXl).base
  have ho2 : Only (l :: wrs (J ++ Jr)) w w2 := by
    rw [← hw2e]
    refine (Only.trans (Wr := l :: wrs (J ++ Jr)) (Wr' := [l]) (w2 := w1.putObj l _) ⟨hw1.only.os, hw1.only.tape, hw1.only.output, hw1.only.size, fun i hi hn => hw1.only.block i hi (fun hm => hn (List.mem_cons_of_mem _ hm))⟩ (Only.putObj w1 l _) ?_)
    simp
  have hb2 := hb w2 a1 w2 hfr1 hw2 (fun _ => hpl.2)
  refine Go.wpIn_mono hb2 ?_
  -- the round's end, by whatever way
  have fin : ∀ (jump : Option Code) (T : Heap) (w3 : World), Wrs T → Sat w2 (wrs (X ++ (J ++ Jr))) T w3 → ∃ w4, (Instr.endRound l jump).run P w3 = .ok (.bool jump.isNone) w4 ∧
      Sat w (wrs ((.ob l (isLoop (rec .ready none)) :: .ob D isDef :: J) ++ Jr)) (.ob l (isLoop (rec (if jump.isNone then .ready else .done) jump)) :: .ob D isDef :: T) w4 := fun jump T w3 hT h3 => by
    have hl3 : w3.heap[l]? = some (.loop (rec .busy none)) := (h3.only.block l (by omega) (fun hm => by obtain ⟨x, hx, _, hg⟩ := mem_wrs.1 hm; exact hXl x hx hg)).trans hl2
    have hD3 : w3.heap[D]? = some (.deferred (some [])) := (h3.only.block D (by omega) (fun hm => by obtain ⟨x, hx, _, hg⟩ := mem_wrs.1 hm; exact hXD x hx hg)).trans hD2
    have hlt3 : l < w3.heap.size := (Array.getElem?_eq_some_iff.1 hl3).1
    have hend := run_endRound (P := P) jump hl3
    have hre : ({ rec .busy none with state := if jump.isNone then .ready else .done, pending := jump } : Loop) = rec (if jump.isNone then .ready else .done) jump := by rw [hrec]
    rw [hre] at hend
    refine ⟨_, hend, ?_⟩
    have hTg : ∀ k, k < w.heap.size → (∀ x ∈ X ++ (J ++ Jr), x.g ≠ k) → ∀ x ∈ T, x.g ≠ k := fun k hk hn x hx => by
      rcases (h3.ents x hx).2 (hT x hx) with h1 | h1
      · obtain ⟨y, hy, _, hg⟩ := mem_wrs.1 h1
        exact hg ▸ hn y hy
      · omega
    have hin : ∀ i ∈ wrs (X ++ (J ++ Jr)), i ∈ wrs ((.ob l (isLoop (rec .ready none)) :: .ob D isDef :: J) ++ Jr) ∨ w.heap.size ≤ i := fun i hi => by
      obtain ⟨x, hx, hxw, rfl⟩ := mem_wrs.1 hi
      rcases List.mem_append.1 hx with hx | hx
      · rcases (hw1.ents x (List.mem_append_left _ hx)).2 hxw with h1 | h1
        · obtain ⟨y, hy, hyw, hg⟩ := mem_wrs.1 h1
          exact .inl (mem_wrs.2 ⟨y, List.mem_cons_of_mem _ (List.mem_cons_of_mem _ hy), hyw, hg⟩)
        · exact .inr h1
      · exact .inl (mem_wrs.2 ⟨x, List.mem_cons_of_mem _ (List.mem_cons_of_mem _ hx), hxw, rfl⟩)
    have hlW : l ∈ wrs ((.ob l (isLoop (rec .ready none)) :: .ob D isDef :: J) ++ Jr) := mem_wrs.2 ⟨_, List.mem_cons_self, rfl, rfl⟩
    have hDW : D ∈ wrs ((.ob l (isLoop (rec .ready none)) :: .ob D isDef :: J) ++ Jr) := mem_wrs.2 ⟨_, List.mem_cons_of_mem _ List.mem_cons_self, rfl, rfl⟩
    have ho3 : Only (wrs ((.ob l (isLoop (rec .ready none)) :: .ob D isDef :: J) ++ Jr)) w w3 := by
      refine Only.trans (w := w2) ⟨ho2.os, ho2.tape, ho2.output, ho2.size, fun i hi hn => ho2.block i hi (fun hm => hn ?_)⟩ h3.only hin
      rcases List.mem_cons.1 hm with rfl | hm
      · exact hlW
      · obtain ⟨x, hx, hxw, rfl⟩ := mem_wrs.1 hm
        exact mem_wrs.2 ⟨x, List.mem_cons_of_mem _ (List.mem_cons_of_mem _ hx), hxw, rfl⟩
    have hT3 : Sat w (wrs ((.ob l (isLoop (rec .ready none)) :: .ob D isDef :: J) ++ Jr)) T w3 := ⟨ho3, fun e he => ⟨(h3.ents e he).1, fun hh => ((h3.ents e he).2 hh).elim (hin _) (fun h => .inr (by omega))⟩, h3.sep⟩
    have hT4 := hT3.turnOut (o := .loop (rec (if jump.isNone then .ready else .done) jump)) (.inl hlW) (hTg l hlt hXl)
    refine Sat.consW (Sat.consW hT4 ⟨_, (World.putObj_heap_other (Ne.symm hlD)).trans hD3, rfl⟩ (.inl hDW) (hTg D hDt hXD)) ⟨_, World.putObj_heap_same hlt3, rfl⟩ (.inl hlW) (fun x hx => ?_)
    rcases List.mem_cons.1 hx with rfl | hx
    · exact Ne.symm hlD
    · exact hTg l hlt hXl x hx
  rintro e a3 w3 hp
  cases e with
  | normal =>
    obtain ⟨T, hT, hp⟩ := hp
    obtain ⟨w4, h1, h2⟩ := fin none T w3 (hJ' T hT) hp
    exact ⟨_, w4, h1, _, _, rfl, ⟨true, rfl, fun _ => ⟨T, hT, rfl⟩, fun e => by cases e⟩, h2⟩
  | ret =>
    obtain ⟨T, hT, hp⟩ := hp
    obtain ⟨w4, h1, h2⟩ := fin (some .ret) T w3 (hS _ _ hT) hp
    exact ⟨_, w4, h1, _, _, rfl, ⟨false, rfl, (fun e => by cases e), fun _ => ⟨_, T, hT, rfl⟩⟩, h2⟩
  | exit id =>
    obtain ⟨T, hT, hp⟩ := hp
    obtain ⟨w4, h1, h2⟩ := fin (some (.exit id)) T w3 (hS _ _ hT) hp
    exact ⟨_, w4, h1, _, _, rfl, ⟨false, rfl, (fun e => by cases e), fun _ => ⟨_, T, hT, rfl⟩⟩, h2⟩
  | goto t => exact hp.elim
  | panic ch => exact hp.elim
  | outgrown => exact hp.elim
/-- The statement. -/
theorem awp_range {g : Operand} {ps : List Nat} {assign body : Code} {f : FuncId} {caps : List Value} {RO : Heap} {items : List (List Value)} (J : Nat → Heap → Prop) (Jr : Heap) (S : Code → Heap → Prop) (T0 : Heap) (hit : Iter P f caps RO items)
    (hg : ev fr g = some (.func (.func f) #[] caps.toArray)) (hJ : ∀ k T, J k T → Wrs T) (hS : ∀ c T, S c T → Wrs T) (hJr : Ro Jr) (hRO : Ro RO)
    (hps : ∀ (k : Nat) (vs : List Value), items[k]? = some vs → vs.length = ps.length) (hN : ps.all (fun p => Nat.ble (p + 1) n) = true) (h0 : J 0 T0) (hH : HLe (T0 ++ (RO ++ Jr)) H) (hpl : (plainC assign && plainC body) = true)
    (hround : ∀ k vs T, items[k]? = some vs → J k T → ∀ l w0, awp P ⟨n, some l, []⟩ w0 (wrs (T ++ Jr)) assign (zipFr ps vs fr) (T ++ Jr) (APost ⟨n, some l, []⟩ w0 (wrs (T ++ Jr)) (T ++ Jr) fun fr1 X => ∀ w2, awp P ⟨n, some l, []⟩ w2 (wrs (X ++ (T ++ Jr))) body fr1 (X ++ (T ++ Jr)) (RPost w2 (wrs (X ++ (T ++ Jr))) (J (k + 1)) S)))
    (hdone : ∀ D T, J items.length T → nx ⟨n, none, D :: ds⟩ w0 Wr fr (.ob D isDef :: (T ++ (RO ++ Jr))) Q .normal)
    (hstop : ∀ D c T, S c T → awp P ⟨n, none, D :: ds⟩ w0 Wr c fr (.ob D isDef :: (T ++ (RO ++ Jr))) Q) :
    awp P ⟨n, none, ds⟩ w0 Wr (.rangeFunc g ps.toArray assign body) fr H Q := fun a w ha hw _ => by
  simp only [Bool.and_eq_true] at hpl
  have hw0 := hH _ _ _ hw
  refine wpIn_rangeFunc ?_
  intro fn _
  obtain ⟨rec, hrec⟩ : ∃ rec : LoopState → Option Code → Loop, rec = fun st pe => { state := st, pending := pe, fn, tmps := a.tmps, params := ps.toArray, assign, body, defers := w.heap.size } := ⟨_, rfl⟩
  obtain ⟨w1, hw1e⟩ : ∃ w1, (w.alloc (.deferred (some []))).alloc (.loop (rec .ready none)) = w1 := ⟨_, rfl⟩
  obtain ⟨L, hLe⟩ : ∃ L, w.heap.size + 1 = L := ⟨_, rfl⟩
  obtain ⟨D, hDe⟩ : ∃ D, w.heap.size = D := ⟨_, rfl⟩
  have hw1 : Sat w0 Wr ((.ob L (isLoop (rec .ready none)) :: .ob D isDef :: T0) ++ (RO ++ Jr)) w1 := by
    have h1 := (hw0.allocOb (.deferred (some [])) isDef rfl).allocOb (.loop (rec .ready none)) (isLoop (rec .ready none)) rfl
    rw [World.size_alloc, hw1e, hLe, hDe] at h1
    exact h1
  rw [hDe] at hrec
  have hFn : Fn P f (.func (.yield L) #[] #[] :: caps) _ _ := hit L (fun k T => ∃ T', J k T' ∧ T = .ob L (isLoop (rec .ready none)) :: .ob D isDef :: T') Jr
    (fun T => ∃ c T', S c T' ∧ T = .ob L (isLoop (rec .done (some c))) :: .ob D isDef :: T')
    (fun k T ⟨T', h1, h2⟩ => h2 ▸ .cons rfl (.cons rfl (hJ k T' h1))) (fun T ⟨c, T', h1, h2⟩ => h2 ▸ .cons rfl (.cons rfl (hS c T' h1))) hJr
    (fun k vs T hk ⟨T', h1, h2⟩ => by
      subst h2
      exact round_ok ⟨fn, hrec⟩ (hps k vs hk) ⟨ha.size, rfl, ha.at_⟩ hN (hJ (k + 1)) hS hJr (hround k vs T' hk h1 L) hpl)
    (.ob L (isLoop (rec .ready none)) :: .ob D isDef :: T0) ⟨T0, h0, rfl⟩
  have hroU : Ro (RO ++ Jr) := hRO.append hJr
  -- the call
  have hcall : Calls P f (.func (.yield L) #[] #[] :: caps).toArray w1 fun e w3 => ∃ v T', e = .returned v ∧ ((∃ T, J items.length T ∧ T' = .ob L (isLoop (rec .ready none)) :: .ob D isDef :: T) ∨ (∃ c T, S c T ∧ T' = .ob L (isLoop (rec .done (some c))) :: .ob D isDef :: T)) ∧ Sat w0 Wr (T' ++ (RO ++ Jr)) w3 := by
    have hb : Sat w1 (wrs (RO ++ ((.ob L (isLoop (rec .ready none)) :: .ob D isDef :: T0) ++ Jr))) (RO ++ ((.ob L (isLoop (rec .ready none)) :: .ob D isDef :: T0) ++ Jr)) w1 :=
      (HLe.comm3 _ _ _ _ _ _ hw1).base
    refine (hFn.2 w1 hb).mono fun e w3 he => ?_
    obtain ⟨v, T', rfl, hT, hS3⟩ := he
    have hTW : Wrs T' := by
      rcases hT with ⟨T, h1, rfl⟩ | ⟨c, T, h1, rfl⟩
      · exact .cons rfl (.cons rfl (hJ _ T h1))
      · exact .cons rfl (.cons rfl (hS c T h1))
    refine ⟨v, T', rfl, hT, ?_⟩
    have e1 : wrs (RO ++ ((.ob L (isLoop (rec .ready none)) :: .ob D isDef :: T0) ++ Jr)) = wrs ((.ob L (isLoop (rec .ready none)) :: .ob D isDef :: T0) ++ (RO ++ Jr)) := by
      rw [hroU.wrs, ← List.append_assoc, hJr.wrs]
      simp [wrs, List.filter_append, hRO.filter]
    rw [e1] at hS3
    have h4 := Sat.callA (Hc := .ob L (isLoop (rec .ready none)) :: .ob D isDef :: T0) (K := RO ++ Jr) (U := RO ++ Jr) hw1 hroU hS3
    rwa [hTW.filter] at h4
  obtain ⟨fnc, hE1, hE2, hE3⟩ := hFn.1
  refine ⟨L, [markOf D], w1, { target := .fn (.func f) caps.toArray, args := #[.func (.yield L) #[] #[]] }, w1, f, (.func (.yield L) #[] #[] :: caps).toArray, w1, ?_, ?_, fun _ _ => trivial, ?_, (fun e => by cases e), calls_in (hcall.mono fun e w3 he => ?_)⟩
  · rw [← hw1e, hrec, ← hLe, ← hDe]; exact run_enterLoop_outer _ _ _ _ _
  · simp only [resolve, ha.eval hg]
    simp [go_sem]
  · have h2' : ¬ (fnc.name = "runtime.NumGoroutine") := by simpa using hE2
    have h3' : ¬ (fnc.body = none) := by intro e; rw [e] at hE3; cases hE3
    simp [invoke, callFunc, hE1, h2', h3', program, Sem.run_bind, Sem.run_pure, Sem.run]
  · obtain ⟨v, T', rfl, hT, hS3⟩ := he
    have hact : FrOk ⟨n, none, D :: ds⟩ fr { a with defers := [markOf D] ++ a.defers } := ⟨ha.size, by simp [ha.defers], ha.at_⟩
    rcases hT with ⟨T, hT, rfl⟩ | ⟨c, T, hc, rfl⟩
    · have hl3 : w3.heap[L]? = some (.loop (rec .ready none)) := by
        obtain ⟨o, h1, h2⟩ := (hS3.ents _ List.mem_cons_self).1
        rw [h1, h2]
      obtain ⟨o, hend⟩ : ∃ o, (Instr.endLoop L).run P w3 = .ok (none) (w3.putObj L o) :=
        ⟨_, (run_endLoop (P := P) hl3 (by rw [hrec]; simp)).trans (by rw [show (rec .ready none).pending = none from by rw [hrec]])⟩
      refine ⟨none, _, hend, hdone D T hT _ _ hact (Sat.turnOut (Sat.tail hS3) ?_ (fun x hx => hS3.head rfl x hx))⟩
      exact (hS3.ents _ List.mem_cons_self).2 rfl
    · have hl3 : w3.heap[L]? = some (.loop (rec .done (some c))) := by
        obtain ⟨o, h1, h2⟩ := (hS3.ents _ List.mem_cons_self).1
        rw [h1, h2]
      obtain ⟨o, hend⟩ : ∃ o, (Instr.endLoop L).run P w3 = .ok (some c) (w3.putObj L o) :=
        ⟨_, (run_endLoop (P := P) hl3 (by rw [hrec]; simp)).trans (by rw [show (rec .done (some c)).pending = some c from by rw [hrec]])⟩
      refine ⟨some c, _, hend, hstop D c T hc _ _ hact (Sat.turnOut (Sat.tail hS3) ?_ (fun x hx => hS3.head rfl x hx)) (fun e => by cases e)⟩
      exact (hS3.ents _ List.mem_cons_self).2 rfl
/-- The entries without these, one behind the other. -/
def eraseAll : List Nat → Heap → Heap
  | [], H => H
  | i :: is, H => eraseAll is (H.eraseIdx i)
def MarksAt : List Nat → List Nat → Heap → Prop
  | [], [], _ => True
  | D :: ds, i :: is, H => H[i]? = some (.ob D isDef) ∧ MarksAt ds is (H.eraseIdx i)
  | _, _, _ => False
theorem eraseIdx_perm {α : Type} : ∀ (l : List α) (i : Nat) (e : α), l[i]? = some e → l.Perm (e :: l.eraseIdx i)
  | x :: r, 0, e, h => by simp at h; subst h; simp
  | x :: r, i + 1, e, h => by
    have := eraseIdx_perm r i e (by simpa using h)
    exact ((this.cons x).trans (List.Perm.swap e x _))
  | [], i, e, h => by simp at h
theorem unmark {fn : Func} {tmps : Array Value} {R : Ending → World → Prop} : ∀ (ds is : List Nat) (H : Heap) (w : World), MarksAt ds is H → Sat w0 Wr H w → (∀ w', Sat w0 Wr (eraseAll is H) w' → LeavesIn Fence.wide 0 P fn tmps R [] .returning w') →
    LeavesInM Fence.wide 0 P fn tmps R (ds.map markOf) .returning w
  | [], [], H, w, _, hw, h => h w hw
  | D :: ds, i :: is, H, w, hm, hw, h => by
    have hp := hw.perm (eraseIdx_perm H i _ hm.1)
    have hD : w.heap[D]? = some (.deferred (some [])) := by
      obtain ⟨o, h1, h2⟩ := (hp.ents _ List.mem_cons_self).1
      rw [h1, h2]
    refine ⟨by simp, .inl ⟨D, _, rfl, run_takeDeferred hD, unmark ds is (H.eraseIdx i) _ hm.2 (Sat.turnOut hp.tail ((hp.ents _ List.mem_cons_self).2 rfl) (fun x hx => hp.head rfl x hx)) h⟩⟩
  | [], _ :: _, _, _, hm, _, _ => hm.elim
  | _ :: _, [], _, _, hm, _, _ => hm.elim
/-- What the body of a function that bears marks must achieve. -/
abbrev bodyM (P : Program) (fn : Func) (R : Ending → World → Prop) : Exit → Act → World → Prop := bodyPostM Fence.wide 0 P fn R
theorem nx_unmark {fn : Func} {R : Ending → World → Prop} (is : List Nat) (hm : MarksAt ds is H) (h : nx ⟨n, none, []⟩ w0 Wr fr (eraseAll is H) (bodyPost P fn R) .ret) : nx ⟨n, none, ds⟩ w0 Wr fr H (bodyM P fn R) .ret := fun a w ha hw => by
  show LeavesInM Fence.wide 0 P fn a.tmps R a.defers .returning w
  rw [ha.defers]
  refine unmark ds is H w hm hw fun w' hw' => ?_
  obtain ⟨_, v, h1, h2⟩ := h { tmps := a.tmps, defers := [] } w' ⟨ha.size, rfl, ha.at_⟩ hw'
  exact ⟨v, h1, h2⟩
theorem nx_unmarkN {fn : Func} {R : Ending → World → Prop} (is : List Nat) (hm : MarksAt ds is H) (h : nx ⟨n, none, []⟩ w0 Wr fr (eraseAll is H) (bodyPost P fn R) .normal) : nx ⟨n, none, ds⟩ w0 Wr fr H (bodyM P fn R) .normal := fun a w ha hw => by
  show LeavesInM Fence.wide 0 P fn a.tmps R a.defers .returning w
  rw [ha.defers]
  refine unmark ds is H w hm hw fun w' hw' => ?_
  obtain ⟨_, v, h1, h2⟩ := h { tmps := a.tmps, defers := [] } w' ⟨ha.size, rfl, ha.at_⟩ hw'
  exact ⟨v, h1, h2⟩
theorem Fn.enterM {f : FuncId} {fn : Func} {c : Code} {args : List Value} {R : Value → Heap → Prop} (hf : P.funcs[f]? = some fn) (hb : fn.body = some c) (hn : (fn.name == "runtime.NumGoroutine") = false) (hN : args.length + (fn.ntmps - args.length) = n)
    (h : ∀ w0, awp P ⟨n, none, []⟩ w0 (wrs H) c (enumFr 0 args) H (bodyM P fn (FnPost w0 (wrs H) R))) : Fn P f args H R := by
  refine ⟨⟨fn, hf, hn, by simp [hb]⟩, fun w hw => callsIn_wide.1 (callsIn_of_wp_marks (n := 0) hf hb trivial (h w _ w ⟨?_, rfl, ?_⟩ hw (fun e => by cases e)))⟩
  · simp [← hN]
  · intro t v ht
    obtain ⟨k, rfl, hk⟩ := lk_enum args 0 t v ht
    have hl : k < args.length := (List.getElem?_eq_some_iff.1 hk).1
    simp only [Nat.zero_add]
    rw [Array.getElem?_append_left (by simpa using hl)]
    simpa using hk
end
end Go.Proofs.Ytfffhnefjaomnaa
