/- The small logic: regions that draw their order and end with one operation that waits for all others, and may turn what these read. No conditions. -/
import Derived.Test.YtbldhokgbcljjaaSxZ
namespace Go.Proofs.Ytbldhokgbcljjaa
open Go.RowKit
set_option linter.unusedVariables false
set_option linter.unusedSimpArgs false
set_option linter.unusedSectionVars false
section
variable {P : Program} {N : Frm} {w0 : World} {Wr : List Nat} {ops : Array Oper} {C : World → Prop} {Q Q' : Exit → Act → World → Prop} {fr : Fr} {H : Heap}
theorem vst_any {x : Nat × Bool} {o : Oper} {K : Act → World → Prop} {a : Act} {w : World} (ho : ops[x.1]? = some o) (h : vst P ops C Q x K a w) : vst P ops C Q' x K a w := by
  unfold vst at h ⊢
  split at h
  · exact h
  · exact wpOp_any ho h
/-- The last operation, behind all others. -/
def QF (P : Program) (ops : Array Oper) (Q : Exit → Act → World → Prop) (f : Nat) : Exit → Act → World → Prop := fun _ a w => wpOp P ops (QN Q) f (fun a w => QN Q .normal a w) a w
theorem any_of_f {f : Nat} (hsel : ∀ (j : Nat) (o : Oper) cs b, ops[j]? = some o → o.op ≠ .select cs b) (hedge : ∀ (j : Nat) (o : Oper), ops[j]? = some o → ∀ e ∈ o.after, Region.binds .any e = true → e.on < ops.size) :
    ∀ (n : Nat) (ord : List (Nat × Bool)) (listed : Array Bool) (a : Act) (w : World), ord.length = n → C w → Left ops ((ord ++ [(f, false)]).map Prod.fst) listed →
    (ord.Pairwise fun x y => Dep ops x.1 y.1 ∨ MayV ops x y) → (∀ x ∈ ord, Dep ops x.1 f) → Wv P ops C (QF P ops Q f) ord a w → wpAny P .any ops (QN Q) (n + 1) listed a w := by
  intro n
  induction n with
  | zero =>
    intro ord listed a w hl hC hL hp hd h
    obtain rfl := List.eq_nil_of_length_eq_zero hl
    refine ⟨fun hnil => ?_, fun j hj => ?_⟩
    · have := hL.first hedge
      rw [hnil] at this
      cases this
    · obtain ⟨h0, o, ho, _⟩ := mem_ready.1 hj
      have hjm := (hL.mem j (Array.getElem?_eq_some_iff.1 ho).1).1 h0
      obtain rfl : j = f := by simpa using hjm
      have hL' : Left ops [] (listed.setIfInBounds j true) := Left.step (p := []) (r := []) (by simpa using hL) hedge hj
      refine wpOp_mono (fun b w' hb => ?_) h.2
      refine ⟨List.eq_nil_iff_forall_not_mem.2 fun k hk => ?_, hb⟩
      obtain ⟨h0, o, ho, _⟩ := mem_ready.1 hk
      have := (hL'.mem k (Array.getElem?_eq_some_iff.1 ho).1).1 h0
      simp at this
  | succ n ih =>
    intro ord listed a w hl hC hL hp hd h
    refine ⟨fun hnil => ?_, fun j hj => ?_⟩
    · exfalso
      match ord, hl with
      | x :: r, _ =>
        have := hL.first hedge
        rw [hnil] at this
        cases this
    · have hdeps := hL.deps hedge hj
      obtain ⟨h0, o, ho, hall⟩ := mem_ready.1 hj
      have hjm := (hL.mem j (Array.getElem?_eq_some_iff.1 ho).1).1 h0
      rw [List.map_append, List.mem_append] at hjm
      rcases hjm with hjm | hjm
      · obtain ⟨bj, hjb⟩ := mem_fst hjm
        obtain ⟨p, r, rfl⟩ := List.append_of_mem hjb
        have hpp := List.pairwise_append.1 hp
        have hswap : ∀ x ∈ p, MayV ops x (j, bj) := fun x hx => by
          rcases hpp.2.2 x hx (j, bj) List.mem_cons_self with hd | hd
          · exact absurd (List.mem_map.2 ⟨x, List.mem_append_left _ (List.mem_append_left _ hx), rfl⟩) (hdeps x.1 hd)
          · exact hd
        have hL' : Left ops (((p ++ r) ++ [(f, false)]).map Prod.fst) (listed.setIfInBounds j true) := by
          rw [List.append_assoc, List.map_append]
          exact Left.step (by simpa using hL) hedge hj
        have hv : vst P ops C Q (j, bj) (Wv P ops C (QF P ops Q f) (p ++ r)) a w := vst_any ho (v_front hsel p a w hswap h)
        refine wpOp_mono (fun b w' hb => ih (p ++ r) _ b w' (by simp at hl ⊢; omega) hb.1 hL' ?_ (fun x hx => hd x ?_) hb.2) (vst_op hC hv)
        · exact List.pairwise_append.2 ⟨hpp.1, (List.pairwise_cons.1 hpp.2.1).2, fun x hx y hy => hpp.2.2 x hx y (List.mem_cons_of_mem _ hy)⟩
        · rcases List.mem_append.1 hx with hx | hx
          · exact List.mem_append_left _ hx
          · exact List.mem_append_right _ (List.mem_cons_of_mem _ hx)
      · obtain rfl : j = f := by simpa using hjm
        match ord, hl with
        | x :: r, _ =>
          exact absurd (List.mem_map.2 ⟨x, List.mem_cons_self, rfl⟩) (hdeps x.1 (hd x List.mem_cons_self))
def lastB (l : List Oper) (ls : List (Nat × Bool)) (f : Nat) : Bool := calmB l (ls ++ [(f, false)]) && vB l.toArray (ancs l) ls && ls.all fun x => ((ancs l).getD f []).contains x.1
theorem wp_region_last {id : Nat} {l : List Oper} {a : Act} {w : World} (ls : List (Nat × Bool)) (f : Nat) (hm : P.follows .mixedOrders = true) (hB : lastB l ls f = true) (hC : C w.drew) (h : Wv P l.toArray C (QF P l.toArray Q f) ls a w.drew) : wq P N (.region id l.toArray true) Q a w := by
  simp only [lastB, calmB, Bool.and_eq_true, decide_eq_true_eq] at hB
  obtain ⟨⟨⟨⟨⟨⟨hsel, hlen⟩, hnd⟩, hext⟩, _⟩, hpairs⟩, hlast⟩ := hB
  have hlen := Nat.eq_of_beq_eq_true hlen
  obtain ⟨he1, he2⟩ := ext_ok hext (by simp) hnd
  have hall : ∀ k, k < l.length → k ∈ (ls ++ [(f, false)]).map Prod.fst := all_in l.length _ hnd (by simpa using hlen) (fun x hx => by simpa using he2 x hx)
  have hedge : ∀ (j : Nat) (o : Oper), l.toArray[j]? = some o → ∀ e ∈ o.after, Region.binds .any e = true → e.on < l.toArray.size := fun j o ho e he hb =>
    ext_edges _ _ hext (by simp) j (hall j (by simpa using (Array.getElem?_eq_some_iff.1 ho).1)) o ho e he hb
  refine wq_any hm ?_
  have hA := ancs_ok l
  have := any_of_f (P := P) (Q := Q) (C := C) (f := f) (Region.noSelect_spec hsel) hedge ls.length ls (Array.replicate l.toArray.size false) a w.drew rfl hC
    ⟨hnd, by simp, he2, fun k hk => by
      have h1 : k ∈ (ls ++ [(f, false)]).map Prod.fst := hall k (by simpa using hk)
      have hk' : k < l.length := by simpa using hk
      have h2 : (Array.replicate l.toArray.size false).getD k true = false := by simp [Array.getD_eq_getD_getElem?, hk']
      exact ⟨fun _ => h1, fun _ => h2⟩, he1, fun j o ho hj => absurd (hall j (by simpa using (Array.getElem?_eq_some_iff.1 ho).1)) hj⟩
    (vB_ok hA hpairs) (fun x hx => hA f x.1 (by have := List.all_eq_true.1 hlast x hx; simpa using this)) h
  have e : ls.length + 1 = l.toArray.size := by simpa using hlen
  rw [e] at this
  exact this
theorem awf_region {id : Nat} {l : List Oper} (H0 : Heap) (ls : List (Nat × Bool)) (f : Nat) {o : Oper} (ho : l.toArray[f]? = some o) (hm : P.follows .mixedOrders = true) (hB : lastB l ls f = true) (hk : HLe H0 H)
    (h : ∀ Z : Fr → Heap → Prop, (∀ fr H, nx N w0 Wr fr H Q .normal → Z fr H) → tw P N w0 Wr l.toArray H0 ls fr H fun fr' H' => sx P N w0 Wr l.toArray [o] fr' H' Z) : awp P N w0 Wr (.region id l.toArray true) fr H Q :=
  fun a w ha hw => wp_region_last (C := Sat w0 Wr H0) ls f hm hB (hk _ _ _ hw.drew)
    (h (fun fr H => nx N w0 Wr fr H Q .normal) (fun _ _ h => h) (QF P l.toArray Q f) (fun fr' H' a w hz hf hs => by
      have h1 := hz (QN Q) (fun fr2 H2 a w hy hf2 hs2 => ⟨rfl, hy a w hf2 hs2⟩) a w hf hs
      show wpOp P l.toArray (QN Q) f (fun a w => QN Q .normal a w) a w
      unfold wpOp
      simp only [ho]
      unfold wpList at h1
      split
      · rename_i hw'
        rw [if_pos hw'] at h1
        exact h1.imp (Oper.wp_mono fun a w hh => hh) (fun h => h)
      · rename_i hw'
        rw [if_neg hw'] at h1
        exact h1) a w.drew ha hw.drew)
theorem awf_seq_region {id : Nat} {l : List Oper} {y : Code} (H0 : Heap) (ls : List (Nat × Bool)) (f : Nat) {o : Oper} (ho : l.toArray[f]? = some o) (hm : P.follows .mixedOrders = true) (hB : lastB l ls f = true) (hk : HLe H0 H)
    (h : ∀ Z : Fr → Heap → Prop, (∀ fr H, awp P N w0 Wr y fr H Q → Z fr H) → tw P N w0 Wr l.toArray H0 ls fr H fun fr' H' => sx P N w0 Wr l.toArray [o] fr' H' Z) : awp P N w0 Wr (.seq (.region id l.toArray true) y) fr H Q :=
  awp_seq (awf_region H0 ls f ho hm hB hk fun Z hZ => h Z fun fr H hy => hZ fr H hy)
end
end Go.Proofs.Ytbldhokgbcljjaa
