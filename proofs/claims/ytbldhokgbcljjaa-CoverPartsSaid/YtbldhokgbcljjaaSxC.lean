/- The small logic: calls that hand back a row of their own or what came in; parts of what is only read. No conditions but of lengths. -/
import Derived.Test.YtbldhokgbcljjaaSxP
import Derived.Test.YtbldhokgbcljjaaSxS
namespace Go.Proofs.Ytbldhokgbcljjaa
open Go.RowKit
set_option linter.unusedVariables false
set_option linter.unusedSimpArgs false
set_option linter.unusedSectionVars false
section
variable {P : Program} {N : Frm} {w0 w : World} {Wr : List Nat} {ops : Array Oper} {rest : List Oper} {fr : Fr} {H : Heap} {Z : Fr → Heap → Prop} {d ty : Nat} {pos : String} {after : Array Edge}
/-- A call that hands back a row of its own, if p, or what is there; it is only read from here on. -/
theorem sx_callRow {f : FuncId} {xs : List Operand} {vs : List Value} {ts : Array TypeId} {e : TypeId} {size n n1 n2 c : Nat} {A : Option Addr} {ys zs : List Value} {p : Prop} (mk : Value → Value) (U : Heap)
    (hc : Fn P f vs U fun v H' => ∃ u, v = mk u ∧ ((p ∧ RowOk u n ∧ H' = rowE u e size ys) ∨ (¬ p ∧ u = .slice A n1 c ∧ H' = []))) (hx : evs fr xs = some vs) (hU : U.Sublist H) (hroU : Ro U) (hN : Nat.ble (d + 1) N.n = true)
    (hnew : p → n = n2 ∧ ys = zs) (hold : ¬ p → n1 = n2 ∧ SlIn A n1 c ∧ (roE A zs).Sublist H)
    (h : ∀ A' c', SlIn A' n2 c' → sx P N w0 Wr ops rest ((d, mk (.slice A' n2 c')) :: fr) (roE A' zs ++ H) Z) :
    sx P N w0 Wr ops (⟨some d, .call { callee := .value (.func f), args := xs.toArray, argTypes := ts }, ty, pos, after, none⟩ :: rest) fr H Z :=
  sx_callU U hc hx hU hroU hN (by
    rintro v H' ⟨u, rfl, ⟨hp, hv, rfl⟩ | ⟨hp, rfl, rfl⟩⟩
    · obtain ⟨rfl, rfl⟩ := hnew hp
      rw [rowE_flt]
      have hn : ∀ A c, u = .slice A n c → A = none → c = 0 := fun A c hv2 ha => by
        rcases hv with ⟨h1, _⟩ | ⟨g, c', h1⟩
        · rw [h1] at hv2; injection hv2 with _ _ h3; exact h3.symm
        · rw [h1] at hv2; injection hv2 with h2 _ _; rw [ha] at h2; cases h2
      obtain ⟨A', c', rfl, hA, hle⟩ := hv.ro
      refine sx_pure (fun w hw => row_cap hv (fun x hx => List.mem_append_left _ hx) hw) (fun hcap => ?_)
      exact sx_heap (roE A' ys ++ H) (hle [] H _ _ _) (h A' c' ⟨hA, hcap.1, hn A' c' rfl⟩)
    · obtain ⟨rfl, hA, hs⟩ := hold hp
      exact sx_heap (roE A zs ++ H) ((HLe.swap _ _).trans (HLe.dup hs (Ro.roE _ _))) (h A c hA))
/-- A part of what is only read, as an argument. -/
theorem part_view {g o i m size : Nat} {A : Option Addr} {xs ys : List Value} (hm : Ent.ro g o xs ∈ H) (ht : TailA (some ⟨g, o, none⟩) i size A m) (hys : ∀ j u, ys[j]? = some u → xs[i * size + j]? = some u) :
    ∃ T, ArgOk A m ∧ (0 < m → T = roE A ys) ∧ Ro T ∧ HLe T H := by
  obtain ⟨o', rfl, ho⟩ := ht.2 g o rfl
  rcases Nat.eq_zero_or_pos m with h0 | h0
  · exact ⟨[], fun _ => ⟨g, o', rfl⟩, fun h => by omega, Ro.nil, HLe.sub (List.nil_sublist _)⟩
  · obtain rfl := ho h0
    exact ⟨_, fun _ => ⟨g, _, rfl⟩, fun _ => rfl, Ro.roE _ _, (HLe.sub (List.Sublist.cons_cons _ (List.nil_sublist _))).trans (HLe.view (k := i * size) (xs := xs) (ys := ys) hm hys)⟩
end
/-- Operations that are no calls of functions. -/
def detB2 (ops : Array Oper) (j : Nat) : Bool := detB ops j || match ops[j]? with
  | some o => match o.op with
    | .call c => match c.callee with
      | .builtin .append => true
      | _ => false
    | .makeSlice .. => true
    | .makeMap .. => true
    | .store .. => true
    | _ => false
  | none => false
theorem det_skip {P : Program} {s : Sem Unit} {w w' : World} {n : Next} (h : (do s; pure Next.skip : Sem Next).run P w = .ok n w') : (∃ v, n = .value v) ∨ n = .skip := by
  rw [Sem.run_bind] at h
  cases hr : s.run P w with
  | ok v w1 =>
    rw [hr] at h
    simp only [Result.andThen_ok, Sem.run_pure] at h
    injection h with h1
    exact .inr h1.symm
  | halt x w1 => rw [hr] at h; cases h
theorem detB2_ok {P : Program} {ops : Array Oper} {j : Nat} (h : detB2 ops j = true) : Det P ops j := by
  unfold detB2 at h
  rcases Bool.or_eq_true_iff.1 h with h | h
  · exact detB_ok h
  intro o ho ρ w n w' hr
  rw [ho] at h
  simp only at h
  unfold execOp at hr
  split at h <;> rename_i hop
  · rw [hop] at hr
    split at h <;> rename_i hc
    · simp only [resolve, hc, Sem.run_bind, Sem.run_pure, Result.andThen_ok, invoke, builtin] at hr
      generalize Sem.run P (Builtin.append_ _ _ _) w = r at hr
      cases r with
      | ok v w1 =>
        simp only [Result.andThen_ok] at hr
        injection hr with h1
        exact .inl ⟨v, h1.symm⟩
      | halt x w1 => cases hr
    · cases h
  · rw [hop] at hr; exact det_run hr
  · rw [hop] at hr; exact det_run hr
  · rw [hop] at hr; exact det_skip hr
  · cases h
def manyB2 (l : List Oper) (gs : List Nat) (S : List (List (Nat × Bool))) : Bool :=
  Region.noSelect l.toArray && covB (ancs l) (detB2 l.toArray) gs.length (S.map gsOf) && (S.all fun ls => ordB l (fun i => !gs.contains i) ls && Nat.beq (gsOf ls).length gs.length)
section
variable {P : Program} {Q : Exit → Act → World → Prop} {C : World → Prop}
theorem wp_region_many2 {N : Frm} {id : Nat} {l : List Oper} {a : Act} {w : World} (gs : List Nat) (S : List (List (Nat × Bool))) (hS : S ≠ []) (hm : P.follows .mixedOrders = true) (hB : manyB2 l gs S = true) (hC : C w.drew) (h : ∀ ls ∈ S, Wv P l.toArray C Q ls a w.drew) : wq P N (.region id l.toArray true) Q a w := by
  simp only [manyB2, Bool.and_eq_true, List.all_eq_true] at hB
  obtain ⟨⟨hsel, hcov⟩, hall0⟩ := hB
  have hA := ancs_ok l
  have ok : ∀ ls ∈ S, (Left l.toArray (ls.map Prod.fst) (Array.replicate l.toArray.size false) ∧ ls.Pairwise (MayK l.toArray) ∧ ls.length = l.length ∧ (∀ x ∈ ls, x.2 = !gs.contains x.1) ∧ (gsOf ls).length = gs.length) ∧
      (∀ (j : Nat) (o : Oper), l.toArray[j]? = some o → ∀ e ∈ o.after, Region.binds .any e = true → e.on < l.toArray.size) := fun ls hls => by
    obtain ⟨hB, hg⟩ := hall0 ls hls
    simp only [ordB, Bool.and_eq_true, decide_eq_true_eq, List.all_eq_true] at hB
    obtain ⟨⟨⟨⟨hlen, hnd⟩, hext⟩, hpairs⟩, hfl⟩ := hB
    have hlen := Nat.eq_of_beq_eq_true hlen
    obtain ⟨he1, he2⟩ := ext_ok hext (by simp) hnd
    have hall : ∀ k, k < l.length → k ∈ ls.map Prod.fst := all_in l.length _ hnd (by simpa using hlen) (fun x hx => by simpa using he2 x hx)
    refine ⟨⟨⟨hnd, by simp, he2, fun k hk => ?_, he1, fun j o ho hj => absurd (hall j (by simpa using (Array.getElem?_eq_some_iff.1 ho).1)) hj⟩, kB_ok hA hpairs, hlen, fun x hx => by simpa using hfl x hx, Nat.eq_of_beq_eq_true hg⟩, fun j o ho e he hb =>
      ext_edges _ _ hext (by simp) j (hall j (by simpa using (Array.getElem?_eq_some_iff.1 ho).1)) o ho e he hb⟩
    have h1 : k ∈ ls.map Prod.fst := hall k (by simpa using hk)
    have hk' : k < l.length := by simpa using hk
    have h2 : (Array.replicate l.toArray.size false).getD k true = false := by simp [Array.getD_eq_getD_getElem?, hk']
    exact ⟨fun _ => h1, fun _ => h2⟩
  obtain ⟨ls0, hls0⟩ := List.exists_mem_of_ne_nil S hS
  refine wq_any hm ?_
  have := any_of_k (P := P) (Q := Q) (C := C) (fun j h => detB2_ok h) hA (Region.noSelect_spec hsel) (ok ls0 hls0).2 (fun i => !gs.contains i) l.length gs.length S (Array.replicate l.toArray.size false) a w.drew hS hcov
    (fun ls hls => Nat.le_of_eq (ok ls hls).1.2.2.2.2) hC (fun ls hls => (ok ls hls).1.2.2.2.1) (fun ls hls => ⟨(ok ls hls).1.2.2.1, (ok ls hls).1.1, (ok ls hls).1.2.1, h ls hls⟩)
  simpa using this
end
/-- Many orders; they meet in a family. -/
theorem awkn_region {P : Program} {N : Frm} {w0 : World} {Wr : List Nat} {fr : Fr} {H : Heap} {Q : Exit → Act → World → Prop} {id : Nat} {l : List Oper} {ι : Type} (F : ι → Fr) (HH : ι → Heap) (I : ι → Prop) (H0 : Heap) (gs : List Nat) (S : List (List (Nat × Bool))) (hS : S ≠ []) (hm : P.follows .mixedOrders = true) (hB : manyB2 l gs S = true) (hk : HLe H0 H)
    (h : ∀ ls ∈ S, tw P N w0 Wr l.toArray H0 ls fr H fun fr' H' => ∃ j, I j ∧ Kn (F j) fr' ∧ HLe (HH j) H')
    (hy : ∀ j, I j → nx N w0 Wr (F j) (HH j) Q .normal) : awp P N w0 Wr (.region id l.toArray true) fr H Q :=
  fun a w ha hw => wp_region_many2 (C := Sat w0 Wr H0) gs S hS hm hB (hk _ _ _ hw.drew) fun ls hls =>
    h ls hls Q (fun fr' H' a w ⟨j, hj, hf, hh⟩ ha hs => hy j hj a w (ha.kn hf) (hh _ _ _ hs)) a w.drew ha hw.drew
theorem awkn_seq_region {P : Program} {N : Frm} {w0 : World} {Wr : List Nat} {fr : Fr} {H : Heap} {Q : Exit → Act → World → Prop} {id : Nat} {l : List Oper} {y : Code} {ι : Type} (F : ι → Fr) (HH : ι → Heap) (I : ι → Prop) (H0 : Heap) (gs : List Nat) (S : List (List (Nat × Bool))) (hS : S ≠ []) (hm : P.follows .mixedOrders = true) (hB : manyB2 l gs S = true) (hk : HLe H0 H)
    (h : ∀ ls ∈ S, tw P N w0 Wr l.toArray H0 ls fr H fun fr' H' => ∃ j, I j ∧ Kn (F j) fr' ∧ HLe (HH j) H')
    (hy : ∀ j, I j → awp P N w0 Wr y (F j) (HH j) Q) : awp P N w0 Wr (.seq (.region id l.toArray true) y) fr H Q :=
  awp_seq (awkn_region F HH I H0 gs S hS hm hB hk h fun j hj => hy j hj)
/-- A slice that came in, as one may cut it. -/
theorem slIn_some {g o n c : Nat} (h : n ≤ c) : SlIn (some ⟨g, o, none⟩) n c := ⟨.inr ⟨g, o, rfl⟩, h, fun h => by cases h⟩
theorem fm_sub {α : Type} {f : α → List Value} {n : Nat} (hf : ∀ x, (f x).length = n) (L : List α) (i m : Nat) : ∀ j u, (((L.drop i).take m).flatMap f)[j]? = some u → (L.flatMap f)[i * n + j]? = some u := fun j u hu => by
  have h1 : (L.flatMap f).drop (i * n) = (L.drop i).flatMap f := fm_drop hf L i
  rw [← List.getElem?_drop, h1]
  have h2 : (L.drop i).flatMap f = ((L.drop i).take m).flatMap f ++ ((L.drop i).drop m).flatMap f := by rw [← List.flatMap_append, List.take_append_drop]
  rw [h2, List.getElem?_append_left (List.getElem?_eq_some_iff.1 hu).1]
  exact hu
end Go.Proofs.Ytbldhokgbcljjaa
