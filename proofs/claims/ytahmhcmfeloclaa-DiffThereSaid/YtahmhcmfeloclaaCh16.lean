/- Steps for the laws of charts: calls whose rows stand at the end of memory; arguments. Conditions: the lists are not too long. -/
import Derived.Test.YtahmhcmfeloclaaCh15
namespace Go.Proofs.Ytahmhcmfeloclaa
open Go.RowKit
set_option linter.unusedVariables false
set_option linter.unusedSimpArgs false
set_option linter.unusedSectionVars false
theorem HLe.two {T U H : Heap} (h1 : T.Sublist H) (h2 : U.Sublist H) (hU : Ro U) : HLe (T ++ U) H := (HLe.sub (List.Sublist.append_right h1 U)).trans (HLe.dup h2 hU)
theorem Sat.both {w : World} {T U : Heap} (h : Sat w [] T w) (k : Sat w [] U w) (hT : Ro T) (hU : Ro U) : Sat w [] (T ++ U) w :=
  ⟨h.only, fun e he => by
    rcases List.mem_append.1 he with he | he
    · exact h.ents e he
    · exact k.ents e he, List.pairwise_append.2 ⟨h.sep, k.sep, fun a ha b hb hw => by
      rw [hT a ha, hU b hb] at hw
      cases hw⟩⟩
theorem sum_le (L : List It) (n : Nat) (h : ∀ e ∈ L, e.tx.length ≤ n) : cBytes L ≤ L.length * n := by
  induction L with
  | nil => simp [cBytes]
  | cons e r ih =>
    have h1 := ih fun x hx => h x (List.mem_cons_of_mem _ hx)
    have h2 := h e List.mem_cons_self
    simp only [cBytes, List.map_cons, List.sum_cons, List.length_cons] at h1 ⊢
    rw [Nat.succ_mul]
    omega
theorem ChOk.bytes {L : List It} (h : ChOk L) : cBytes L ≤ 1000000000000 := by
  have h1 := sum_le L 65536 fun e he => (h.tx e he).2
  have h2 := h.len
  have h3 := Nat.mul_le_mul_right 65536 h2
  omega
theorem alike_str {L : List TypeDesc} {cs : List Value} (h : Alike (.string :: L) cs) : ∃ (s : List UInt8) (c : List Value), cs = .string (str s) :: c ∧ s.length ≤ maxLen ∧ Alike L c := by
  cases h with
  | cons h1 h2 =>
    obtain ⟨l, rfl, hl⟩ := h1
    exact ⟨l, _, rfl, hl, h2⟩
/-- What items make. -/
def ofL (L : List It) : List It := if ofQ L = 0 then sortI L else []
theorem ofL_ok (L : List It) : ChOk (ofL L) := by
  unfold ofL
  split
  · rename_i h; exact (of_ok h).2.2.1
  · exact ChOk.nil
section
variable {N : Frm} {w0 w : World} {Wr : List Nat} {ops : Array Oper} {rest : List Oper} {fr : Fr} {H : Heap} {Z : Fr → Heap → Prop} {d ty : Nat} {pos : String} {after : Array Edge} {xs : List Operand} {ts : Array TypeId} {A B : Option Addr} {c c2 : Nat}
theorem sx_putE (L : List It) (k : Nat) (s : List UInt8) (hA : SlIn A L.length c) (hS : (roE A (icells L)).Sublist H) (hok : ChOk L) (hx : evs fr xs = some [chV A L.length c, uq k, .string (str s)]) (hN : Nat.ble (d + 1) N.n = true)
    (h : ∀ A' c', SlIn A' (putQ k s L).length c' → sx Try.prog N w0 Wr ops rest ((d, .tuple #[chV A' (putQ k s L).length c', iq (putE k s L)]) :: fr) (H ++ roE A' (icells (putQ k s L))) Z) : sx Try.prog N w0 Wr ops ((⟨some d, .call { callee := .value (.func 26), args := xs.toArray, argTypes := ts }, ty, pos, after, none⟩ : Oper) :: rest) fr H Z :=
  sx_put L k s hA hS hok hx hN fun A' c' hA' => sx_heap _ (HLe.swap _ _) (h A' c' hA')
theorem sx_rputE (L : List It) (k : Nat) (s : List UInt8) (hA : SlIn A L.length c) (hS : (roE A (icells L)).Sublist H) (hok : ChOk L) (hx : evs fr xs = some [.slice A L.length c, uq k, .string (str s)]) (hN : Nat.ble (d + 1) N.n = true)
    (h : ∀ A' c', SlIn A' (putQ k s L).length c' → sx Try.prog N w0 Wr ops rest ((d, .tuple #[.slice A' (putQ k s L).length c', iq (putE k s L)]) :: fr) (H ++ roE A' (icells (putQ k s L))) Z) : sx Try.prog N w0 Wr ops ((⟨some d, .call { callee := .value (.func 27), args := xs.toArray, argTypes := ts }, ty, pos, after, none⟩ : Oper) :: rest) fr H Z :=
  sx_rput L k s hA hS hok hx hN fun A' c' hA' => sx_heap _ (HLe.swap _ _) (h A' c' hA')
theorem sx_delE (L : List It) (k : Nat) (hA : SlIn A L.length c) (hS : (roE A (icells L)).Sublist H) (hok : ChOk L) (hx : evs fr xs = some [chV A L.length c, uq k]) (hN : Nat.ble (d + 1) N.n = true)
    (h : ∀ A' c', SlIn A' (cDel k L).length c' → sx Try.prog N w0 Wr ops rest ((d, chV A' (cDel k L).length c') :: fr) (H ++ roE A' (icells (cDel k L))) Z) : sx Try.prog N w0 Wr ops ((⟨some d, .call { callee := .value (.func 40), args := xs.toArray, argTypes := ts }, ty, pos, after, none⟩ : Oper) :: rest) fr H Z :=
  sx_del L k hA hS hok hx hN fun A' c' hA' => sx_heap _ (HLe.swap _ _) (h A' c' hA')
theorem sx_rdelE (L : List It) (k : Nat) (hA : SlIn A L.length c) (hS : (roE A (icells L)).Sublist H) (hok : ChOk L) (hx : evs fr xs = some [.slice A L.length c, uq k]) (hN : Nat.ble (d + 1) N.n = true)
    (h : ∀ A' c', SlIn A' (cDel k L).length c' → sx Try.prog N w0 Wr ops rest ((d, .slice A' (cDel k L).length c') :: fr) (H ++ roE A' (icells (cDel k L))) Z) : sx Try.prog N w0 Wr ops ((⟨some d, .call { callee := .value (.func 30), args := xs.toArray, argTypes := ts }, ty, pos, after, none⟩ : Oper) :: rest) fr H Z :=
  sx_callI (roE A (icells L)) (by have := rdel_fn A c L _ hA.arg (fun _ => rfl) (Ro.roE _ _) (by have := hok.len; omega) k; rwa [← del_eq hok.rise] at this) hx hS (Ro.roE _ _) hN fun A' c' hA' => sx_heap _ (HLe.swap _ _) (h A' c' hA')
theorem sx_itemsE (L : List It) (hA : SlIn A L.length c) (hS : (roE A (icells L)).Sublist H) (hL : L.length ≤ 100000) (hx : evs fr xs = some [chV A L.length c]) (hN : Nat.ble (d + 1) N.n = true)
    (h : ∀ A' c', SlIn A' L.length c' → sx Try.prog N w0 Wr ops rest ((d, .slice A' L.length c') :: fr) (H ++ roE A' (icells L)) Z) : sx Try.prog N w0 Wr ops ((⟨some d, .call { callee := .value (.func 21), args := xs.toArray, argTypes := ts }, ty, pos, after, none⟩ : Oper) :: rest) fr H Z :=
  sx_callI (roE A (icells L)) (items_fn A c L _ hA.arg (fun _ => rfl) hA.nil (Ro.roE _ _) hL) hx hS (Ro.roE _ _) hN fun A' c' hA' => sx_heap _ (HLe.swap _ _) (h A' c' hA')
theorem sx_ibackE (L : List It) (hA : SlIn A L.length c) (hS : (roE A (icells L)).Sublist H) (hL : L.length ≤ 100000) (hx : evs fr xs = some [.slice A L.length c]) (hN : Nat.ble (d + 1) N.n = true)
    (h : ∀ A' c', SlIn A' L.length c' → sx Try.prog N w0 Wr ops rest ((d, .slice A' L.length c') :: fr) (H ++ roE A' (icells L)) Z) : sx Try.prog N w0 Wr ops ((⟨some d, .call { callee := .value (.func 20), args := xs.toArray, argTypes := ts }, ty, pos, after, none⟩ : Oper) :: rest) fr H Z :=
  sx_callI (roE A (icells L)) (iback_fn A c L _ hA.arg (fun _ => rfl) (Ro.roE _ _) hL) hx hS (Ro.roE _ _) hN fun A' c' hA' => sx_heap _ (HLe.swap _ _) (h A' c' hA')
theorem sx_ofE (L : List It) (T : Heap) (hA : ArgOk A L.length) (hT : 0 < L.length → T = roE A (icells L)) (hro : Ro T) (hS : T.Sublist H) (hL : L.length ≤ 100000) (hx : evs fr xs = some [.slice A L.length c]) (hN : Nat.ble (d + 1) N.n = true)
    (h : ∀ A' c', SlIn A' (ofL L).length c' → sx Try.prog N w0 Wr ops rest ((d, .tuple #[chV A' (ofL L).length c', iq (ofQ L)]) :: fr) (H ++ roE A' (icells (ofL L))) Z) : sx Try.prog N w0 Wr ops ((⟨some d, .call { callee := .value (.func 24), args := xs.toArray, argTypes := ts }, ty, pos, after, none⟩ : Oper) :: rest) fr H Z :=
  sx_callRow (fun u => .tuple #[.agg #[u], iq (ofQ L)]) T (cof_fn A c L T hA hT hro hL) hx hS hro hN (fun hp => by unfold ofL; rw [if_pos hp]; exact ⟨rfl, rfl⟩)
    (fun hp => by unfold ofL; rw [if_neg hp]; exact ⟨rfl, ⟨.inl ⟨rfl, rfl⟩, Nat.le_refl _, fun _ => rfl⟩, List.nil_sublist _⟩) fun A' c' hA' => sx_heap _ (HLe.swap _ _) (h A' c' hA')
theorem sx_ownE (L : List It) (T : Heap) (hA : ArgOk A L.length) (hT : 0 < L.length → T = roE A (icells L)) (hro : Ro T) (hS : T.Sublist H) (hL : L.length ≤ 100000) (hx : evs fr xs = some [.slice A L.length c]) (hN : Nat.ble (d + 1) N.n = true)
    (h : ∀ A1 c1 A2 c2, SlIn A1 (ownQ L).length c1 → SlIn A2 (ownQ L).length c2 → sx Try.prog N w0 Wr ops rest ((d, .tuple #[chV A1 (ownQ L).length c1, .slice A2 (ownQ L).length c2]) :: fr) ((H ++ roE A1 (icells (ownQ L))) ++ roE A2 (icells (ownQ L))) Z) : sx Try.prog N w0 Wr ops ((⟨some d, .call { callee := .value (.func 9), args := xs.toArray, argTypes := ts }, ty, pos, after, none⟩ : Oper) :: rest) fr H Z :=
  sx_callU T (own_fn A c L T hA hT hro hL) hx hS hro hN (by
    rintro v H' ⟨u1, u2, rfl, hu1, hu2, rfl⟩
    rw [((rowE_wrs _ _ _ _).append (rowE_wrs _ _ _ _)).filter]
    obtain ⟨A1, c1, rfl, hA1, hle1⟩ := hu1.ro
    obtain ⟨A2, c2, rfl, hA2, hle2⟩ := hu2.ro
    refine sx_pure (fun w hw => row_cap hu1 (fun x hx => List.mem_append_left _ (List.mem_append_left _ hx)) hw) (fun hc1 => ?_)
    refine sx_pure (fun w hw => row_cap hu2 (fun x hx => List.mem_append_left _ (List.mem_append_right _ hx)) hw) (fun hc2 => ?_)
    refine sx_heap _ ?_ (h A1 c1 A2 c2 ⟨hA1, hc1.1, row_none hu1⟩ ⟨hA2, hc2.1, row_none hu2⟩)
    rw [List.append_assoc]
    refine (HLe.swap _ _).trans ?_
    refine HLe.trans ?_ (by rw [List.append_assoc]; exact hle1 [] _ _ _ _)
    rw [List.append_assoc]
    exact hle2 _ _ _ _ _)
theorem sx_csame (L M : List It) (hA : SlIn A L.length c) (hB : SlIn B M.length c2) (h1 : (roE A (icells L)).Sublist H) (h2 : (roE B (icells M)).Sublist H) (hL : L.length ≤ maxLen) (hM : M.length ≤ maxLen) (hx : evs fr xs = some [chV A L.length c, chV B M.length c2]) (hN : Nat.ble (d + 1) N.n = true)
    (h : sx Try.prog N w0 Wr ops rest ((d, .bool (sameI L M)) :: fr) H Z) : sx Try.prog N w0 Wr ops ((⟨some d, .call { callee := .value (.func 23), args := xs.toArray, argTypes := ts }, ty, pos, after, none⟩ : Oper) :: rest) fr H Z :=
  sx_callV (roE A (icells L) ++ roE B (icells M)) (csame_fn A c L _ hA.arg (fun _ => rfl) (Ro.roE _ _) hL B c2 M _ hB.arg (fun _ => rfl) (Ro.roE _ _) hM) hx (HLe.two h1 h2 (Ro.roE _ _)) ((Ro.roE _ _).append (Ro.roE _ _)) hN h
theorem sx_risame (L M : List It) (hA : SlIn A L.length c) (hB : SlIn B M.length c2) (h1 : (roE A (icells L)).Sublist H) (h2 : (roE B (icells M)).Sublist H) (hL : L.length ≤ maxLen) (hM : M.length ≤ maxLen) (hx : evs fr xs = some [.slice A L.length c, .slice B M.length c2]) (hN : Nat.ble (d + 1) N.n = true)
    (h : sx Try.prog N w0 Wr ops rest ((d, .bool (sameI L M)) :: fr) H Z) : sx Try.prog N w0 Wr ops ((⟨some d, .call { callee := .value (.func 19), args := xs.toArray, argTypes := ts }, ty, pos, after, none⟩ : Oper) :: rest) fr H Z :=
  sx_callV (roE A (icells L) ++ roE B (icells M)) (risame_fn A c L _ hA.arg (fun _ => rfl) hL B c2 M _ hB.arg (fun _ => rfl) hM) hx (HLe.two h1 h2 (Ro.roE _ _)) ((Ro.roE _ _).append (Ro.roE _ _)) hN h
theorem sx_cget (L : List It) (k : Nat) (hA : SlIn A L.length c) (h1 : (roE A (icells L)).Sublist H) (hok : ChOk L) (hx : evs fr xs = some [chV A L.length c, uq k]) (hN : Nat.ble (d + 1) N.n = true)
    (h : sx Try.prog N w0 Wr ops rest ((d, .tuple #[.string (str (cGet k L)), .bool (cHas k L)]) :: fr) H Z) : sx Try.prog N w0 Wr ops ((⟨some d, .call { callee := .value (.func 22), args := xs.toArray, argTypes := ts }, ty, pos, after, none⟩ : Oper) :: rest) fr H Z :=
  sx_callV (roE A (icells L)) (get_fn A c L _ hA.arg (fun _ => rfl) (Ro.roE _ _) (by have := hok.len; omega) hok.rise k) hx (HLe.sub h1) (Ro.roE _ _) hN h
theorem sx_riget (L : List It) (k : Nat) (hA : SlIn A L.length c) (h1 : (roE A (icells L)).Sublist H) (hok : ChOk L) (hx : evs fr xs = some [.slice A L.length c, uq k]) (hN : Nat.ble (d + 1) N.n = true)
    (h : sx Try.prog N w0 Wr ops rest ((d, .tuple #[.string (str (cGet k L)), .bool (cHas k L)]) :: fr) H Z) : sx Try.prog N w0 Wr ops ((⟨some d, .call { callee := .value (.func 29), args := xs.toArray, argTypes := ts }, ty, pos, after, none⟩ : Oper) :: rest) fr H Z :=
  sx_callV (roE A (icells L)) (by have := rget_fn A c L _ hA.arg (fun _ => rfl) (by have := hok.len; omega) k; rwa [← (get_eq hok.rise k).1, ← (get_eq hok.rise k).2] at this) hx (HLe.sub h1) (Ro.roE _ _) hN h
end
set_option maxRecDepth 100000
theorem leaves_it : leaves Try.prog 5 58 = some [.int .u64, .string] := by kernel_rfl
def It.ok (e : It) : Prop := e.id < 18446744073709551616 ∧ e.tx.length ≤ maxLen
theorem it_of (r : List Value) (h : Alike [.int .u64, .string] r) : ∃ x : It, x.ok ∧ r = x.cells := by
  obtain ⟨a, c, rfl, ha, a1⟩ := alike_u64 h
  obtain ⟨s, c, rfl, hs, a2⟩ := alike_str a1
  cases a2
  exact ⟨⟨a, s⟩, ⟨ha, hs⟩, rfl⟩
theorem open_its {H : Type} {enc : TypeId × Value → H} {w : World} {b0 : Nat} {r : Reach} {v : Value} {d : DataW H} {p : List MemPlace}
    (hv : Value.okWide Try.prog w r b0 22 v) (h : DataW.Trod enc Try.prog w 0 (fun _ => true) true 22 v d p) :
    ∃ A c, ∃ L : List It, ∃ T : Heap, v = .slice A L.length c ∧ ArgOk A L.length ∧ L.length ≤ maxLen ∧ ItsTx L ∧ (0 < L.length → T = roE A (icells L)) ∧ Ro T ∧ Sat w [] T w ∧ L.length ≤ c := by
  obtain ⟨A, n, c, rows, hv2, h1, h2, h3, h4⟩ := open_rows 5 Try.underlying22 leaves_it (by kernel_rfl) (Nat.succ_pos _) hv h
  have hcap : n ≤ c := by
    obtain ⟨a0, len0, cap0, rfl⟩ := Go.WideShapes.okWide_slice Try.underlying22 hv
    injection hv2 with e1 e2 e3
    obtain ⟨fuel, hf⟩ := h
    rcases Go.Deep.open_slice Try.underlying22 hf with ⟨hcs, _⟩ | ⟨a, len, cap, m', n', D, Pl, hcs, _, hl, hm, hmm, _, hi⟩
    · simp [Value.cells] at hcs
      omega
    · simp [Value.cells] at hcs
      omega
  subst hv2
  obtain ⟨L, h5, h6, h7⟩ := rows_as (f := It.cells) (ok := It.ok) it_of rows h3
  have hn : L.length = n := by omega
  subst hn
  rw [h5] at h4
  by_cases h0 : 0 < L.length
  · exact ⟨A, c, L, roE A (icells L), rfl, arg_ok h4, h2, h7, fun _ => rfl, Ro.roE _ _, arg_sat h4 h0, hcap⟩
  · exact ⟨A, c, L, [], rfl, arg_ok h4, h2, h7, fun h => absurd h h0, Ro.nil, Sat.nil w, hcap⟩
end Go.Proofs.Ytahmhcmfeloclaa
