/- The walk of the document's Of for charts; what a put leaves, as a row. Conditions: the lists are not too long. -/
import Derived.Test.YtllclbbjfnipoaaCh10
import Derived.Test.YtllclbbjfnipoaaSxC
namespace Go.Proofs.Ytllclbbjfnipoaa
open Go.RowKit
set_option linter.unusedVariables false
set_option linter.unusedSimpArgs false
def putE (k : Nat) (s : List UInt8) (L : List It) : Nat := wrongQ k s (fullQ k L)
def putQ (k : Nat) (s : List UInt8) (L : List It) : List It := if putE k s L = 0 then cPut k s L else L
theorem rfull_eq {L : List It} (hr : Rise L) (k : Nat) : rfullQ k L = fullQ k L := by
  unfold rfullQ fullQ
  rw [(get_eq hr k).1]
theorem rput_fn2 (A : Option Addr) (c : Nat) (L : List It) (T : Heap) (hA : ArgOk A L.length) (hT : 0 < L.length → T = roE A (icells L)) (hro : Ro T) (hL : L.length ≤ 100000) (hr : Rise L) (k : Nat) (s : List UInt8) :
    Fn Try.prog 10 [.slice A L.length c, uq k, .string (str s)] T fun v H' => ∃ u, v = .tuple #[u, iq (putE k s L)] ∧ ((putE k s L = 0 ∧ RowOk u (cPut k s L).length ∧ H' = rowE u 53 2 (icells (cPut k s L))) ∨ (¬ putE k s L = 0 ∧ u = .slice A L.length c ∧ H' = [])) := by
  have h := rput_fn A c L T hA hT hro hL k s
  rw [rfull_eq hr, ← put_eq hr] at h
  exact h
theorem put_fn2 (A : Option Addr) (c : Nat) (L : List It) (T : Heap) (hA : SlIn A L.length c) (hT : 0 < L.length → T = roE A (icells L)) (hro : Ro T) (hL : L.length ≤ 100000) (hr : Rise L) (k : Nat) (s : List UInt8) :
    Fn Try.prog 9 [chV A L.length c, uq k, .string (str s)] T fun v H' => ∃ u, v = .tuple #[.agg #[u], iq (putE k s L)] ∧ ((putE k s L = 0 ∧ RowOk u (cPut k s L).length ∧ H' = rowE u 52 2 (icells (cPut k s L))) ∨ (¬ putE k s L = 0 ∧ u = .slice A L.length c ∧ H' = [])) :=
  put_fn A c L T hA hT hro hL hr k s
theorem del_fn2 (A : Option Addr) (c : Nat) (L : List It) (T : Heap) (hA : SlIn A L.length c) (hT : 0 < L.length → T = roE A (icells L)) (hro : Ro T) (hL : L.length ≤ 100000) (hr : Rise L) (k : Nat) :
    Fn Try.prog 14 [chV A L.length c, uq k] T fun v H' => ∃ u, v = .agg #[u] ∧ ((cHas k L = true ∧ RowOk u (cDel k L).length ∧ H' = rowE u 52 2 (icells (cDel k L))) ∨ (¬ cHas k L = true ∧ u = .slice A L.length c ∧ H' = [])) := by
  have h := del_fn A c L T hA hT hro hL hr k
  refine ⟨h.1, fun w hw => (h.2 w hw).mono ?_⟩
  rintro e w' ⟨v, H', he, ⟨u, hv, h1 | ⟨h1, h2⟩⟩, hS⟩
  · exact ⟨v, H', he, ⟨u, hv, .inl h1⟩, hS⟩
  · exact ⟨v, H', he, ⟨u, hv, .inr ⟨by rw [h1]; decide, h2⟩⟩, hS⟩
theorem del_same {k : Nat} {L : List It} (h : ¬ cHas k L = true) : cDel k L = L := by unfold cDel; rw [if_neg h]
theorem putQ_new {k : Nat} {s : List UInt8} {L : List It} (h : putE k s L = 0) : putQ k s L = cPut k s L := by unfold putQ; rw [if_pos h]
theorem putQ_old {k : Nat} {s : List UInt8} {L : List It} (h : ¬ putE k s L = 0) : putQ k s L = L := by unfold putQ; rw [if_neg h]
theorem ChOk.putQ {L : List It} (h : ChOk L) (k : Nat) (s : List UInt8) : ChOk (putQ k s L) := by
  unfold Go.Proofs.Ytllclbbjfnipoaa.putQ
  split
  · rename_i h1; exact h.put h1
  · exact h
section
variable {P : Program} {N : Frm} {w0 w : World} {Wr : List Nat} {ops : Array Oper} {rest : List Oper} {fr : Fr} {H : Heap} {Z : Fr → Heap → Prop} {d ty : Nat} {pos : String} {after : Array Edge}
theorem sx_put {xs : List Operand} {ts : Array TypeId} {A : Option Addr} {c : Nat} (L : List It) (k : Nat) (s : List UInt8) (hA : SlIn A L.length c) (hS : (roE A (icells L)).Sublist H) (hok : ChOk L) (hx : evs fr xs = some [chV A L.length c, uq k, .string (str s)]) (hN : Nat.ble (d + 1) N.n = true)
    (h : ∀ A' c', SlIn A' (putQ k s L).length c' → sx Try.prog N w0 Wr ops rest ((d, .tuple #[chV A' (putQ k s L).length c', iq (putE k s L)]) :: fr) (roE A' (icells (putQ k s L)) ++ H) Z) :
    sx Try.prog N w0 Wr ops (⟨some d, .call { callee := .value (.func 9), args := xs.toArray, argTypes := ts }, ty, pos, after, none⟩ :: rest) fr H Z :=
  sx_callRow (fun u => .tuple #[.agg #[u], iq (putE k s L)]) (roE A (icells L)) (put_fn2 A c L _ hA (fun _ => rfl) (Ro.roE _ _) (by have := hok.len; omega) hok.rise k s) hx hS (Ro.roE _ _) hN
    (fun hp => by rw [putQ_new hp]; exact ⟨rfl, rfl⟩) (fun hp => by rw [putQ_old hp]; exact ⟨rfl, hA, hS⟩) h
theorem sx_rput {xs : List Operand} {ts : Array TypeId} {A : Option Addr} {c : Nat} (L : List It) (k : Nat) (s : List UInt8) (hA : SlIn A L.length c) (hS : (roE A (icells L)).Sublist H) (hok : ChOk L) (hx : evs fr xs = some [.slice A L.length c, uq k, .string (str s)]) (hN : Nat.ble (d + 1) N.n = true)
    (h : ∀ A' c', SlIn A' (putQ k s L).length c' → sx Try.prog N w0 Wr ops rest ((d, .tuple #[.slice A' (putQ k s L).length c', iq (putE k s L)]) :: fr) (roE A' (icells (putQ k s L)) ++ H) Z) :
    sx Try.prog N w0 Wr ops (⟨some d, .call { callee := .value (.func 10), args := xs.toArray, argTypes := ts }, ty, pos, after, none⟩ :: rest) fr H Z :=
  sx_callRow (fun u => .tuple #[u, iq (putE k s L)]) (roE A (icells L)) (rput_fn2 A c L _ hA.arg (fun _ => rfl) (Ro.roE _ _) (by have := hok.len; omega) hok.rise k s) hx hS (Ro.roE _ _) hN
    (fun hp => by rw [putQ_new hp]; exact ⟨rfl, rfl⟩) (fun hp => by rw [putQ_old hp]; exact ⟨rfl, hA, hS⟩) h
theorem sx_del {xs : List Operand} {ts : Array TypeId} {A : Option Addr} {c : Nat} (L : List It) (k : Nat) (hA : SlIn A L.length c) (hS : (roE A (icells L)).Sublist H) (hok : ChOk L) (hx : evs fr xs = some [chV A L.length c, uq k]) (hN : Nat.ble (d + 1) N.n = true)
    (h : ∀ A' c', SlIn A' (cDel k L).length c' → sx Try.prog N w0 Wr ops rest ((d, chV A' (cDel k L).length c') :: fr) (roE A' (icells (cDel k L)) ++ H) Z) :
    sx Try.prog N w0 Wr ops (⟨some d, .call { callee := .value (.func 14), args := xs.toArray, argTypes := ts }, ty, pos, after, none⟩ :: rest) fr H Z :=
  sx_callRow (fun u => .agg #[u]) (roE A (icells L)) (del_fn2 A c L _ hA (fun _ => rfl) (Ro.roE _ _) (by have := hok.len; omega) hok.rise k) hx hS (Ro.roE _ _) hN
    (fun hp => ⟨rfl, rfl⟩) (fun hp => by rw [del_same hp]; exact ⟨rfl, hA, hS⟩) h
end
theorem rget_mem (k : Nat) (L : List It) : (rGet k L).isSome = decide (k ∈ idsI L) := by
  induction L with
  | nil => simp [rGet, idsI]
  | cons e r ih =>
    rw [rGet]
    by_cases h : e.id = k
    · simp [h, idsI]
    · have h' : ¬ k = e.id := fun hh => h hh.symm
      rw [if_neg h, ih]
      simp [idsI, h']
theorem rof_fn (A : Option Addr) (c : Nat) (L : List It) (T : Heap) (hA : ArgOk A L.length) (hT : 0 < L.length → T = roE A (icells L)) (hro : Ro T) (hL : L.length ≤ 100000) (hc : L.length ≤ c) :
    Fn Try.prog 25 [.slice A L.length c] T fun v H' => ∃ u, v = .tuple #[u, iq (ofQ L)] ∧ ((ofQ L = 0 ∧ RowOk u (sortI L).length ∧ H' = rowE u 53 2 (icells (sortI L))) ∨ (¬ ofQ L = 0 ∧ u = .slice none 0 0 ∧ H' = [])) := by
  refine Fn.enter (N := 49) Try.func25 rfl (by kernel_rfl) rfl (fun w0 => ?_)

  refine awp_seq_region (fun Z hZ => ?_)
  refine sx_assign rfl rfl ?_
  refine sx_assign rfl rfl ?_
  refine sx_nil (hZ _ _ ?_)
  refine awp_forget [(0, _)] (Kn.cons rfl (Kn.nil)) ?_
  refine awp_seq_region (fun Z hZ => ?_)
  refine sx_assign rfl rfl ?_
  refine sx_nil (hZ _ _ ?_)
  refine awp_forget [(0, _), (4, _)] (Kn.cons rfl (Kn.cons rfl (Kn.nil))) ?_
  refine awp_seq ?_
  refine awp_seq_region (fun Z hZ => ?_)
  refine sx_assign rfl rfl ?_
  refine sx_nil (hZ _ _ ?_)
  refine awp_forget [(0, _), (4, _), (5, _)] (Kn.cons rfl (Kn.cons rfl (Kn.cons rfl (Kn.nil)))) ?_
  refine awp_block ?_
  refine awp_loop (ι := Nat × Value) (fun i => [(0, .slice A L.length c), (4, i.2), (5, iq (i.1 : Nat))]) (fun i => T ++ rowE i.2 53 2 (icells (sortI (L.take i.1))))
    (fun i => i.1 ≤ L.length ∧ RowOk i.2 (sortI (L.take i.1)).length ∧ (idsI (L.take i.1)).Nodup ∧ ofE (idsI (L.take i.1)) (L.drop i.1) = ofQ L) (fun i => L.length - i.1) (0, .slice none 0 0) ⟨by simp, RowOk.nil, by simp [idsI], rfl⟩ (Kn.cons rfl (Kn.cons rfl (Kn.cons rfl Kn.nil))) (by simp [rowE]; exact HLe.refl _) ?_
  rintro ⟨i, v⟩ ⟨hi, hv, hnd, hq⟩
  simp only at hi hv hnd hq
  refine awp_seq ?_
  refine awp_seq_region (fun Z hZ => ?_)
  refine sx_move rfl rfl ?_
  refine sx_move rfl rfl ?_
  first | refine sx_len Try.underlying27 rfl rfl ?_ | refine sx_lenS Try.underlying27 rfl rfl ?_
  first | refine sx_lss rfl rfl rfl ?_ | refine sx_slss rfl rfl rfl ?_
  refine sx_nil (hZ _ _ ?_)
  refine awp_forget [(0, _), (4, _), (5, _), (13, _)] (Kn.cons rfl (Kn.cons rfl (Kn.cons rfl (Kn.cons rfl (Kn.nil))))) ?_
  first | refine awp_cond rfl (fun h => ?_) (fun h => ?_) | refine awp_seq (awp_cond rfl (fun h => ?_) (fun h => ?_))
  · have hlt : i < L.length := by simpa using h
    have hx := itAt_at hlt
    obtain ⟨x, hxe⟩ : ∃ x, itAt L i = x := ⟨_, rfl⟩
    rw [hxe] at hx
    have hdr : L.drop i = x :: L.drop (i + 1) := by rw [List.drop_eq_getElem_cons hlt]; congr 1; exact (List.getElem?_eq_some_iff.1 hx).2
    have htk : L.take (i + 1) = L.take i ++ [x] := by rw [List.take_add_one, hx]; rfl
    have hidk : idsI (L.take (i + 1)) = idsI (L.take i) ++ [x.id] := by rw [htk]; simp [idsI]
    have hlen : (L.take i).length = i := by rw [List.length_take]; omega
    have hsl : (idsI (L.take i)).length = i := by simp [idsI]; omega
    obtain ⟨hrO, hpO⟩ := sortI_ok (L.take i) hnd
    have hlO := hpO.length_eq
    rw [hlen] at hlO
    rw [hdr, ofE, hsl, ← hidk] at hq
    obtain ⟨g, o, rfl⟩ := hA (by omega)
    obtain rfl := hT (by omega)
    refine awp_heap (.ro g o (icells L) :: rowE v 53 2 (icells (sortI (L.take i)))) (HLe.refl _) ?_
    refine awp_skip ?_
    repeat (with_reducible (first | refine nx_block_normal ?_ | refine nx_scope_normal ?_))
    with_reducible first | refine nx_normal ?_ | refine nx_normalM ?_
    refine awp_seq (awp_block ?_)

    refine awp_seq ?_
    refine aww_seq_region _ [(0, true), (1, true), (2, true), (3, true), (4, true), (5, true), (6, true), (7, true), (8, false), (9, true), (10, true), (11, true), (12, true), (13, true)] mixed (by kernel_rfl) (HLe.pick [0] (by simp) (by simp only [pick, List.filterMap_cons, List.filterMap_nil, List.getElem?_cons_succ, List.getElem?_cons_zero]; rfl)) (fun Z hZ => ?_)
    refine tw_p rfl ?_
    refine sv_move rfl rfl ?_
    refine sv_nil ?_
    refine tw_p rfl ?_
    refine sv_move rfl rfl ?_
    refine sv_nil ?_
    refine tw_p rfl ?_
    refine sv_part (i := 0) (j := i) Try.underlying27 tyS53 (slIn_some hc) rfl rfl rfl (by omega) (by omega) rfl (fun A1 hA1 ht1 => ?_)
    refine sv_nil ?_
    refine tw_p rfl ?_
    refine sv_move rfl rfl ?_
    refine sv_nil ?_
    refine tw_p rfl ?_
    refine sv_move rfl rfl ?_
    refine sv_nil ?_
    refine tw_p rfl ?_
    refine sv_indexAddr (o + i * 2) Try.underlying27 tyS53 rfl rfl (by omega) (by simp) rfl ?_
    refine sv_nil ?_
    refine tw_p rfl ?_
    refine sv_fieldAddr rfl tyF53_0 (by first | (simp only [Nat.reduceAdd, Nat.add_zero, Nat.zero_add]; first | done | rfl) | rfl) rfl ?_
    refine sv_nil ?_
    refine tw_p rfl ?_
    refine sv_loadRo 0 rfl rfl (i * 2) rfl tyA23 tyS23 (icells_id hx) rfl ?_
    refine sv_nil ?_
    refine tw_g rfl ?_
    obtain ⟨T1, hA2, hT2, hro2, hle2⟩ := part_view (H := .ro g o (icells L) :: rowE v 53 2 (icells (sortI (L.take i)))) (ys := icells (L.take i)) (m := i - 0) List.mem_cons_self ht1 (fun j u hu => by have := fm_sub it_len L 0 i j u; rw [List.drop_zero] at this; exact this hu)
    have hget := rget_fn A1 (c - 0) (L.take i) T1 (by rw [hlen]; exact hA2) (by rw [hlen]; exact hT2) (by omega) x.id
    rw [hlen, rget_mem] at hget
    refine sx_callV T1 hget rfl hle2 hro2 rfl ?_
    refine sx_nil ⟨HLe.pick [0] (by simp) rfl, ?_⟩
    refine tw_p rfl ?_
    refine sv_move rfl rfl ?_
    refine sv_nil ?_
    refine tw_p rfl ?_
    refine sv_extract rfl rfl rfl ?_
    refine sv_nil ?_
    refine tw_p rfl ?_
    refine sv_extract rfl rfl rfl ?_
    refine sv_nil ?_
    refine tw_p rfl ?_
    refine sv_assign rfl rfl ?_
    refine sv_nil ?_
    refine tw_p rfl ?_
    refine sv_assign rfl rfl ?_
    refine sv_nil ?_
    refine tw_nil (hZ _ _ ?_)
    refine awp_forget [(0, _), (4, _), (5, _), (7, _)] (Kn.cons rfl (Kn.cons rfl (Kn.cons rfl (Kn.cons rfl (Kn.nil))))) ?_
    refine awp_seq_region (fun Z hZ => ?_)
    refine sx_move rfl rfl ?_
    refine sx_nil (hZ _ _ ?_)
    refine awp_forget [(0, _), (4, _), (5, _), (28, _)] (Kn.cons rfl (Kn.cons rfl (Kn.cons rfl (Kn.cons rfl (Kn.nil))))) ?_
    first | refine awp_cond rfl (fun h1 => ?_) (fun h1 => ?_) | refine awp_seq (awp_cond rfl (fun h1 => ?_) (fun h1 => ?_))
    · have hin : x.id ∈ idsI (L.take i) := by simpa using h1
      rw [if_pos hin] at hq
      rw [← hq]
      refine awp_seq_region (fun Z hZ => ?_)
      refine sx_assign rfl rfl ?_
      refine sx_assign rfl rfl ?_
      refine sx_nil (hZ _ _ ?_)
      refine awp_forget [(2, _), (3, _)] (Kn.cons rfl (Kn.cons rfl (Kn.nil))) ?_
      refine awp_ret ?_
      repeat (with_reducible (first | refine nx_then_ret ?_ | refine nx_block_ret ?_ | refine nx_scope_ret ?_))
      exact nx_ret2h [] rfl rfl rfl (HLe.sub (List.nil_sublist _)) ⟨_, rfl, .inr ⟨by decide, rfl, rfl⟩⟩
    have hin : x.id ∉ idsI (L.take i) := by simpa using h1
    rw [if_neg hin] at hq
    have hfull : rfullQ x.id (sortI (L.take i)) = decide (2048 ≤ i) := by
      unfold rfullQ
      have h2 : x.id ∉ idsI (sortI (L.take i)) := fun hh => hin ((hpO.map fun e : It => e.id).mem_iff.1 hh)
      rw [rget_mem, decide_eq_false h2, hlO]
      rfl
    refine awp_skip ?_
    repeat (with_reducible (first | refine nx_block_normal ?_ | refine nx_scope_normal ?_))
    with_reducible first | refine nx_normal ?_ | refine nx_normalM ?_
    obtain ⟨Av, cv, rfl, hAv, hlev⟩ := hv.ro
    have hputf := rput_fn Av cv (sortI (L.take i)) (roE Av (icells (sortI (L.take i)))) hAv.arg (fun _ => rfl) (Ro.roE _ _) (by omega) x.id x.tx
    rw [hfull, ← put_eq hrO, ← sortI_snoc, ← htk] at hputf
    obtain ⟨e, he⟩ : ∃ e, wrongQ x.id x.tx (decide (2048 ≤ i)) = e := ⟨_, rfl⟩
    rw [he] at hputf hq
    by_cases he0 : e = 0
    · subst he0
      rw [if_neg (by simp)] at hq
      refine aww_seq_region _ [(0, true), (1, true), (2, true), (3, true), (4, true), (5, true), (6, true), (7, true), (8, true), (9, true), (10, true), (11, false), (12, true), (13, true), (14, true), (15, true), (16, true)] mixed (by kernel_rfl) (HLe.pick [0] (by simp) (by simp only [pick, List.filterMap_cons, List.filterMap_nil, List.getElem?_cons_succ, List.getElem?_cons_zero]; rfl)) (fun Z hZ => ?_)
      refine tw_p rfl ?_
      refine sv_move rfl rfl ?_
      refine sv_nil ?_
      refine tw_p rfl ?_
      refine sv_move rfl rfl ?_
      refine sv_nil ?_
      refine tw_p rfl ?_
      refine sv_move rfl rfl ?_
      refine sv_nil ?_
      refine tw_p rfl ?_
      refine sv_indexAddr (o + i * 2) Try.underlying27 tyS53 rfl rfl (by omega) (by simp) rfl ?_
      refine sv_nil ?_
      refine tw_p rfl ?_
      refine sv_fieldAddr rfl tyF53_0 (by first | (simp only [Nat.reduceAdd, Nat.add_zero, Nat.zero_add]; first | done | rfl) | rfl) rfl ?_
      refine sv_nil ?_
      refine tw_p rfl ?_
      refine sv_loadRo 0 rfl rfl (i * 2) rfl tyA23 tyS23 (icells_id hx) rfl ?_
      refine sv_nil ?_
      refine tw_p rfl ?_
      refine sv_move rfl rfl ?_
      refine sv_nil ?_
      refine tw_p rfl ?_
      refine sv_move rfl rfl ?_
      refine sv_nil ?_
      refine tw_p rfl ?_
      refine sv_indexAddr (o + i * 2) Try.underlying27 tyS53 rfl rfl (by omega) (by simp) rfl ?_
      refine sv_nil ?_
      refine tw_p rfl ?_
      refine sv_fieldAddr rfl tyF53_1 (by first | (simp only [Nat.reduceAdd, Nat.add_zero, Nat.zero_add]; first | done | rfl) | rfl) rfl ?_
      refine sv_nil ?_
      refine tw_p rfl ?_
      refine sv_loadRo 0 rfl rfl (i * 2 + 1) rfl tyA9 tyS9 (icells_tx hx) rfl ?_
      refine sv_nil ?_
      refine tw_g rfl ?_
      refine sx_callVU (roE Av (icells (sortI (L.take i)))) hputf rfl (row_view hlev [.ro g o (icells L)] _ _ _) (Ro.roE _ _) rfl ?_
      rintro v2 H2 ⟨u2, rfl, ⟨_, hu2, rfl⟩ | ⟨hbad, _⟩⟩
      rotate_left
      exact absurd rfl hbad
      rw [rowE_flt]
      refine sx_heap (.ro g o (icells L) :: rowE u2 53 2 (icells (sortI (L.take (i + 1))))) ((HLe.swap (rowE u2 53 2 (icells (sortI (L.take (i + 1))))) [.ro g o (icells L)]).trans (HLe.sub (List.Sublist.append_left (List.Sublist.cons_cons _ (List.nil_sublist _)) _))) ?_
      refine sx_nil ⟨HLe.pick [0] (by simp) rfl, ?_⟩
      refine tw_p rfl ?_
      refine sv_move rfl rfl ?_
      refine sv_nil ?_
      refine tw_p rfl ?_
      refine sv_extract rfl rfl rfl ?_
      refine sv_nil ?_
      refine tw_p rfl ?_
      refine sv_extract rfl rfl rfl ?_
      refine sv_nil ?_
      refine tw_p rfl ?_
      refine sv_assign rfl rfl ?_
      refine sv_nil ?_
      refine tw_p rfl ?_
      refine sv_assign rfl rfl ?_
      refine sv_nil ?_
      refine tw_nil (hZ _ _ ?_)
      refine awp_forget [(0, _), (5, _), (8, _), (9, _)] (Kn.cons rfl (Kn.cons rfl (Kn.cons rfl (Kn.cons rfl (Kn.nil))))) ?_
      refine awp_seq ?_
      refine awp_seq_region (fun Z hZ => ?_)
      refine sx_move rfl rfl ?_
      first | refine sx_neq rfl rfl rfl ?_ | refine sx_sneq rfl rfl rfl ?_
      refine sx_nil (hZ _ _ ?_)
      refine awp_forget [(0, _), (5, _), (8, _), (9, _), (45, _)] (Kn.cons rfl (Kn.cons rfl (Kn.cons rfl (Kn.cons rfl (Kn.cons rfl (Kn.nil)))))) ?_
      first | refine awp_cond rfl (fun h2 => ?_) (fun h2 => ?_) | refine awp_seq (awp_cond rfl (fun h2 => ?_) (fun h2 => ?_))
      · cases h2
      refine awp_skip ?_
      repeat (with_reducible (first | refine nx_block_normal ?_ | refine nx_scope_normal ?_))
      with_reducible first | refine nx_normal ?_ | refine nx_normalM ?_
      refine awp_region (fun Z hZ => ?_)
      refine sx_move rfl rfl ?_
      refine sx_assign rfl rfl ?_
      refine sx_nil (hZ _ _ ?_)
      refine nx_forget [(0, _), (4, _), (5, _)] (Kn.cons rfl (Kn.cons rfl (Kn.cons rfl (Kn.nil)))) ?_
      repeat (with_reducible (first | refine nx_block_normal ?_ | refine nx_scope_normal ?_))
      with_reducible first | refine nx_normal ?_ | refine nx_normalM ?_
      refine awp_region (fun Z hZ => ?_)
      refine sx_move rfl rfl ?_
      refine sx_add rfl rfl ((i + 1 : Nat) : Int) (by rw [IntWalk.i64_in _ (by omega)]; omega) rfl ?_
      refine sx_assign rfl rfl ?_
      refine sx_nil (hZ _ _ ?_)
      refine nx_forget [(0, _), (4, _), (5, _)] (Kn.cons rfl (Kn.cons rfl (Kn.cons rfl (Kn.nil)))) ?_
      refine nx_round (i + 1, u2) ⟨by show i + 1 ≤ _; omega, hu2, ?_, hq⟩ (by simp; omega) (Kn.cons rfl (Kn.cons rfl (Kn.cons rfl Kn.nil))) (HLe.refl _)
      show (idsI (L.take (i + 1))).Nodup
      rw [hidk]
      exact List.nodup_append.2 ⟨hnd, by simp, fun a ha b hb hab => hin (by simp at hb; rw [← hb, ← hab]; exact ha)⟩
    · rw [if_pos he0] at hq
      rw [← hq]
      refine aww_seq_region _ [(0, true), (1, true), (2, true), (3, true), (4, true), (5, true), (6, true), (7, true), (8, true), (9, true), (10, true), (11, false), (12, true), (13, true), (14, true), (15, true), (16, true)] mixed (by kernel_rfl) (HLe.pick [0] (by simp) (by simp only [pick, List.filterMap_cons, List.filterMap_nil, List.getElem?_cons_succ, List.getElem?_cons_zero]; rfl)) (fun Z hZ => ?_)
      refine tw_p rfl ?_
      refine sv_move rfl rfl ?_
      refine sv_nil ?_
      refine tw_p rfl ?_
      refine sv_move rfl rfl ?_
      refine sv_nil ?_
      refine tw_p rfl ?_
      refine sv_move rfl rfl ?_
      refine sv_nil ?_
      refine tw_p rfl ?_
      refine sv_indexAddr (o + i * 2) Try.underlying27 tyS53 rfl rfl (by omega) (by simp) rfl ?_
      refine sv_nil ?_
      refine tw_p rfl ?_
      refine sv_fieldAddr rfl tyF53_0 (by first | (simp only [Nat.reduceAdd, Nat.add_zero, Nat.zero_add]; first | done | rfl) | rfl) rfl ?_
      refine sv_nil ?_
      refine tw_p rfl ?_
      refine sv_loadRo 0 rfl rfl (i * 2) rfl tyA23 tyS23 (icells_id hx) rfl ?_
      refine sv_nil ?_
      refine tw_p rfl ?_
      refine sv_move rfl rfl ?_
      refine sv_nil ?_
      refine tw_p rfl ?_
      refine sv_move rfl rfl ?_
      refine sv_nil ?_
      refine tw_p rfl ?_
      refine sv_indexAddr (o + i * 2) Try.underlying27 tyS53 rfl rfl (by omega) (by simp) rfl ?_
      refine sv_nil ?_
      refine tw_p rfl ?_
      refine sv_fieldAddr rfl tyF53_1 (by first | (simp only [Nat.reduceAdd, Nat.add_zero, Nat.zero_add]; first | done | rfl) | rfl) rfl ?_
      refine sv_nil ?_
      refine tw_p rfl ?_
      refine sv_loadRo 0 rfl rfl (i * 2 + 1) rfl tyA9 tyS9 (icells_tx hx) rfl ?_
      refine sv_nil ?_
      refine tw_g rfl ?_
      refine sx_callVU (roE Av (icells (sortI (L.take i)))) hputf rfl (row_view hlev [.ro g o (icells L)] _ _ _) (Ro.roE _ _) rfl ?_
      rintro v2 H2 ⟨u2, rfl, ⟨hbad, _⟩ | ⟨_, rfl, rfl⟩⟩
      exact absurd hbad he0
      refine sx_heap (.ro g o (icells L) :: rowE (.slice Av (sortI (L.take i)).length cv) 53 2 (icells (sortI (L.take i)))) (HLe.refl _) ?_
      refine sx_nil ⟨HLe.pick [0] (by simp) rfl, ?_⟩
      refine tw_p rfl ?_
      refine sv_move rfl rfl ?_
      refine sv_nil ?_
      refine tw_p rfl ?_
      refine sv_extract rfl rfl rfl ?_
      refine sv_nil ?_
      refine tw_p rfl ?_
      refine sv_extract rfl rfl rfl ?_
      refine sv_nil ?_
      refine tw_p rfl ?_
      refine sv_assign rfl rfl ?_
      refine sv_nil ?_
      refine tw_p rfl ?_
      refine sv_assign rfl rfl ?_
      refine sv_nil ?_
      refine tw_nil (hZ _ _ ?_)
      refine awp_forget [(0, _), (5, _), (8, _), (9, _)] (Kn.cons rfl (Kn.cons rfl (Kn.cons rfl (Kn.cons rfl (Kn.nil))))) ?_
      refine awp_seq ?_
      refine awp_seq_region (fun Z hZ => ?_)
      refine sx_move rfl rfl ?_
      first | refine sx_neq rfl rfl rfl ?_ | refine sx_sneq rfl rfl rfl ?_
      refine sx_nil (hZ _ _ ?_)
      refine awp_forget [(0, _), (5, _), (8, _), (9, _), (45, _)] (Kn.cons rfl (Kn.cons rfl (Kn.cons rfl (Kn.cons rfl (Kn.cons rfl (Kn.nil)))))) ?_
      first | refine awp_cond rfl (fun h2 => ?_) (fun h2 => ?_) | refine awp_seq (awp_cond rfl (fun h2 => ?_) (fun h2 => ?_))
      · refine awp_seq_region (fun Z hZ => ?_)
        refine sx_move rfl rfl ?_
        refine sx_assign rfl rfl ?_
        refine sx_assign rfl rfl ?_
        refine sx_nil (hZ _ _ ?_)
        refine awp_forget [(2, _), (3, _)] (Kn.cons rfl (Kn.cons rfl (Kn.nil))) ?_
        refine awp_ret ?_
        repeat (with_reducible (first | refine nx_then_ret ?_ | refine nx_block_ret ?_ | refine nx_scope_ret ?_))
        exact nx_ret2h [] rfl rfl rfl (HLe.sub (List.nil_sublist _)) ⟨_, rfl, .inr ⟨he0, rfl, rfl⟩⟩
      · exfalso
        simp at h2
        omega
  · refine awp_exit ?_
    repeat (with_reducible (first | refine nx_then_exit ?_ | refine nx_block_other (by decide) ?_ | refine nx_scope_exit ?_))
    with_reducible refine nx_block_exit ?_
    repeat (with_reducible (first | refine nx_block_normal ?_ | refine nx_scope_normal ?_))
    with_reducible first | refine nx_normal ?_ | refine nx_normalM ?_
    have hke : i = L.length := by simp at h; omega
    subst hke
    rw [List.drop_length, ofE] at hq
    rw [List.take_length] at hv ⊢
    rw [← hq]
    refine awp_seq_region (fun Z hZ => ?_)
    refine sx_move rfl rfl ?_
    refine sx_assign rfl rfl ?_
    refine sx_assign rfl rfl ?_
    refine sx_nil (hZ _ _ ?_)
    refine awp_forget [(2, _), (3, _)] (Kn.cons rfl (Kn.cons rfl (Kn.nil))) ?_
    refine awp_ret ?_
    repeat (with_reducible (first | refine nx_then_ret ?_ | refine nx_block_ret ?_ | refine nx_scope_ret ?_))
    exact nx_ret2h _ rfl rfl rfl (HLe.sub (List.sublist_append_right _ _)) ⟨_, rfl, .inl ⟨rfl, hv, rfl⟩⟩
end Go.Proofs.Ytllclbbjfnipoaa
