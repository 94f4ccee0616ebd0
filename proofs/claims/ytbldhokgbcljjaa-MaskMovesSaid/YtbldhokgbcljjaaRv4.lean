/- The walk of the document's Up and Down of a set. Conditions: not too many identifiers. -/
import Derived.Test.YtbldhokgbcljjaaCv5
import Derived.Test.YtbldhokgbcljjaaMw5
namespace Go.Proofs.Ytbldhokgbcljjaa
open Go.RowKit
set_option linter.unusedVariables false
set_option linter.unusedSimpArgs false
set_option maxRecDepth 100000
/-- A row that has just what R tells. -/
structure MvOk (v : Value) (out : List Sp) (n : Nat) (R : Nat → Prop) : Prop where
  row : RowOk v out.length
  pl : Plain out
  be : BelowS 6004799503160661 out
  len : out.length ≤ n
  is_ : ∀ k, inS out k ↔ R k
theorem MvOk.nil {R : Nat → Prop} (n : Nat) (h : ∀ k, ¬ R k) : MvOk (.slice none 0 0) [] n R := ⟨RowOk.nil, Plain.nil, (fun s hs => by cases hs), Nat.zero_le _, fun k => ⟨fun hk => absurd hk (inS_nil k), fun hk => absurd hk (h k)⟩⟩
theorem MvOk.put {v v' : Value} {out : List Sp} {n m : Nat} {R R' : Nat → Prop} (h : MvOk v out n R) {j : Nat} (hj : j < 6004799503160661) (hv : RowOk v' (unQ out [⟨j, j⟩]).length) (hm : n + 1 ≤ m) (hR : ∀ k, R' k ↔ R k ∨ j = k) : MvOk v' (unQ out [⟨j, j⟩]) m R' where
  row := hv
  pl := un_plain _ _
  be := un_below h.be fun s hs => by rw [List.mem_singleton.1 hs]; exact hj
  len := by have := un_len out [⟨j, j⟩]; have := h.len; simp only [List.length_cons, List.length_nil] at *; omega
  is_ k := by
    rw [un_in, h.is_, inS_one, hR]
    exact or_congr Iff.rfl ⟨fun hh => Nat.le_antisymm hh.1 hh.2, fun hh => by subst hh; exact ⟨Nat.le_refl _, Nat.le_refl _⟩⟩
theorem MvOk.to {v : Value} {out : List Sp} {n m : Nat} {R R' : Nat → Prop} (h : MvOk v out n R) (hm : n ≤ m) (hR : ∀ k, R k ↔ R' k) : MvOk v out m R' := ⟨h.row, h.pl, h.be, Nat.le_trans h.len hm, fun k => (h.is_ k).trans (hR k)⟩
theorem tot_split (P : List Sp) (i : Nat) : totalQ P = totalQ (P.take i) + totalQ (P.drop i) := by
  unfold totalQ
  rw [← List.sum_append_nat, ← List.map_append, List.take_append_drop]
theorem tot_succ {P : List Sp} {i : Nat} {s : Sp} (h : P[i]? = some s) : totalQ (P.take (i + 1)) = totalQ (P.take i) + (s.b + 1 - s.a) := by
  obtain ⟨hlt, rfl⟩ := List.getElem?_eq_some_iff.1 h
  rw [List.take_succ_eq_append_getElem hlt]
  unfold totalQ
  rw [List.map_append, List.sum_append_nat]
  rfl
theorem in_succ {P : List Sp} {i : Nat} {s : Sp} (h : P[i]? = some s) (k : Nat) : inS (P.take (i + 1)) k ↔ inS (P.take i) k ∨ s.has k := by
  obtain ⟨hlt, rfl⟩ := List.getElem?_eq_some_iff.1 h
  rw [List.take_succ_eq_append_getElem hlt, inS_app, inS_one]
theorem un_view {g n c : Nat} {A : Option Addr} {xs : List Value} {j : Sp} {rest : Heap} {e : TypeId} (hle : ∀ (X Y : Heap) (t : TypeId) (size : Nat) (xs : List Value), HLe (X ++ (roE A xs ++ Y)) (X ++ (rowE (.slice A n c) t size xs ++ Y))) (hs : (rowE (.slice A n c) 75 2 xs).Sublist rest) : HLe (roE A xs ++ [.ro g 0 (scells [j])]) (.own g e (scells [j]) :: rest) := by
  have h1 := hle [.ro g 0 (scells [j])] [] 75 2 xs
  rw [List.append_nil, List.append_nil] at h1
  exact (HLe.swap [Ent.ro g 0 (scells [j])] _).trans (h1.trans ((HLe.sub (List.Sublist.cons_cons _ hs)).trans (own_ro _)))
theorem rmoved_fn (up : Bool) (A : Option Addr) (c : Nat) (L : List Sp) (Th : Heap) (hA : ArgOk A L.length) (hT : 0 < L.length → Th = roE A (scells L)) (hro : Ro Th) (hL : L.length ≤ 1000) (ho : SpsOk L) (htot : totalQ (plainQ L) ≤ 200) (M : List Sp) (hM : Plain M) (hMi : ∀ k, inS M k ↔ ∃ j, inS (plainQ L) j ∧ relM up j k) :
    Fn Try.prog 66 [.slice A L.length c, .bool up] Th fun v H' => RowOk v M.length ∧ H' = rowE v 75 2 (scells M) := by
  have hpl := plain_len L
  have hPp := plain_plain L
  have hPb := plain_below L
  refine Fn.enter (N := 82) Try.func66 rfl (by kernel_rfl) rfl (fun w0 => ?_)

  refine awp_seq_region (fun Z hZ => ?_)
  refine sx_assign rfl rfl ?_
  refine sx_nil (hZ _ _ ?_)
  refine awp_forget [(0, _), (1, _)] (Kn.cons rfl (Kn.cons rfl (Kn.nil))) ?_
  refine awp_seq_region (fun Z hZ => ?_)
  refine sx_move rfl rfl ?_
  refine sx_callIE Th (rcut_fn A c L Th hA hT hro (by omega) ho) rfl (HLe.refl _) hro rfl (fun A1 c1 hA1 => ?_)
  refine sx_assign rfl rfl ?_
  refine sx_nil (hZ _ _ ?_)
  refine awp_forget [(1, _), (5, _)] (Kn.cons rfl (Kn.cons rfl (Kn.nil))) ?_
  obtain ⟨P, hP⟩ : ∃ P, plainQ L = P := ⟨_, rfl⟩
  rw [hP] at hpl hPp hPb hA1 hMi htot ⊢
  refine awp_heap (roE A1 (scells P)) (HLe.sub (List.sublist_append_right _ _)) ?_
  refine awp_seq_region (fun Z hZ => ?_)
  refine sx_assign rfl rfl ?_
  refine sx_nil (hZ _ _ ?_)
  refine awp_forget [(1, _), (5, _), (6, _)] (Kn.cons rfl (Kn.cons rfl (Kn.cons rfl (Kn.nil)))) ?_
  refine awp_seq ?_
  refine awp_seq_region (fun Z hZ => ?_)
  refine sx_assign rfl rfl ?_
  refine sx_nil (hZ _ _ ?_)
  refine awp_forget [(1, _), (5, _), (6, _), (7, _)] (Kn.cons rfl (Kn.cons rfl (Kn.cons rfl (Kn.cons rfl (Kn.nil))))) ?_
  refine awp_block ?_
  refine awp_loop (ι := Value × List Sp × Nat) (fun s => [(1, .bool up), (5, .slice A1 P.length c1), (6, s.1), (7, iq (s.2.2 : Nat))]) (fun s => roE A1 (scells P) ++ rowE s.1 75 2 (scells s.2.1)) (fun s => s.2.2 ≤ P.length ∧ MvOk s.1 s.2.1 (4 * totalQ (P.take s.2.2)) (fun k => ∃ j, inS (P.take s.2.2) j ∧ relM up j k)) (fun s => P.length - s.2.2) (.slice none 0 0, [], 0) ⟨Nat.zero_le _, MvOk.nil _ fun k ⟨j, hj, _⟩ => inS_nil j hj⟩ (Kn.cons rfl (Kn.cons rfl (Kn.cons rfl (Kn.cons rfl Kn.nil)))) (by show HLe (_ ++ []) _; rw [List.append_nil]; exact HLe.refl _) ?_
  rintro ⟨v, out, i⟩ ⟨hi, hv⟩
  replace hi : i ≤ P.length := hi
  replace hv : MvOk v out (4 * totalQ (P.take i)) (fun k => ∃ j, inS (P.take i) j ∧ relM up j k) := hv
  refine awp_forget [(1, .bool up), (5, .slice A1 P.length c1), (6, v), (7, iq i)] (Kn.cons rfl (Kn.cons rfl (Kn.cons rfl (Kn.cons rfl Kn.nil)))) ?_
  refine awp_heap (roE A1 (scells P) ++ rowE v 75 2 (scells out)) (HLe.refl _) ?_
  refine awp_seq ?_
  refine awp_seq_region (fun Z hZ => ?_)
  refine sx_move rfl rfl ?_
  refine sx_move rfl rfl ?_
  first | refine sx_len Try.underlying22 rfl rfl ?_ | refine sx_lenS Try.underlying22 rfl rfl ?_
  first | refine sx_lss rfl rfl rfl ?_ | refine sx_slss rfl rfl rfl ?_
  refine sx_nil (hZ _ _ ?_)
  refine awp_forget [(1, _), (5, _), (6, _), (7, _), (22, _)] (Kn.cons rfl (Kn.cons rfl (Kn.cons rfl (Kn.cons rfl (Kn.cons rfl (Kn.nil)))))) ?_
  first | refine awp_cond rfl (fun h4 => ?_) (fun h4 => ?_) | refine awp_seq (awp_cond rfl (fun h4 => ?_) (fun h4 => ?_))
  · have hlt : i < P.length := by simpa using h4
    obtain ⟨s, hs⟩ : ∃ s, P[i]? = some s := ⟨_, List.getElem?_eq_getElem hlt⟩
    have hsok := hPp.ok s (List.mem_of_getElem? hs)
    have hsb := hPb s (List.mem_of_getElem? hs)
    have ht1 := tot_succ hs
    have ht2 := tot_split P (i + 1)
    obtain ⟨g, o, rfl⟩ := slIn_pos2 hA1 (by omega)
    refine awp_heap (.ro g o (scells P) :: rowE v 75 2 (scells out)) (HLe.refl _) ?_
    refine awp_skip ?_
    repeat (with_reducible (first | refine nx_block_normal ?_ | refine nx_scope_normal ?_))
    with_reducible first | refine nx_normal ?_ | refine nx_normalM ?_
    refine awp_seq (awp_block ?_)
    refine awp_seq_region (fun Z hZ => ?_)
    refine sx_move rfl rfl ?_
    refine sx_move rfl rfl ?_
    refine sx_indexAddr (o + i * 2) Try.underlying22 tyS75 rfl rfl (by omega) (by simp) rfl ?_
    refine sx_fieldAddr rfl tyF75_0 (by first | (simp only [Nat.reduceAdd, Nat.add_zero, Nat.zero_add]; first | done | rfl) | rfl) rfl ?_
    refine sx_loadRo 0 rfl rfl (i * 2) (by omega) tyA36 tyS36 (scells_a hs) rfl ?_
    refine sx_assign rfl rfl ?_
    refine sx_nil (hZ _ _ ?_)
    refine awp_forget [(1, _), (5, _), (6, _), (7, _), (8, _)] (Kn.cons rfl (Kn.cons rfl (Kn.cons rfl (Kn.cons rfl (Kn.cons rfl (Kn.nil)))))) ?_
    refine awp_block ?_
    refine awp_loop (ι := Value × List Sp × Nat) (fun t => [(1, .bool up), (5, .slice (some ⟨g, o, none⟩) P.length c1), (6, t.1), (7, iq i), (8, uq t.2.2)]) (fun t => .ro g o (scells P) :: rowE t.1 75 2 (scells t.2.1)) (fun t => s.a ≤ t.2.2 ∧ t.2.2 ≤ s.b + 1 ∧ MvOk t.1 t.2.1 (4 * (totalQ (P.take i) + (t.2.2 - s.a))) (fun k => (∃ j, inS (P.take i) j ∧ relM up j k) ∨ ∃ j, s.a ≤ j ∧ j < t.2.2 ∧ relM up j k)) (fun t => s.b + 1 - t.2.2) (v, out, s.a) ⟨Nat.le_refl _, Nat.le_succ_of_le hsok, hv.to (by omega) fun k => ⟨.inl, fun hh => hh.elim id fun ⟨j, h1, h2, _⟩ => absurd h2 (by show ¬ j < s.a; omega)⟩⟩ (Kn.cons rfl (Kn.cons rfl (Kn.cons rfl (Kn.cons rfl (Kn.cons rfl Kn.nil))))) (HLe.refl _) ?_
    clear hv
    rintro ⟨v, out, id⟩ ⟨hi1, hi2, hv⟩
    replace hi1 : s.a ≤ id := hi1
    replace hi2 : id ≤ s.b + 1 := hi2
    replace hv : MvOk v out (4 * (totalQ (P.take i) + (id - s.a))) (fun k => (∃ j, inS (P.take i) j ∧ relM up j k) ∨ ∃ j, s.a ≤ j ∧ j < id ∧ relM up j k) := hv
    refine awp_forget [(1, .bool up), (5, .slice (some ⟨g, o, none⟩) P.length c1), (6, v), (7, iq i), (8, uq id)] (Kn.cons rfl (Kn.cons rfl (Kn.cons rfl (Kn.cons rfl (Kn.cons rfl Kn.nil))))) ?_
    refine awp_heap (.ro g o (scells P) :: rowE v 75 2 (scells out)) (HLe.refl _) ?_
    refine awp_seq ?_
    refine awp_seq_region (fun Z hZ => ?_)
    refine sx_move rfl rfl ?_
    refine sx_move rfl rfl ?_
    refine sx_move rfl rfl ?_
    refine sx_indexAddr (o + i * 2) Try.underlying22 tyS75 rfl rfl (by omega) (by simp) rfl ?_
    refine sx_fieldAddr rfl tyF75_1 (by first | (simp only [Nat.reduceAdd, Nat.add_zero, Nat.zero_add]; first | done | rfl) | rfl) rfl ?_
    refine sx_loadRo 0 rfl rfl (i * 2 + 1) (by omega) tyA36 tyS36 (scells_b hs) rfl ?_
    first | refine sx_leq rfl rfl rfl ?_ | refine sx_sleq rfl rfl rfl ?_
    refine sx_nil (hZ _ _ ?_)
    refine awp_forget [(1, _), (5, _), (6, _), (7, _), (8, _), (36, _)] (Kn.cons rfl (Kn.cons rfl (Kn.cons rfl (Kn.cons rfl (Kn.cons rfl (Kn.cons rfl (Kn.nil))))))) ?_
    first | refine awp_cond rfl (fun h7 => ?_) (fun h7 => ?_) | refine awp_seq (awp_cond rfl (fun h7 => ?_) (fun h7 => ?_))
    · have hle : id ≤ s.b := by simp at h7; omega
      obtain ⟨z, d, hz, hd, hid⟩ := id_ex (show id < 6004799503160661 by omega)
      have hof := rOf_fn z d hz hd
      rw [← hid] at hof
      obtain ⟨hx, hy⟩ := pt_lt z d hd
      obtain ⟨xy, hxy⟩ : ∃ xy, pt z d = xy := ⟨_, rfl⟩
      obtain ⟨x, y⟩ := xy
      rw [hxy] at hof hx hy
      replace hx : x < 2 ^ z := hx
      replace hy : y < 2 ^ z := hy
      refine awp_skip ?_
      repeat (with_reducible (first | refine nx_block_normal ?_ | refine nx_scope_normal ?_))
      with_reducible first | refine nx_normal ?_ | refine nx_normalM ?_
      refine awp_seq (awp_block ?_)

      refine awp_seq_region (fun Z hZ => ?_)
      refine sx_move rfl rfl ?_
      refine sx_callP (hof) rfl rfl ?_
      refine sx_move rfl rfl ?_
      refine sx_extract rfl rfl rfl ?_
      refine sx_extract rfl rfl rfl ?_
      refine sx_alloc tyZ48 rfl (fun g1 => ?_)
      first | refine sx_store 0 rfl rfl rfl tyS48 (by first | (simp only [Value.cells]; first | done | rfl) | rfl) rfl rfl (by first | (simp only [List.length_cons, List.length_nil, Nat.reduceAdd, Nat.zero_add, Nat.add_zero]; first | done | rfl) | rfl) (by first | (simp only [List.take_succ_cons, List.take_zero, List.drop_succ_cons, List.drop_zero, List.cons_append, List.nil_append, List.append_nil, List.length_cons, List.length_nil, Nat.reduceAdd, Nat.zero_add, Nat.add_zero, Value.cells, wrV]; first | done | rfl) | rfl) (by first | (simp only [List.set_cons_succ, List.set_cons_zero]; first | done | rfl) | rfl) ?_
      refine sx_assign rfl rfl ?_
      refine sx_nil (hZ _ _ ?_)
      refine awp_forget [(1, _), (5, _), (6, _), (7, _), (8, _), (9, _)] (Kn.cons rfl (Kn.cons rfl (Kn.cons rfl (Kn.cons rfl (Kn.cons rfl (Kn.cons rfl (Kn.nil))))))) ?_
      refine awp_seq_region (fun Z hZ => ?_)
      refine sx_assign rfl rfl ?_
      refine sx_nil (hZ _ _ ?_)
      refine awp_forget [(1, _), (5, _), (6, _), (7, _), (8, _), (9, _), (11, _)] (Kn.cons rfl (Kn.cons rfl (Kn.cons rfl (Kn.cons rfl (Kn.cons rfl (Kn.cons rfl (Kn.cons rfl (Kn.nil)))))))) ?_
      refine awp_cut (ι := Value × List (Nat × Nat) × Nat) (fun t => [(1, .bool up), (5, .slice (some ⟨g, o, none⟩) P.length c1), (6, v), (7, iq i), (8, uq id), (11, t.1)]) (fun t => .ro g o (scells P) :: (rowE v 75 2 (scells out) ++ rowE t.1 48 3 (tlc t.2.2 t.2.1))) (fun t => RowOk t.1 t.2.1.length ∧ Tgts t.2.2 t.2.1 (relM up id)) ?_ ?_
      · skip
        refine awp_seq_region (fun Z hZ => ?_)
        refine sx_move rfl rfl ?_
        refine sx_nil (hZ _ _ ?_)
        refine awp_forget [(1, _), (5, _), (6, _), (7, _), (8, _), (9, _), (11, _), (44, _)] (Kn.cons rfl (Kn.cons rfl (Kn.cons rfl (Kn.cons rfl (Kn.cons rfl (Kn.cons rfl (Kn.cons rfl (Kn.cons rfl (Kn.nil))))))))) ?_
        first | refine awp_cond rfl (fun hup => ?_) (fun hup => ?_) | refine awp_seq (awp_cond rfl (fun hup => ?_) (fun hup => ?_))
        · obtain rfl : up = true := hup
          rcases Nat.eq_zero_or_pos z with hz0 | hz0
          · subst hz0
            obtain rfl : d = 0 := by simp at hd; omega
            obtain rfl : x = 0 := by simp at hx; omega
            obtain rfl : y = 0 := by simp at hy; omega
            refine awp_seq_region (fun Z hZ => ?_)
            first | refine sx_loadA 0 rfl rfl tyA48 tyS48 (by first | (simp only [List.length_cons, List.length_nil, Nat.reduceAdd, Nat.zero_add, Nat.add_zero]; first | done | rfl) | rfl) (by first | (simp only [List.take_succ_cons, List.take_zero, List.drop_succ_cons, List.drop_zero, List.cons_append, List.nil_append, List.append_nil, List.length_cons, List.length_nil, Nat.reduceAdd, Nat.zero_add, Nat.add_zero, Value.cells, wrV]; first | done | rfl) | rfl) rfl ?_
            refine sx_callP (rUp_top) rfl rfl ?_
            refine sx_move rfl rfl ?_
            refine sx_extract rfl rfl rfl ?_
            refine sx_extract rfl rfl rfl ?_
            refine sx_alloc tyZ48 rfl (fun g2 => ?_)
            first | refine sx_store 0 rfl rfl rfl tyS48 (by first | (simp only [Value.cells]; first | done | rfl) | rfl) rfl rfl (by first | (simp only [List.length_cons, List.length_nil, Nat.reduceAdd, Nat.zero_add, Nat.add_zero]; first | done | rfl) | rfl) (by first | (simp only [List.take_succ_cons, List.take_zero, List.drop_succ_cons, List.drop_zero, List.cons_append, List.nil_append, List.append_nil, List.length_cons, List.length_nil, Nat.reduceAdd, Nat.zero_add, Nat.add_zero, Value.cells, wrV]; first | done | rfl) | rfl) (by first | (simp only [List.set_cons_succ, List.set_cons_zero]; first | done | rfl) | rfl) ?_ | refine sx_store 1 rfl rfl rfl tyS48 (by first | (simp only [Value.cells]; first | done | rfl) | rfl) rfl rfl (by first | (simp only [List.length_cons, List.length_nil, Nat.reduceAdd, Nat.zero_add, Nat.add_zero]; first | done | rfl) | rfl) (by first | (simp only [List.take_succ_cons, List.take_zero, List.drop_succ_cons, List.drop_zero, List.cons_append, List.nil_append, List.append_nil, List.length_cons, List.length_nil, Nat.reduceAdd, Nat.zero_add, Nat.add_zero, Value.cells, wrV]; first | done | rfl) | rfl) (by first | (simp only [List.set_cons_succ, List.set_cons_zero]; first | done | rfl) | rfl) ?_
            refine sx_assign rfl rfl ?_
            refine sx_nil (hZ _ _ ?_)
            refine awp_forget [(1, _), (5, _), (6, _), (7, _), (8, _), (11, _), (12, _), (13, _)] (Kn.cons rfl (Kn.cons rfl (Kn.cons rfl (Kn.cons rfl (Kn.cons rfl (Kn.cons rfl (Kn.cons rfl (Kn.cons rfl (Kn.nil))))))))) ?_
            refine awp_seq_region (fun Z hZ => ?_)
            refine sx_move rfl rfl ?_
            first | refine sx_eql rfl rfl rfl ?_ | refine sx_seql rfl rfl rfl ?_
            refine sx_nil (hZ _ _ ?_)
            refine awp_forget [(1, _), (5, _), (6, _), (7, _), (8, _), (11, _), (12, _), (51, _)] (Kn.cons rfl (Kn.cons rfl (Kn.cons rfl (Kn.cons rfl (Kn.cons rfl (Kn.cons rfl (Kn.cons rfl (Kn.cons rfl (Kn.nil))))))))) ?_
            first | refine awp_cond rfl (fun h13 => ?_) (fun h13 => ?_) | refine awp_seq (awp_cond rfl (fun h13 => ?_) (fun h13 => ?_))
            · cases h13
            refine awp_skip ?_
            refine nx_cut (.slice none 0 0, [], 0) ⟨RowOk.nil, by rw [hid]; exact tgt_up0⟩ (Kn.cons rfl (Kn.cons rfl (Kn.cons rfl (Kn.cons rfl (Kn.cons rfl (Kn.cons rfl Kn.nil)))))) ?_
            show HLe (_ :: (_ ++ [])) _
            rw [List.append_nil]
            exact HLe.drop 2 rfl
          · obtain ⟨n, rfl⟩ : ∃ n, z = n + 1 := ⟨z - 1, by omega⟩
            have htg := tgt_up hz hd
            rw [hxy, ← hid] at htg

            refine awp_seq_region (fun Z hZ => ?_)
            first | refine sx_loadA 0 rfl rfl tyA48 tyS48 (by first | (simp only [List.length_cons, List.length_nil, Nat.reduceAdd, Nat.zero_add, Nat.add_zero]; first | done | rfl) | rfl) (by first | (simp only [List.take_succ_cons, List.take_zero, List.drop_succ_cons, List.drop_zero, List.cons_append, List.nil_append, List.append_nil, List.length_cons, List.length_nil, Nat.reduceAdd, Nat.zero_add, Nat.add_zero, Value.cells, wrV]; first | done | rfl) | rfl) rfl ?_
            refine sx_callP (rUp_fn n x y hz hx hy) rfl rfl ?_
            refine sx_move rfl rfl ?_
            refine sx_extract rfl rfl rfl ?_
            refine sx_extract rfl rfl rfl ?_
            refine sx_alloc tyZ48 rfl (fun g3 => ?_)
            first | refine sx_store 0 rfl rfl rfl tyS48 (by first | (simp only [Value.cells]; first | done | rfl) | rfl) rfl rfl (by first | (simp only [List.length_cons, List.length_nil, Nat.reduceAdd, Nat.zero_add, Nat.add_zero]; first | done | rfl) | rfl) (by first | (simp only [List.take_succ_cons, List.take_zero, List.drop_succ_cons, List.drop_zero, List.cons_append, List.nil_append, List.append_nil, List.length_cons, List.length_nil, Nat.reduceAdd, Nat.zero_add, Nat.add_zero, Value.cells, wrV]; first | done | rfl) | rfl) (by first | (simp only [List.set_cons_succ, List.set_cons_zero]; first | done | rfl) | rfl) ?_ | refine sx_store 1 rfl rfl rfl tyS48 (by first | (simp only [Value.cells]; first | done | rfl) | rfl) rfl rfl (by first | (simp only [List.length_cons, List.length_nil, Nat.reduceAdd, Nat.zero_add, Nat.add_zero]; first | done | rfl) | rfl) (by first | (simp only [List.take_succ_cons, List.take_zero, List.drop_succ_cons, List.drop_zero, List.cons_append, List.nil_append, List.append_nil, List.length_cons, List.length_nil, Nat.reduceAdd, Nat.zero_add, Nat.add_zero, Value.cells, wrV]; first | done | rfl) | rfl) (by first | (simp only [List.set_cons_succ, List.set_cons_zero]; first | done | rfl) | rfl) ?_
            refine sx_assign rfl rfl ?_
            refine sx_nil (hZ _ _ ?_)
            refine awp_forget [(1, _), (5, _), (6, _), (7, _), (8, _), (11, _), (12, _), (13, _)] (Kn.cons rfl (Kn.cons rfl (Kn.cons rfl (Kn.cons rfl (Kn.cons rfl (Kn.cons rfl (Kn.cons rfl (Kn.cons rfl (Kn.nil))))))))) ?_
            refine awp_seq_region (fun Z hZ => ?_)
            refine sx_move rfl rfl ?_
            first | refine sx_eql rfl rfl rfl ?_ | refine sx_seql rfl rfl rfl ?_
            refine sx_nil (hZ _ _ ?_)
            refine awp_forget [(1, _), (5, _), (6, _), (7, _), (8, _), (11, _), (12, _), (51, _)] (Kn.cons rfl (Kn.cons rfl (Kn.cons rfl (Kn.cons rfl (Kn.cons rfl (Kn.cons rfl (Kn.cons rfl (Kn.cons rfl (Kn.nil))))))))) ?_
            first | refine awp_cond rfl (fun h13 => ?_) (fun h13 => ?_) | refine awp_seq (awp_cond rfl (fun h13 => ?_) (fun h13 => ?_))
            · refine awp_region (fun Z hZ => ?_)
              refine sx_move rfl rfl ?_
              first | refine sx_loadA 0 rfl rfl tyA48 tyS48 (by first | (simp only [List.length_cons, List.length_nil, Nat.reduceAdd, Nat.zero_add, Nat.add_zero]; first | done | rfl) | rfl) (by first | (simp only [List.take_succ_cons, List.take_zero, List.drop_succ_cons, List.drop_zero, List.cons_append, List.nil_append, List.append_nil, List.length_cons, List.length_nil, Nat.reduceAdd, Nat.zero_add, Nat.add_zero, Value.cells, wrV]; first | done | rfl) | rfl) rfl ?_ | refine sx_loadA 1 rfl rfl tyA48 tyS48 (by first | (simp only [List.length_cons, List.length_nil, Nat.reduceAdd, Nat.zero_add, Nat.add_zero]; first | done | rfl) | rfl) (by first | (simp only [List.take_succ_cons, List.take_zero, List.drop_succ_cons, List.drop_zero, List.cons_append, List.nil_append, List.append_nil, List.length_cons, List.length_nil, Nat.reduceAdd, Nat.zero_add, Nat.add_zero, Value.cells, wrV]; first | done | rfl) | rfl) rfl ?_
              refine sx_buildSlice Try.underlying107 tyS48 tyZ48 rfl rfl rfl rfl (by first | (simp only [List.take_succ_cons, List.take_zero, List.drop_succ_cons, List.drop_zero, List.cons_append, List.nil_append, List.append_nil, List.length_cons, List.length_nil, Nat.reduceAdd, Nat.zero_add, Nat.add_zero, Value.cells, wrV, zrep_one, List.replicate_succ, List.replicate_zero, Nat.reduceMul, Nat.zero_mul]; first | done | rfl) | rfl) rfl (fun g4 => ?_)
              refine sx_appendE (m := 1) (n := 0) (xs := []) (_ :: _ :: _ :: _ :: rowE v 75 2 (scells out)) elemTR rfl RowOk.nil rfl rfl (fun w hw => rd_own (i := 0) (xs := tcells (n : Nat) (x / 2 : Nat) (y / 2 : Nat)) rfl rfl hw) rfl (by decide) (by decide) (by show HLe (_ ++ []) _; rw [List.append_nil]; exact HLe.refl _) rfl (fun v1 hv1 => ?_)
              refine sx_assign rfl rfl ?_
              refine sx_nil (hZ _ _ ?_)
              refine nx_forget [(1, _), (5, _), (6, _), (7, _), (8, _), (11, _)] (Kn.cons rfl (Kn.cons rfl (Kn.cons rfl (Kn.cons rfl (Kn.cons rfl (Kn.cons rfl (Kn.nil))))))) ?_
              exact nx_cut (v1, [(x / 2, y / 2)], n) ⟨hv1, htg⟩ (Kn.cons rfl (Kn.cons rfl (Kn.cons rfl (Kn.cons rfl (Kn.cons rfl (Kn.cons rfl Kn.nil)))))) (HLe.drop 3 rfl)
            cases h13
        · obtain rfl : up = false := hup
          by_cases hz26 : z = 26
          · subst hz26
            have htg := tgt_top hd
            rw [← hid] at htg

            refine awp_region (fun Z hZ => ?_)
            first | refine sx_loadA 0 rfl rfl tyA48 tyS48 (by first | (simp only [List.length_cons, List.length_nil, Nat.reduceAdd, Nat.zero_add, Nat.add_zero]; first | done | rfl) | rfl) (by first | (simp only [List.take_succ_cons, List.take_zero, List.drop_succ_cons, List.drop_zero, List.cons_append, List.nil_append, List.append_nil, List.length_cons, List.length_nil, Nat.reduceAdd, Nat.zero_add, Nat.add_zero, Value.cells, wrV]; first | done | rfl) | rfl) rfl ?_
            refine sx_callP (rDown_top x y hx hy) rfl rfl ?_
            refine sx_move rfl rfl ?_
            refine sx_extract rfl rfl rfl ?_
            refine sx_extract rfl rfl rfl ?_
            refine sx_assign rfl rfl ?_
            refine sx_nil (hZ _ _ ?_)
            refine nx_forget [(1, _), (5, _), (6, _), (7, _), (8, _), (11, _)] (Kn.cons rfl (Kn.cons rfl (Kn.cons rfl (Kn.cons rfl (Kn.cons rfl (Kn.cons rfl (Kn.nil))))))) ?_
            refine nx_cut (.slice none 0 0, [], 26) ⟨RowOk.nil, htg⟩ (Kn.cons rfl (Kn.cons rfl (Kn.cons rfl (Kn.cons rfl (Kn.cons rfl (Kn.cons rfl Kn.nil)))))) ?_
            show HLe (_ :: (_ ++ [])) _
            rw [List.append_nil]
            exact HLe.drop 1 rfl
          · skip
            refine awp_region (fun Z hZ => ?_)
            first | refine sx_loadA 0 rfl rfl tyA48 tyS48 (by first | (simp only [List.length_cons, List.length_nil, Nat.reduceAdd, Nat.zero_add, Nat.add_zero]; first | done | rfl) | rfl) (by first | (simp only [List.take_succ_cons, List.take_zero, List.drop_succ_cons, List.drop_zero, List.cons_append, List.nil_append, List.append_nil, List.length_cons, List.length_nil, Nat.reduceAdd, Nat.zero_add, Nat.add_zero, Value.cells, wrV]; first | done | rfl) | rfl) rfl ?_
            refine sx_callU [] (rDown_fn z x y (by omega) hx hy) rfl (List.nil_sublist _) Ro.nil rfl ?_
            rintro v2 H2 ⟨u, K, rfl, hu, hK, rfl⟩
            rw [rowE_flt]
            refine sx_move rfl rfl ?_
            refine sx_extract rfl rfl rfl ?_
            refine sx_extract rfl rfl rfl ?_
            refine sx_assign rfl rfl ?_
            refine sx_nil (hZ _ _ ?_)
            refine nx_forget [(1, _), (5, _), (6, _), (7, _), (8, _), (11, _)] (Kn.cons rfl (Kn.cons rfl (Kn.cons rfl (Kn.cons rfl (Kn.cons rfl (Kn.cons rfl (Kn.nil))))))) ?_
            refine nx_cut (u, K, z + 1) ⟨hu, by rw [hid]; exact tgt_down (by omega) hd (by rw [hxy]; exact hK)⟩ (Kn.cons rfl (Kn.cons rfl (Kn.cons rfl (Kn.cons rfl (Kn.cons rfl (Kn.cons rfl Kn.nil)))))) ?_
            exact (HLe.swap _ _).trans (HLe.sub (List.Sublist.append_left (List.sublist_cons_self _ _) _))
      rintro ⟨w, K, zz⟩ ⟨hw, htg⟩
      replace hw : RowOk w K.length := hw
      replace htg : Tgts zz K (relM up id) := htg
      have hK4 := htg.len
      refine awp_forget [(1, .bool up), (5, .slice (some ⟨g, o, none⟩) P.length c1), (6, v), (7, iq i), (8, uq id), (11, w)] (Kn.cons rfl (Kn.cons rfl (Kn.cons rfl (Kn.cons rfl (Kn.cons rfl (Kn.cons rfl Kn.nil)))))) ?_
      refine awp_heap (.ro g o (scells P) :: (rowE v 75 2 (scells out) ++ rowE w 48 3 (tlc zz K))) (HLe.refl _) ?_
      refine awp_seq_region (fun Z hZ => ?_)
      refine sx_assign rfl rfl ?_
      refine sx_nil (hZ _ _ ?_)
      refine awp_forget [(1, _), (5, _), (6, _), (7, _), (8, _), (11, _), (14, _)] (Kn.cons rfl (Kn.cons rfl (Kn.cons rfl (Kn.cons rfl (Kn.cons rfl (Kn.cons rfl (Kn.cons rfl (Kn.nil)))))))) ?_
      refine awp_block ?_
      refine awp_loop (ι := Value × List Sp × Nat) (fun t => [(1, .bool up), (5, .slice (some ⟨g, o, none⟩) P.length c1), (6, t.1), (7, iq i), (8, uq id), (11, w), (14, iq (t.2.2 : Nat))]) (fun t => .ro g o (scells P) :: (rowE t.1 75 2 (scells t.2.1) ++ rowE w 48 3 (tlc zz K))) (fun t => t.2.2 ≤ K.length ∧ MvOk t.1 t.2.1 (4 * (totalQ (P.take i) + (id - s.a)) + t.2.2) (fun k => ((∃ j, inS (P.take i) j ∧ relM up j k) ∨ ∃ j, s.a ≤ j ∧ j < id ∧ relM up j k) ∨ ∃ p ∈ K.take t.2.2, base4 zz + hp zz p.1 p.2 = k)) (fun t => K.length - t.2.2) (v, out, 0) ⟨Nat.zero_le _, hv.to (Nat.le_refl _) fun k => ⟨.inl, fun hh => hh.elim (fun x => x) fun ⟨p, h1, _⟩ => by cases h1⟩⟩ (Kn.cons rfl (Kn.cons rfl (Kn.cons rfl (Kn.cons rfl (Kn.cons rfl (Kn.cons rfl (Kn.cons rfl Kn.nil))))))) (HLe.refl _) ?_
      clear hv
      rintro ⟨v, out, m⟩ ⟨hm, hv⟩
      replace hm : m ≤ K.length := hm
      replace hv : MvOk v out (4 * (totalQ (P.take i) + (id - s.a)) + m) (fun k => ((∃ j, inS (P.take i) j ∧ relM up j k) ∨ ∃ j, s.a ≤ j ∧ j < id ∧ relM up j k) ∨ ∃ p ∈ K.take m, base4 zz + hp zz p.1 p.2 = k) := hv
      obtain ⟨Aw, cw, rfl, _⟩ := hw.form
      obtain ⟨Av, cv, hvv, hAv, hlev⟩ := hv.row.ro
      subst hvv
      refine awp_forget [(1, .bool up), (5, .slice (some ⟨g, o, none⟩) P.length c1), (6, .slice Av out.length cv), (7, iq i), (8, uq id), (11, .slice Aw K.length cw), (14, iq m)] (Kn.cons rfl (Kn.cons rfl (Kn.cons rfl (Kn.cons rfl (Kn.cons rfl (Kn.cons rfl (Kn.cons rfl Kn.nil))))))) ?_
      refine awp_heap (.ro g o (scells P) :: (rowE (.slice Av out.length cv) 75 2 (scells out) ++ rowE (.slice Aw K.length cw) 48 3 (tlc zz K))) (HLe.refl _) ?_
      refine awp_seq ?_
      refine awp_seq_region (fun Z hZ => ?_)
      refine sx_move rfl rfl ?_
      refine sx_move rfl rfl ?_
      first | refine sx_len Try.underlying107 rfl rfl ?_ | refine sx_lenS Try.underlying107 rfl rfl ?_
      first | refine sx_lss rfl rfl rfl ?_ | refine sx_slss rfl rfl rfl ?_
      refine sx_nil (hZ _ _ ?_)
      refine awp_forget [(1, _), (5, _), (6, _), (7, _), (8, _), (11, _), (14, _), (64, _)] (Kn.cons rfl (Kn.cons rfl (Kn.cons rfl (Kn.cons rfl (Kn.cons rfl (Kn.cons rfl (Kn.cons rfl (Kn.cons rfl (Kn.nil))))))))) ?_
      first | refine awp_cond rfl (fun h17 => ?_) (fun h17 => ?_) | refine awp_seq (awp_cond rfl (fun h17 => ?_) (fun h17 => ?_))
      · have hml : m < K.length := by simpa using h17
        obtain ⟨p, hpk⟩ : ∃ p, K[m]? = some p := ⟨_, List.getElem?_eq_getElem hml⟩
        obtain ⟨hp1, hp2⟩ := htg.ok p (List.mem_of_getElem? hpk)
        have hidp := rID_fn (zz : Nat) p.1 p.2
        rw [(place_e0 htg.zo hp1 hp2).1, id_0 htg.zo hp1 hp2] at hidp
        have hjl := id_lt htg.zo hp1 hp2
        obtain ⟨j, hj⟩ : ∃ j, base4 zz + hp zz p.1 p.2 = j := ⟨_, rfl⟩
        rw [hj] at hidp hjl
        obtain ⟨gw, cw', hgw⟩ := hw.some (by omega)
        injection hgw with hg1 _ hg2
        subst hg1
        subst hg2
        have hol := hv.len
        refine awp_skip ?_
        repeat (with_reducible (first | refine nx_block_normal ?_ | refine nx_scope_normal ?_))
        with_reducible first | refine nx_normal ?_ | refine nx_normalM ?_
        refine awp_seq (awp_block ?_)

        refine awp_seq_region (fun Z hZ => ?_)
        refine sx_move rfl rfl ?_
        refine sx_move rfl rfl ?_
        refine sx_indexAddr (0 + m * 3) Try.underlying107 tyS48 rfl rfl (by omega) (by simp) rfl ?_
        refine sx_loadRd (m * 3) rfl (by omega) (fun w hw1 => rd_rowE hw (tlc_len _ _) (fun x hx => List.mem_cons_of_mem _ (List.mem_append_right _ hx)) hw1) (by omega) tyA48 tyS48 (tlc_all hpk) rfl ?_
        refine sx_callP (hidp) rfl rfl ?_
        refine sx_move rfl rfl ?_
        refine sx_extract rfl rfl rfl ?_
        refine sx_extract rfl rfl rfl ?_
        refine sx_assign rfl rfl ?_
        refine sx_assign rfl rfl ?_
        refine sx_nil (hZ _ _ ?_)
        refine awp_forget [(1, _), (5, _), (6, _), (7, _), (8, _), (11, _), (14, _), (15, _)] (Kn.cons rfl (Kn.cons rfl (Kn.cons rfl (Kn.cons rfl (Kn.cons rfl (Kn.cons rfl (Kn.cons rfl (Kn.cons rfl (Kn.nil))))))))) ?_
        refine awp_region (fun Z hZ => ?_)
        refine sx_move rfl rfl ?_
        refine sx_move rfl rfl ?_
        refine sx_move rfl rfl ?_
        refine sx_build tyZ75 tyP75 rfl rfl (by first | (simp only [List.take_succ_cons, List.take_zero, List.drop_succ_cons, List.drop_zero, List.cons_append, List.nil_append, List.append_nil, List.length_cons, List.length_nil, Nat.reduceAdd, Nat.zero_add, Nat.add_zero, Value.cells, wrV, zrep_one, List.replicate_succ, List.replicate_zero, Nat.reduceMul, Nat.zero_mul]; first | done | rfl) | rfl) rfl ?_
        refine sx_buildSlice Try.underlying22 tyS75 tyZ75 rfl rfl rfl rfl (by first | (simp only [List.take_succ_cons, List.take_zero, List.drop_succ_cons, List.drop_zero, List.cons_append, List.nil_append, List.append_nil, List.length_cons, List.length_nil, Nat.reduceAdd, Nat.zero_add, Nat.add_zero, Value.cells, wrV, zrep_one, List.replicate_succ, List.replicate_zero, Nat.reduceMul, Nat.zero_mul]; first | done | rfl) | rfl) rfl (fun g5 => ?_)
        refine sx_callVU (roE Av (scells out) ++ [Ent.ro g5 0 (scells [⟨j, j⟩])]) (runion_fn Av (some ⟨g5, 0, none⟩) cv 1 out [⟨j, j⟩] _ [Ent.ro g5 0 (scells [⟨j, j⟩])] hAv.arg (fun _ => rfl) (Ro.roE _ _) (by omega) (below_sps hv.pl hv.be) (fun _ => ⟨_, _, rfl⟩) (fun _ => rfl) (Ro.roE (some ⟨g5, 0, none⟩) (scells [⟨j, j⟩])) (by simp) (fun t ht => by rw [List.mem_singleton.1 ht]; exact ⟨by show j < _; omega, by show j < _; omega⟩)) rfl (by exact un_view (g := g5) (j := ⟨j, j⟩) (xs := scells out) hlev (List.Sublist.cons _ (List.sublist_append_left _ _))) ((Ro.roE _ _).append (Ro.roE (some ⟨g5, 0, none⟩) (scells [⟨j, j⟩]))) rfl ?_
        rintro v3 H3 ⟨hv3, rfl⟩
        rw [rowE_flt]
        refine sx_assign rfl rfl ?_
        refine sx_nil (hZ _ _ ?_)
        refine nx_forget [(1, _), (5, _), (6, _), (7, _), (8, _), (11, _), (14, _)] (Kn.cons rfl (Kn.cons rfl (Kn.cons rfl (Kn.cons rfl (Kn.cons rfl (Kn.cons rfl (Kn.cons rfl (Kn.nil)))))))) ?_
        repeat (with_reducible (first | refine nx_block_normal ?_ | refine nx_scope_normal ?_))
        with_reducible first | refine nx_normal ?_ | refine nx_normalM ?_
        refine awp_region (fun Z hZ => ?_)
        refine sx_move rfl rfl ?_
        refine sx_add rfl rfl ((m + 1 : Nat) : Int) (by rw [IntWalk.i64_in _ (by omega)]; omega) rfl ?_
        refine sx_assign rfl rfl ?_
        refine sx_nil (hZ _ _ ?_)
        refine nx_forget [(1, _), (5, _), (6, _), (7, _), (8, _), (11, _), (14, _)] (Kn.cons rfl (Kn.cons rfl (Kn.cons rfl (Kn.cons rfl (Kn.cons rfl (Kn.cons rfl (Kn.cons rfl (Kn.nil)))))))) ?_
        refine nx_round (v3, unQ out [⟨j, j⟩], m + 1) ⟨hml, hv.put hjl hv3 (Nat.le_refl _) fun k => ?_⟩ (show K.length - (m + 1) < K.length - m by omega) (Kn.cons rfl (Kn.cons rfl (Kn.cons rfl (Kn.cons rfl (Kn.cons rfl (Kn.cons rfl (Kn.cons rfl Kn.nil))))))) ?_
        · show (_ ∨ ∃ p ∈ K.take (m + 1), _) ↔ (_ ∨ ∃ p ∈ K.take m, _) ∨ j = k
          obtain ⟨hlt2, hpe⟩ := List.getElem?_eq_some_iff.1 hpk
          rw [List.take_succ_eq_append_getElem hlt2, hpe]
          refine Iff.trans (or_congr Iff.rfl ⟨?_, ?_⟩) or_assoc.symm
          · rintro ⟨q, hq, rfl⟩
            rcases List.mem_append.1 hq with hq | hq
            · exact .inl ⟨q, hq, rfl⟩
            · rw [List.mem_singleton.1 hq]
              exact .inr hj.symm
          · rintro (⟨q, hq, rfl⟩ | rfl)
            · exact ⟨q, List.mem_append_left _ hq, rfl⟩
            · exact ⟨p, List.mem_append_right _ (List.mem_singleton.2 rfl), hj⟩
        · show HLe (_ :: (rowE v3 _ 2 _ ++ _)) (rowE v3 _ 2 _ ++ (_ :: _ :: (_ ++ _)))
          refine HLe.trans (b := rowE v3 75 2 (scells (unQ out [⟨j, j⟩])) ++ (.ro g o (scells P) :: rowE (.slice (some ⟨gw, 0, none⟩) K.length cw) 48 3 (tlc zz K))) (fun w0 Wr w hw => hw.perm List.perm_middle) (HLe.sub (List.Sublist.append_left (.cons _ (.cons_cons _ (List.sublist_append_right _ _))) _))
      · refine awp_exit ?_
        repeat (with_reducible (first | refine nx_then_exit ?_ | refine nx_block_other (by decide) ?_ | refine nx_scope_exit ?_))
        with_reducible refine nx_block_exit ?_
        repeat (with_reducible (first | refine nx_block_normal ?_ | refine nx_scope_normal ?_))
        with_reducible first | refine nx_normal ?_ | refine nx_normalM ?_
        have hme : m = K.length := by simp at h17; omega
        subst hme
        rw [List.take_length] at hv
        refine awp_region (fun Z hZ => ?_)
        refine sx_move rfl rfl ?_
        refine sx_add rfl rfl ((id + 1 : Nat) : Int) (by rw [IntWalk.u64_in _ (by omega)]; omega) rfl ?_
        refine sx_assign rfl rfl ?_
        refine sx_nil (hZ _ _ ?_)
        refine nx_forget [(1, _), (5, _), (6, _), (7, _), (8, _)] (Kn.cons rfl (Kn.cons rfl (Kn.cons rfl (Kn.cons rfl (Kn.cons rfl (Kn.nil)))))) ?_
        refine nx_round (.slice Av out.length cv, out, id + 1) ⟨Nat.le_succ_of_le hi1, Nat.succ_le_succ hle, hv.to (by show _ ≤ 4 * (totalQ (P.take i) + (id + 1 - s.a)); omega) fun k => ?_⟩ (show s.b + 1 - (id + 1) < s.b + 1 - id by omega) (Kn.cons rfl (Kn.cons rfl (Kn.cons rfl (Kn.cons rfl (Kn.cons rfl Kn.nil))))) (HLe.sub (List.Sublist.cons_cons _ (List.sublist_append_left _ _)))
        rw [htg.is_ k]
        refine Iff.trans or_assoc (or_congr Iff.rfl ⟨?_, ?_⟩)
        · rintro (⟨j, h1, h2, h3⟩ | h3)
          · exact ⟨j, h1, Nat.lt_succ_of_lt h2, h3⟩
          · exact ⟨id, hi1, Nat.lt_succ_self _, h3⟩
        · rintro ⟨j, h1, h2, h3⟩
          rcases Nat.lt_or_eq_of_le (Nat.le_of_lt_succ h2) with h4 | rfl
          · exact .inl ⟨j, h1, h4, h3⟩
          · exact .inr h3
    · refine awp_exit ?_
      repeat (with_reducible (first | refine nx_then_exit ?_ | refine nx_block_other (by decide) ?_ | refine nx_scope_exit ?_))
      with_reducible refine nx_block_exit ?_
      repeat (with_reducible (first | refine nx_block_normal ?_ | refine nx_scope_normal ?_))
      with_reducible first | refine nx_normal ?_ | refine nx_normalM ?_
      have hie : id = s.b + 1 := by simp at h7; omega
      subst hie
      refine awp_region (fun Z hZ => ?_)
      refine sx_move rfl rfl ?_
      refine sx_add rfl rfl ((i + 1 : Nat) : Int) (by rw [IntWalk.i64_in _ (by omega)]; omega) rfl ?_
      refine sx_assign rfl rfl ?_
      refine sx_nil (hZ _ _ ?_)
      refine nx_forget [(1, _), (5, _), (6, _), (7, _)] (Kn.cons rfl (Kn.cons rfl (Kn.cons rfl (Kn.cons rfl (Kn.nil))))) ?_
      refine nx_round (v, out, i + 1) ⟨hlt, hv.to (by show _ ≤ 4 * totalQ (P.take (i + 1)); omega) fun k => ?_⟩ (show P.length - (i + 1) < P.length - i by omega) (Kn.cons rfl (Kn.cons rfl (Kn.cons rfl (Kn.cons rfl Kn.nil)))) (HLe.refl _)
      constructor
      · rintro (⟨j, h1, h2⟩ | ⟨j, h1, h2, h3⟩)
        · exact ⟨j, (in_succ hs j).2 (.inl h1), h2⟩
        · exact ⟨j, (in_succ hs j).2 (.inr ⟨h1, by omega⟩), h3⟩
      · rintro ⟨j, h1, h2⟩
        rcases (in_succ hs j).1 h1 with h1 | ⟨h1, h3⟩
        · exact .inl ⟨j, h1, h2⟩
        · exact .inr ⟨j, h1, by omega, h2⟩
  · refine awp_exit ?_
    repeat (with_reducible (first | refine nx_then_exit ?_ | refine nx_block_other (by decide) ?_ | refine nx_scope_exit ?_))
    with_reducible refine nx_block_exit ?_
    repeat (with_reducible (first | refine nx_block_normal ?_ | refine nx_scope_normal ?_))
    with_reducible first | refine nx_normal ?_ | refine nx_normalM ?_
    have hie : i = P.length := by simp at h4; omega
    subst hie
    rw [List.take_length] at hv
    obtain rfl : out = M := plain_ext hv.pl hM fun k => (hv.is_ k).trans (hMi k).symm
    refine awp_seq_region (fun Z hZ => ?_)
    refine sx_move rfl rfl ?_
    refine sx_assign rfl rfl ?_
    refine sx_nil (hZ _ _ ?_)
    refine awp_forget [(4, _)] (Kn.cons rfl (Kn.nil)) ?_
    refine awp_ret ?_
    repeat (with_reducible (first | refine nx_then_ret ?_ | refine nx_block_ret ?_ | refine nx_scope_ret ?_))
    exact nx_ret1h _ rfl rfl (HLe.sub (List.sublist_append_right _ _)) ⟨hv.row, rfl⟩
end Go.Proofs.Ytbldhokgbcljjaa
