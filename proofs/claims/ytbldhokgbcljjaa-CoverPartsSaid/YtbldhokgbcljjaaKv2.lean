/- The walks of what puts intervals together: IndexFunc, DeleteFunc, join. Conditions: the lists are not too long. -/
import Derived.Test.YtbldhokgbcljjaaKvCat
import Derived.Test.YtbldhokgbcljjaaKvSort
import Derived.Test.YtbldhokgbcljjaaSxRw
import Derived.Test.YtbldhokgbcljjaaSxC
namespace Go.Proofs.Ytbldhokgbcljjaa
open Go.RowKit
set_option linter.unusedVariables false
set_option linter.unusedSimpArgs false
set_option maxRecDepth 100000
/-- How many stand ahead of the first one that has a property. -/
def firstQ (p : Sp → Bool) : List Sp → Nat
  | [] => 0
  | x :: r => if p x then 0 else firstQ p r + 1
theorem firstQ_le (p : Sp → Bool) : ∀ L, firstQ p L ≤ L.length
  | [] => Nat.le_refl _
  | x :: r => by
    have := firstQ_le p r
    rw [firstQ, List.length_cons]
    split <;> omega
theorem firstQ_at {p : Sp → Bool} {L : List Sp} {i : Nat} {x : Sp} (h : L[i]? = some x) : firstQ p (L.drop i) = if p x then 0 else firstQ p (L.drop (i + 1)) + 1 := by
  rw [fm_split h]
  rfl
theorem firstQ_no {p : Sp → Bool} : ∀ {L : List Sp}, firstQ p L = L.length → L.filter (fun s => !p s) = L
  | [], _ => rfl
  | x :: r, h => by
    rw [firstQ, List.length_cons] at h
    split at h
    · omega
    · rename_i hp
      rw [List.filter_cons_of_pos (by simp [hp]), firstQ_no (by omega)]
theorem firstQ_take {p : Sp → Bool} : ∀ {L : List Sp}, firstQ p L < L.length → (L.take (firstQ p L + 1)).filter (fun s => !p s) = L.take (firstQ p L)
  | [], h => by simp at h
  | x :: r, h => by
    rw [firstQ] at h ⊢
    split
    · rename_i hp
      simp [hp]
    · rename_i hp
      rw [if_neg hp, List.length_cons] at h
      rw [List.take_succ_cons, List.take_succ_cons, List.filter_cons_of_pos (by simp [hp]), firstQ_take (by omega)]
/-- A function of an interval that only reads. -/
def Tells (F : FuncId) (caps : List Value) (U : Heap) (p : Sp → Bool) : Prop := ∀ s : Sp, Fn Try.prog F ([s.val] ++ caps) U fun v _ => v = .bool (p s)
theorem sindex_fn (A : Option Addr) (c : Nat) (L : List Sp) (T U : Heap) (F : FuncId) (caps : List Value) (p : Sp → Bool) (hA : ArgOk A L.length) (hT : 0 < L.length → T = roE A (scells L)) (hro : Ro T) (hU : Ro U) (hF : Tells F caps U p) (hL : L.length ≤ 1000000) :
    Fn Try.prog 95 [.slice A L.length c, .func (.func F) #[] caps.toArray] (T ++ U) fun v _ => v = iq (if firstQ p L < L.length then (firstQ p L : Int) else -1) := by
  have hle := firstQ_le p L
  refine Fn.enter (N := 19) Try.func95 rfl (by kernel_rfl) rfl (fun w0 => ?_)

  refine awp_seq_region (fun Z hZ => ?_)
  refine sx_assign rfl rfl ?_
  refine sx_nil (hZ _ _ ?_)
  refine awp_forget [(0, _), (1, _)] (Kn.cons rfl (Kn.cons rfl (Kn.nil))) ?_
  refine awp_seq ?_
  refine awp_seq_region (fun Z hZ => ?_)
  refine sx_move rfl rfl ?_
  refine sx_len Try.underlying24 rfl rfl ?_
  refine sx_move rfl rfl ?_
  refine sx_nil (hZ _ _ ?_)
  refine awp_forget [(0, _), (1, _), (7, _), (8, _)] (Kn.cons rfl (Kn.cons rfl (Kn.cons rfl (Kn.cons rfl (Kn.nil))))) ?_
  refine awp_block ?_
  refine awp_loop (ι := Nat) (fun i => [(0, .slice A L.length c), (1, .func (.func F) #[] caps.toArray), (7, iq (L.length : Nat)), (8, iq (i : Nat))]) (fun _ => T ++ U) (fun i => i ≤ L.length ∧ firstQ p L = i + firstQ p (L.drop i)) (fun i => L.length - i) 0 (by simp) (Kn.cons rfl (Kn.cons rfl (Kn.cons rfl (Kn.cons rfl Kn.nil)))) (HLe.refl _) ?_
  rintro i ⟨hi, hq⟩
  refine awp_seq_region (fun Z hZ => ?_)
  refine sx_lss rfl rfl rfl ?_
  refine sx_nil (hZ _ _ ?_)
  refine awp_forget [(0, _), (1, _), (7, _), (8, _), (9, _)] (Kn.cons rfl (Kn.cons rfl (Kn.cons rfl (Kn.cons rfl (Kn.cons rfl (Kn.nil)))))) ?_
  refine awp_seq (awp_cond rfl (fun h => ?_) (fun h => ?_))
  · have hlt : i < L.length := by simpa using h
    obtain ⟨x, hx⟩ : ∃ x, L[i]? = some x := ⟨_, List.getElem?_eq_getElem hlt⟩
    have hat := firstQ_at (p := p) hx
    obtain ⟨g, o, rfl⟩ := hA (by omega)
    obtain rfl := hT (by omega)
    refine awp_heap (.ro g o (scells L) :: U) (HLe.refl _) ?_
    refine awp_skip ?_
    with_reducible refine nx_normal ?_
    refine awp_seq (awp_block ?_)

    refine awp_seq_region (fun Z hZ => ?_)
    refine sx_move rfl rfl ?_
    refine sx_assign rfl rfl ?_
    refine sx_nil (hZ _ _ ?_)
    refine awp_forget [(0, _), (1, _), (5, _), (7, _), (8, _)] (Kn.cons rfl (Kn.cons rfl (Kn.cons rfl (Kn.cons rfl (Kn.cons rfl (Kn.nil)))))) ?_
    refine awp_seq_region (fun Z hZ => ?_)
    refine sx_move rfl rfl ?_
    refine sx_move rfl rfl ?_
    refine sx_move rfl rfl ?_
    refine sx_indexAddr (o + i * 2) Try.underlying24 tyS43 rfl rfl (by omega) (by simp) rfl ?_
    refine sx_loadRo 0 rfl rfl (i * 2) rfl tyA43 tyS43 (scells_all hx) rfl ?_
    refine sx_callFV (vs := [x.val]) U (hF x) rfl rfl (HLe.sub (List.sublist_cons_self _ _)) hU rfl ?_
    refine sx_nil (hZ _ _ ?_)
    refine awp_forget [(0, _), (1, _), (5, _), (7, _), (8, _), (16, _)] (Kn.cons rfl (Kn.cons rfl (Kn.cons rfl (Kn.cons rfl (Kn.cons rfl (Kn.cons rfl (Kn.nil))))))) ?_
    refine awp_cond rfl (fun h2 => ?_) (fun h2 => ?_)
    · rw [hat, if_pos h2] at hq
      have e : firstQ p L = i := by omega
      rw [e, if_pos hlt]
      refine awp_seq_region (fun Z hZ => ?_)
      refine sx_move rfl rfl ?_
      refine sx_assign rfl rfl ?_
      refine sx_nil (hZ _ _ ?_)
      refine awp_forget [(4, _)] (Kn.cons rfl (Kn.nil)) ?_
      refine awp_ret ?_
      repeat (with_reducible (first | refine nx_then_ret ?_ | refine nx_block_ret ?_))
      exact nx_ret1 rfl rfl rfl
    · rw [hat, if_neg (by rw [h2]; simp)] at hq
      refine awp_skip ?_
      repeat (with_reducible refine nx_block_normal ?_)
      with_reducible refine nx_normal ?_
      refine awp_region (fun Z hZ => ?_)
      refine sx_add rfl rfl ((i + 1 : Nat) : Int) (by rw [IntWalk.i64_in _ (by omega)]; omega) rfl ?_
      refine sx_move rfl rfl ?_
      refine sx_nil (hZ _ _ ?_)
      refine nx_forget [(0, _), (1, _), (7, _), (8, _)] (Kn.cons rfl (Kn.cons rfl (Kn.cons rfl (Kn.cons rfl (Kn.nil))))) ?_
      exact nx_round (i + 1) ⟨hlt, by omega⟩ (by omega) (Kn.cons rfl (Kn.cons rfl (Kn.cons rfl (Kn.cons rfl Kn.nil)))) (HLe.refl _)
  · refine awp_exit ?_
    repeat (with_reducible refine nx_then_exit ?_)
    with_reducible refine nx_block_exit ?_
    with_reducible refine nx_normal ?_
    have hke : i = L.length := by simp at h; omega
    subst hke
    rw [List.drop_length, firstQ, Nat.add_zero] at hq
    rw [if_neg (by omega)]
    refine awp_seq_region (fun Z hZ => ?_)
    refine sx_assign rfl rfl ?_
    refine sx_nil (hZ _ _ ?_)
    refine awp_forget [(4, _)] (Kn.cons rfl (Kn.nil)) ?_
    refine awp_ret ?_
    exact nx_ret1 rfl rfl rfl
theorem scells_setA {L : List Sp} {k : Nat} (h : k < L.length) (x : Sp) : wrV (scells L) (k * 2) x.cells = scells (L.set k x) := by
  have e1 : (scells L).take (k * 2) = scells (L.take k) := by
    have h1 : scells L = scells (L.take k) ++ scells (L.drop k) := by rw [← scells_app, List.take_append_drop]
    rw [h1, List.take_left' (by rw [scells_len, List.length_take]; omega)]
  have e2 : (scells L).drop (k * 2 + x.cells.length) = scells (L.drop (k + 1)) := by
    rw [← scells_drop]
    congr 1
    show k * 2 + 2 = (k + 1) * 2
    omega
  unfold wrV
  rw [e1, e2, List.set_eq_take_append_cons_drop, if_pos h, scells_app, List.append_assoc]
  rfl
theorem scells_tk (L : List Sp) (k : Nat) : (scells L).take (k * 2) = scells (L.take k) := by
  rcases Nat.lt_or_ge k L.length with h | h
  · have h1 : scells L = scells (L.take k) ++ scells (L.drop k) := by rw [← scells_app, List.take_append_drop]
    rw [h1, List.take_left' (by rw [scells_len, List.length_take]; omega)]
  · rw [List.take_of_length_le h, List.take_of_length_le (by rw [scells_len]; omega)]
theorem row_cutE {g n c m : Nat} {e : TypeId} {xs : List Value} (hm : m ≤ n) (H : Heap) : HLe (.ob g (RowP e 2 m c (xs.take (m * 2))) :: H) (.ob g (RowP e 2 n c xs) :: H) := fun w0 Wr w h => by
  refine ⟨h.only, fun x hx => ?_, ?_⟩
  · rcases List.mem_cons.1 hx with rfl | hx
    · obtain ⟨⟨ob, hg, cur, rfl, h2, h3, h4, h5, h6⟩, hk⟩ := h.ents _ List.mem_cons_self
      refine ⟨⟨_, hg, cur, rfl, Nat.le_trans hm h2, h3, h4, ?_, ?_⟩, hk⟩
      · rw [← h5, List.take_take, Nat.min_eq_left (by omega)]
      · rw [List.length_take, h6]; omega
    · exact h.ents x (List.mem_cons_of_mem _ hx)
  · have := h.sep
    refine List.Pairwise.cons (fun x hx hw => (List.pairwise_cons.1 this).1 x hx hw) (List.pairwise_cons.1 this).2
theorem sdel_fn (u : Value) (L : List Sp) (F : FuncId) (p : Sp → Bool) (hu : RowOk u L.length) (hF : Tells F [] [] p) (hL : L.length ≤ 1000000) :
    Fn Try.prog 75 [u, .func (.func F) #[] #[]] (rowE u 43 2 (scells L)) fun v H' => RowOk v (L.filter fun s => !p s).length ∧ H' = rowE v 43 2 (scells (L.filter fun s => !p s)) := by
  obtain ⟨A, c, rfl, hA, hle0⟩ := hu.ro
  have hidx := sindex_fn A c L (roE A (scells L)) [] F [] p hA.arg (fun _ => rfl) (Ro.roE _ _) Ro.nil hF hL
  rw [List.append_nil] at hidx
  have hle := firstQ_le p L
  refine Fn.enter (N := 42) Try.func75 rfl (by kernel_rfl) rfl (fun w0 => ?_)

  refine awp_seq_region (fun Z hZ => ?_)
  refine sx_assign rfl rfl ?_
  refine sx_nil (hZ _ _ ?_)
  refine awp_forget [(0, _), (1, _)] (Kn.cons rfl (Kn.cons rfl (Kn.nil))) ?_
  refine awp_seq_region (fun Z hZ => ?_)
  refine sx_move rfl rfl ?_
  refine sx_move rfl rfl ?_
  refine sx_callV (roE A (scells L)) hidx rfl (row_view hle0 [] _ _ _) (Ro.roE _ _) rfl ?_
  refine sx_assign rfl rfl ?_
  refine sx_nil (hZ _ _ ?_)
  refine awp_forget [(0, _), (1, _), (5, _)] (Kn.cons rfl (Kn.cons rfl (Kn.cons rfl (Kn.nil)))) ?_
  refine awp_seq ?_
  refine awp_seq_region (fun Z hZ => ?_)
  refine sx_move rfl rfl ?_
  refine sx_eql rfl rfl rfl ?_
  refine sx_nil (hZ _ _ ?_)
  refine awp_forget [(0, _), (1, _), (5, _), (12, _)] (Kn.cons rfl (Kn.cons rfl (Kn.cons rfl (Kn.cons rfl (Kn.nil))))) ?_
  refine awp_cond rfl (fun h => ?_) (fun h => ?_)
  · have hno : firstQ p L = L.length := by
      have h' := h
      simp at h'
      omega
    rw [firstQ_no hno]
    refine awp_seq_region (fun Z hZ => ?_)
    refine sx_move rfl rfl ?_
    refine sx_assign rfl rfl ?_
    refine sx_nil (hZ _ _ ?_)
    refine awp_forget [(4, _)] (Kn.cons rfl (Kn.nil)) ?_
    refine awp_ret ?_
    repeat (with_reducible refine nx_then_ret ?_)
    exact nx_ret1h _ rfl rfl (HLe.refl _) ⟨hu, rfl⟩
  have hlt : firstQ p L < L.length := by
    have h' := h
    simp at h'
    exact h'
  have hft := firstQ_take (p := p) hlt
  rw [if_pos hlt]
  obtain ⟨f, hf⟩ : ∃ f, firstQ p L = f := ⟨_, rfl⟩
  rw [hf] at hlt hft ⊢
  obtain ⟨g, c', hgc⟩ := hu.some (by omega)
  injection hgc with hg1 _ hg2
  subst hg1; subst hg2
  refine awp_heap [.ob g (RowP 43 2 L.length c (scells L))] (HLe.refl _) ?_
  refine awp_pure (fun w hw => Go.Proofs.Ytbldhokgbcljjaa.row_cap hu (fun x hx => hx) hw) fun hcap => ?_
  refine awp_skip ?_
  with_reducible refine nx_normal ?_
  refine awp_seq ?_
  refine awp_seq_region (fun Z hZ => ?_)
  refine sx_move rfl rfl ?_
  refine sx_add rfl rfl ((f + 1 : Nat) : Int) (by rw [IntWalk.i64_in _ (by omega)]; omega) rfl ?_
  refine sx_assign rfl rfl ?_
  refine sx_nil (hZ _ _ ?_)
  refine awp_forget [(0, _), (1, _), (5, _), (6, _)] (Kn.cons rfl (Kn.cons rfl (Kn.cons rfl (Kn.cons rfl (Kn.nil))))) ?_
  refine awp_block ?_
  refine awp_loop (ι := Nat × List Sp) (fun j => [(0, .slice (some ⟨g, 0, none⟩) L.length c), (1, .func (.func F) #[] #[]), (5, iq (((L.take j.1).filter fun s => !p s).length : Nat)), (6, iq (j.1 : Nat))])
    (fun j => [.ob g (RowP 43 2 L.length c (scells j.2))]) (fun j => j.1 ≤ L.length ∧ j.2.length = L.length ∧ j.2.take ((L.take j.1).filter fun s => !p s).length = (L.take j.1).filter (fun s => !p s) ∧ j.2.drop j.1 = L.drop j.1 ∧ ((L.take j.1).filter fun s => !p s).length < j.1) (fun j => L.length - j.1) (f + 1, L)
    ⟨hlt, rfl, by rw [hft, List.length_take, Nat.min_eq_left (by omega)], rfl, by rw [hft, List.length_take]; show min f L.length < f + 1; omega⟩ (Kn.cons rfl (Kn.cons rfl (Kn.cons (by rw [hft, List.length_take, Nat.min_eq_left (by omega)]; rfl) (Kn.cons rfl Kn.nil)))) (HLe.refl _) ?_
  rintro ⟨j, M⟩ ⟨hj, hM, hM1, hM2, hM3⟩
  simp only at hj hM hM1 hM2 hM3
  refine awp_seq ?_
  refine awp_seq_region (fun Z hZ => ?_)
  refine sx_move rfl rfl ?_
  refine sx_move rfl rfl ?_
  refine sx_len Try.underlying24 rfl rfl ?_
  refine sx_lss rfl rfl rfl ?_
  refine sx_nil (hZ _ _ ?_)
  refine awp_forget [(0, _), (1, _), (5, _), (6, _), (19, _)] (Kn.cons rfl (Kn.cons rfl (Kn.cons rfl (Kn.cons rfl (Kn.cons rfl (Kn.nil)))))) ?_
  refine awp_cond rfl (fun h5 => ?_) (fun h5 => ?_)
  · have hjl : j < L.length := by simpa using h5
    obtain ⟨x, hx⟩ : ∃ x, L[j]? = some x := ⟨_, List.getElem?_eq_getElem hjl⟩
    have hxM : M[j]? = some x := by
      have h1 := congrArg (fun l : List Sp => l[0]?) hM2
      simpa [hx] using h1
    have htk : (L.take (j + 1)).filter (fun s => !p s) = (L.take j).filter (fun s => !p s) ++ if p x then [] else [x] := by
      rw [List.take_add_one, hx, List.filter_append]
      by_cases hp : p x = true
      · simp [hp]
      · simp [hp]
    obtain ⟨i, hi⟩ : ∃ i, ((L.take j).filter fun s => !p s).length = i := ⟨_, rfl⟩
    rw [hi] at hM1 hM3 ⊢
    have hd2 : ∀ y : List Sp, y.drop j = L.drop j → y.drop (j + 1) = L.drop (j + 1) := fun y hy => by
      have := congrArg (List.drop 1) hy
      simpa [List.drop_drop] using this
    refine awp_skip ?_
    with_reducible refine nx_normal ?_
    refine awp_seq (awp_block ?_)

    refine awp_seq_region (fun Z hZ => ?_)
    refine sx_move rfl rfl ?_
    refine sx_move rfl rfl ?_
    refine sx_indexAddr (0 + j * 2) Try.underlying24 tyS43 rfl rfl (by omega) (by simp) rfl ?_
    refine sx_loadRd (j * 2) rfl (by omega) (fun w hw => rd_row (i := 0) rfl hw) (by omega) tyA43 tyS43 (scells_all hxM) rfl ?_
    refine sx_alloc tyZ43 rfl (fun g1 => ?_)
    refine sx_store 0 rfl rfl rfl tyS43 (by first | (simp only [Value.cells]; first | done | rfl) | rfl) rfl rfl (by first | (simp only [List.length_cons, List.length_nil, Nat.reduceAdd, Nat.zero_add, Nat.add_zero]; first | done | rfl) | rfl) (by first | (simp only [List.take_succ_cons, List.take_zero, List.drop_succ_cons, List.drop_zero, List.cons_append, List.nil_append, List.append_nil, List.length_cons, List.length_nil, Nat.reduceAdd, Nat.zero_add, Nat.add_zero, Value.cells, wrV]; first | done | rfl) | rfl) (by first | (simp only [List.set_cons_succ, List.set_cons_zero]; first | done | rfl) | rfl) ?_
    refine sx_nil (hZ _ _ ?_)
    refine awp_forget [(0, _), (1, _), (5, _), (6, _), (7, _)] (Kn.cons rfl (Kn.cons rfl (Kn.cons rfl (Kn.cons rfl (Kn.cons rfl (Kn.nil)))))) ?_

    refine awp_seq_region (fun Z hZ => ?_)
    refine sx_move rfl rfl ?_
    refine sx_loadA 0 rfl rfl tyA43 tyS43 (by first | (simp only [List.length_cons, List.length_nil, Nat.reduceAdd, Nat.zero_add, Nat.add_zero]; first | done | rfl) | rfl) (by first | (simp only [List.take_succ_cons, List.take_zero, List.drop_succ_cons, List.drop_zero, List.cons_append, List.nil_append, List.append_nil, List.length_cons, List.length_nil, Nat.reduceAdd, Nat.zero_add, Nat.add_zero, Value.cells, wrV]; first | done | rfl) | rfl) rfl ?_
    refine sx_callFV (caps := []) (vs := [x.val]) [] (hF x) rfl rfl (HLe.sub (List.nil_sublist _)) Ro.nil rfl ?_
    refine sx_not rfl rfl ?_
    refine sx_nil (hZ _ _ ?_)
    refine awp_forget [(0, _), (1, _), (5, _), (6, _), (7, _), (29, _)] (Kn.cons rfl (Kn.cons rfl (Kn.cons rfl (Kn.cons rfl (Kn.cons rfl (Kn.cons rfl (Kn.nil))))))) ?_
    refine awp_cond rfl (fun h8 => ?_) (fun h8 => ?_)
    · have hp : ¬ p x = true := by simpa using h8
      rw [if_neg hp] at htk
      have hset : M.set i x = M.set i x := rfl
      refine awp_seq_region (fun Z hZ => ?_)
      refine sx_move rfl rfl ?_
      refine sx_move rfl rfl ?_
      refine sx_loadA 0 rfl rfl tyA43 tyS43 (by first | (simp only [List.length_cons, List.length_nil, Nat.reduceAdd, Nat.zero_add, Nat.add_zero]; first | done | rfl) | rfl) (by first | (simp only [List.take_succ_cons, List.take_zero, List.drop_succ_cons, List.drop_zero, List.cons_append, List.nil_append, List.append_nil, List.length_cons, List.length_nil, Nat.reduceAdd, Nat.zero_add, Nat.add_zero, Value.cells, wrV]; first | done | rfl) | rfl) rfl ?_
      refine sx_indexAddr (0 + i * 2) Try.underlying24 tyS43 rfl rfl (by omega) (by simp) rfl ?_
      refine sx_storeRwA (o := 0 + i * 2) (ys := scells (M.set i x)) 1 rfl rfl rfl tyS43 rfl rfl rfl (by omega) (by rw [Nat.zero_add]; exact scells_setA (by omega) x) rfl ?_
      refine sx_nil (hZ _ _ ?_)
      refine awp_forget [(0, _), (1, _), (5, _), (6, _)] (Kn.cons rfl (Kn.cons rfl (Kn.cons rfl (Kn.cons rfl (Kn.nil))))) ?_
      refine awp_region (fun Z hZ => ?_)
      refine sx_move rfl rfl ?_
      refine sx_add rfl rfl ((i + 1 : Nat) : Int) (by rw [IntWalk.i64_in _ (by omega)]; omega) rfl ?_
      refine sx_assign rfl rfl ?_
      refine sx_nil (hZ _ _ ?_)
      refine nx_forget [(0, _), (1, _), (5, _), (6, _)] (Kn.cons rfl (Kn.cons rfl (Kn.cons rfl (Kn.cons rfl (Kn.nil))))) ?_
      repeat (with_reducible refine nx_block_normal ?_)
      with_reducible refine nx_normal ?_
      refine awp_region (fun Z hZ => ?_)
      refine sx_move rfl rfl ?_
      refine sx_add rfl rfl ((j + 1 : Nat) : Int) (by rw [IntWalk.i64_in _ (by omega)]; omega) rfl ?_
      refine sx_assign rfl rfl ?_
      refine sx_nil (hZ _ _ ?_)
      refine nx_forget [(0, _), (1, _), (5, _), (6, _)] (Kn.cons rfl (Kn.cons rfl (Kn.cons rfl (Kn.cons rfl (Kn.nil))))) ?_
      have hli : ((L.take (j + 1)).filter fun s => !p s).length = i + 1 := by rw [htk, List.length_append, hi]; rfl
      refine nx_round (j + 1, M.set i x) ⟨hjl, by rw [List.length_set]; exact hM, ?_, ?_, by show _ < j + 1; rw [hli]; omega⟩ (by show L.length - (j + 1) < L.length - j; omega) (Kn.cons rfl (Kn.cons rfl (Kn.cons (by rw [hli]; rfl) (Kn.cons rfl Kn.nil)))) (HLe.drop 1 rfl)
      · show (M.set i x).take ((L.take (j + 1)).filter fun s => !p s).length = _
        rw [hli, htk, ← hM1, List.take_add_one, List.getElem?_set_self (by omega), List.take_set_of_le (Nat.le_refl _)]
        rfl
      · show (M.set i x).drop (j + 1) = _
        rw [List.drop_set_of_lt (by omega)]
        exact hd2 M hM2
    · have hp : p x = true := by simpa using h8
      rw [if_pos hp, List.append_nil] at htk
      refine awp_skip ?_
      repeat (with_reducible refine nx_block_normal ?_)
      with_reducible refine nx_normal ?_
      refine awp_region (fun Z hZ => ?_)
      refine sx_move rfl rfl ?_
      refine sx_add rfl rfl ((j + 1 : Nat) : Int) (by rw [IntWalk.i64_in _ (by omega)]; omega) rfl ?_
      refine sx_assign rfl rfl ?_
      refine sx_nil (hZ _ _ ?_)
      refine nx_forget [(0, _), (1, _), (5, _), (6, _)] (Kn.cons rfl (Kn.cons rfl (Kn.cons rfl (Kn.cons rfl (Kn.nil))))) ?_
      refine nx_round (j + 1, M) ⟨hjl, hM, by rw [htk, hi]; exact hM1, hd2 M hM2, by rw [htk, hi]; show i < j + 1; omega⟩ (by show L.length - (j + 1) < L.length - j; omega) (Kn.cons rfl (Kn.cons rfl (Kn.cons (by rw [htk, hi]; rfl) (Kn.cons rfl Kn.nil)))) (HLe.drop 1 rfl)
  · refine awp_exit ?_
    repeat (with_reducible refine nx_then_exit ?_)
    with_reducible refine nx_block_exit ?_
    with_reducible refine nx_normal ?_
    have hke : j = L.length := by simp at h5; omega
    subst hke
    rw [List.take_length] at hM1 hM3
    rw [List.take_length]
    obtain ⟨i, hi⟩ : ∃ i, (L.filter fun s => !p s).length = i := ⟨_, rfl⟩
    rw [hi] at hM1 hM3 ⊢

    refine awp_seq_region (fun Z hZ => ?_)
    refine sx_move rfl rfl ?_
    refine sx_move rfl rfl ?_
    refine sx_slice (i := (i : Nat)) (j := (L.length : Nat)) Try.underlying24 tyS43 rfl rfl rfl (by omega) (by omega) (by omega) rfl (fun o' ho' => ?_)
    refine sx_clear 0 (size := 2) (k := i) (m := L.length - i) (c := c) (xs := scells M) Try.underlying24 rfl tyZ43 rfl rfl rfl (fun hm => by rw [ho' (by omega)]; simp) rfl (by omega) rfl ?_
    refine sx_nil (hZ _ _ ?_)
    refine awp_forget [(0, _), (5, _)] (Kn.cons rfl (Kn.cons rfl (Kn.nil))) ?_
    refine awp_seq_region (fun Z hZ => ?_)
    refine sx_move rfl rfl ?_
    refine sx_move rfl rfl ?_
    refine sx_slice0 (j := i) Try.underlying24 tyS43 rfl rfl rfl (by omega) rfl ?_
    refine sx_assign rfl rfl ?_
    refine sx_nil (hZ _ _ ?_)
    refine awp_forget [(4, _)] (Kn.cons rfl (Kn.nil)) ?_
    refine awp_ret ?_
    refine nx_ret1h [.ob g (RowP 43 2 i c (scells (L.filter fun s => !p s)))] rfl rfl ?_ ⟨.inr ⟨g, c, rfl⟩, rfl⟩
    have hcut := row_cutE (g := g) (n := L.length) (c := c) (m := i) (e := 43) (xs := (scells M).take (i * 2) ++ (List.replicate (L.length - i) [uq 0, uq 0]).flatten) (by omega) []
    rw [scells_tk, hM1, List.take_left' (by rw [scells_len, hi])] at hcut
    have e : (scells M).take (i * 2) = scells (L.filter fun s => !p s) := by rw [scells_tk, hM1]
    show HLe _ [Ent.ob g (RowP 43 2 L.length c ((scells M).take (i * 2) ++ (List.replicate (L.length - i) [uq 0, uq 0]).flatten))]
    rw [e]
    exact hcut
end Go.Proofs.Ytbldhokgbcljjaa
