/- The walks of what tells whether entries are as few as may be, both. Conditions: none but of lengths. -/
import Derived.Test.YtffahimbmpddpaaMg5
namespace Go.Proofs.Ytffahimbmpddpaa.V
open Go.RowKit
set_option linter.unusedVariables false
set_option linter.unusedSimpArgs false
set_option maxRecDepth 100000
theorem ecells_run {L : List En} {i : Nat} {x : En} (h : L[i]? = some x) : rdV false 1 (ecells L) (i * 4 + 3) = some (wq4 x.run) := fm_rd1 (j := 3) en_len h rfl
def leastB (p : Option En) (e : En) : Bool := decide (e.run = 0) || (match p with | some a => oneQ a e | none => false)
def leastR : Option En → List En → Bool
  | _, [] => true
  | p, e :: r => if leastB p e then false else leastR (some e) r
def leastQ (L : List En) : Bool := if rowC L = 0 then leastR none L else false
def prvE (L : List En) (i : Nat) : Option En := if i = 0 then none else L[i - 1]?
theorem least_fn (A : Option Addr) (c : Nat) (L : List En) (T : Heap) (hA : ArgOk A L.length) (hT : 0 < L.length → T = roE A (ecells L)) (hro : Ro T) (hL : L.length ≤ maxLen) (hE : EnsOk L) :
    Fn Try.prog 14 [.slice A L.length c] T fun v _ => v = .bool (leastQ L) := by
  refine Fn.enter (N := 36) Try.func14 rfl (by kernel_rfl) rfl (fun w0 => ?_)

  refine awp_seq_region (fun Z hZ => ?_)
  refine sx_assign rfl rfl ?_
  refine sx_nil (hZ _ _ ?_)
  refine awp_forget [(0, _)] (Kn.cons rfl (Kn.nil)) ?_
  refine awp_seq ?_
  refine awp_seq_region (fun Z hZ => ?_)
  refine sx_move rfl rfl ?_
  refine sx_callPT T (erow_fn A c L T hA hT hro hL hE) rfl (List.Sublist.refl _) hro rfl ?_
  refine sx_neq rfl rfl rfl ?_
  refine sx_nil (hZ _ _ ?_)
  refine awp_forget [(0, _), (8, _)] (Kn.cons rfl (Kn.cons rfl (Kn.nil))) ?_
  refine awp_cond rfl (fun h => ?_) (fun h => ?_)
  · have h' : ¬ rowC L = 0 := by simp at h; omega
    rw [show leastQ L = false by unfold leastQ; rw [if_neg h']]
    refine awp_seq_region (fun Z hZ => ?_)
    refine sx_assign rfl rfl ?_
    refine sx_nil (hZ _ _ ?_)
    refine awp_forget [(2, _)] (Kn.cons rfl (Kn.nil)) ?_
    refine awp_ret ?_
    repeat (with_reducible refine nx_then_ret ?_)
    exact nx_ret1 rfl rfl rfl
  have h' : rowC L = 0 := by simp at h; omega
  rw [show leastQ L = leastR none L by unfold leastQ; rw [if_pos h']]
  have hq : L.length ≤ 4096 := by
    unfold rowC at h'
    split at h'
    · cases h'
    · omega
  refine awp_skip ?_
  with_reducible refine nx_normal ?_
  refine awp_seq_region (fun Z hZ => ?_)
  refine sx_assign rfl rfl ?_
  refine sx_nil (hZ _ _ ?_)
  refine awp_forget [(0, _), (3, _)] (Kn.cons rfl (Kn.cons rfl (Kn.nil))) ?_
  refine awp_seq ?_
  refine awp_seq_region (fun Z hZ => ?_)
  refine sx_move rfl rfl ?_
  refine sx_len Try.underlying24 rfl rfl ?_
  refine sx_move rfl rfl ?_
  refine sx_nil (hZ _ _ ?_)
  refine awp_forget [(0, _), (3, _), (9, _), (10, _), (11, _)] (Kn.cons rfl (Kn.cons rfl (Kn.cons rfl (Kn.cons rfl (Kn.cons rfl (Kn.nil)))))) ?_
  refine awp_block ?_
  refine awp_loop (ι := Nat) (fun i => [(0, .slice A L.length c), (3, .func (.func 35) #[] #[]), (9, .slice A L.length c), (10, iq (L.length : Nat)), (11, iq (i : Nat))]) (fun _ => T)
    (fun i => i ≤ L.length ∧ leastR (prvE L i) (L.drop i) = leastR none L) (fun i => L.length - i) 0 ⟨by simp, rfl⟩ (Kn.cons rfl (Kn.cons rfl (Kn.cons rfl (Kn.cons rfl (Kn.cons rfl Kn.nil))))) (HLe.refl _) ?_
  rintro i ⟨hi, hqq⟩

  refine awp_seq_region (fun Z hZ => ?_)
  refine sx_lss rfl rfl rfl ?_
  refine sx_nil (hZ _ _ ?_)
  refine awp_forget [(0, _), (3, _), (9, _), (10, _), (11, _), (12, _)] (Kn.cons rfl (Kn.cons rfl (Kn.cons rfl (Kn.cons rfl (Kn.cons rfl (Kn.cons rfl (Kn.nil))))))) ?_
  refine awp_seq (awp_cond rfl (fun h1 => ?_) (fun h1 => ?_))
  · have hlt : i < L.length := by simpa using h1
    obtain ⟨x, hx⟩ : ∃ x, L[i]? = some x := ⟨_, List.getElem?_eq_getElem hlt⟩
    have hxo := hE x (List.mem_of_getElem? hx)
    obtain ⟨y, hyo, hy⟩ : ∃ y : En, y.ok ∧ (0 < i → L[i - 1]? = some y) := by
      rcases Nat.eq_zero_or_pos i with h0 | h0
      · exact ⟨x, hxo, fun h => absurd h (by omega)⟩
      · exact ⟨L[i - 1], hE _ (List.getElem_mem _), fun _ => List.getElem?_eq_getElem _⟩
    have hpv : prvE L i = if i = 0 then none else some y := by
      unfold prvE
      split
      · rfl
      · exact hy (by omega)
    have hdr : L.drop i = x :: L.drop (i + 1) := by rw [List.drop_eq_getElem_cons hlt]; congr 1; exact (List.getElem?_eq_some_iff.1 hx).2
    rw [hdr, leastR] at hqq
    have hlb : leastB (prvE L i) x = (decide (x.run = 0) || (decide (0 < i) && oneQ y x)) := by
      rw [hpv]
      unfold leastB
      rcases Nat.eq_zero_or_pos i with h0 | h0
      · simp [h0]
      · rw [if_neg (by omega)]; simp [h0]
    rw [hlb] at hqq
    obtain ⟨g, o, rfl⟩ := hA (by omega)
    obtain rfl := hT (by omega)
    refine awp_heap [.ro g o (ecells L)] (HLe.refl _) ?_
    refine awp_skip ?_
    with_reducible refine nx_normal ?_
    refine awp_seq (awp_block ?_)

    refine awp_seq_region (fun Z hZ => ?_)
    refine sx_move rfl rfl ?_
    refine sx_indexAddr (o + i * 4) Try.underlying24 tyS63 rfl rfl (by omega) (by simp) rfl ?_
    refine sx_loadRo 0 rfl rfl (i * 4) rfl tyA63 tyS63 (ecells_all hx) rfl ?_
    refine sx_alloc tyZ63 rfl (fun g1 => ?_)
    refine sx_assign rfl rfl ?_
    refine sx_store 0 rfl rfl rfl tyS63 (by first | (simp only [Value.cells]; first | done | rfl) | rfl) rfl rfl (by first | (simp only [List.length_cons, List.length_nil, Nat.reduceAdd, Nat.zero_add, Nat.add_zero]; first | done | rfl) | rfl) (by first | (simp only [List.take_succ_cons, List.take_zero, List.drop_succ_cons, List.drop_zero, List.cons_append, List.nil_append, List.append_nil, List.length_cons, List.length_nil, Nat.reduceAdd, Nat.zero_add, Nat.add_zero, Value.cells, wrV]; first | done | rfl) | rfl) (by first | (simp only [List.set_cons_succ, List.set_cons_zero]; first | done | rfl) | rfl) ?_
    refine sx_nil (hZ _ _ ?_)
    refine awp_forget [(0, _), (3, _), (4, _), (5, _), (9, _), (10, _), (11, _)] (Kn.cons rfl (Kn.cons rfl (Kn.cons rfl (Kn.cons rfl (Kn.cons rfl (Kn.cons rfl (Kn.cons rfl (Kn.nil)))))))) ?_

    refine awq_seq_meet [(0, .slice (some ⟨g, o, none⟩) L.length c), (3, .func (.func 35) #[] #[]), (9, .slice (some ⟨g, o, none⟩) L.length c), (10, iq (L.length : Nat)), (11, iq (i : Nat)), (34, .bool (decide (x.run = 0) || (decide (0 < i) && oneQ y x)))] [.ro g o (ecells L)] mixed (by kernel_rfl) (fun Z hZ => ?_) ?_
    · refine sq_fieldAddr rfl tyF63_3 (by first | (simp only [Nat.reduceAdd, Nat.add_zero, Nat.zero_add]; first | done | rfl) | rfl) rfl ?_
      refine sq_load 0 rfl rfl tyA61 tyS61 rfl rfl ?_
      refine sq_eql rfl rfl rfl ?_
      refine sq_move rfl rfl ?_
      refine sq_split 19 rfl (fun hb3 => ?_) (fun hb3 => ?_)
      · refine sq_off rfl rfl rfl rfl rfl ?_
        refine sq_off rfl rfl rfl rfl rfl ?_
        refine sq_off rfl rfl rfl rfl rfl ?_
        refine sq_offU rfl rfl rfl rfl ?_
        refine sq_offU rfl rfl rfl rfl ?_
        refine sq_offU rfl rfl rfl rfl ?_
        refine sq_offU rfl rfl rfl rfl ?_
        refine sq_offU rfl rfl rfl rfl ?_
        refine sq_offU rfl rfl rfl rfl ?_
        refine sq_offU rfl rfl rfl rfl ?_
        refine sq_offU rfl rfl rfl rfl ?_
        refine sq_offU rfl rfl rfl rfl ?_
        refine sq_offU rfl rfl rfl rfl ?_
        refine sq_off rfl rfl rfl rfl rfl ?_
        refine sq_pick rfl rfl rfl ?_
        refine sq_nil (hZ _ _ ?_ ?_)
        · exact Kn.cons rfl (Kn.cons rfl (Kn.cons rfl (Kn.cons rfl (Kn.cons rfl (Kn.cons (congrArg some (congrArg Value.bool (by simp at *; first | omega | (rw [Bool.eq_iff_iff]; simp; omega) | simp_all))) Kn.nil)))))
        · exact HLe.drop 1 rfl
      · refine sq_on rfl rfl rfl ?_
        refine sq_move rfl rfl ?_
        refine sq_on rfl rfl rfl ?_
        refine sq_gtr rfl rfl rfl ?_
        refine sq_on rfl rfl rfl ?_
        refine sq_move rfl rfl ?_
        refine sq_split 22 rfl (fun hb6 => ?_) (fun hb6 => ?_)
        · refine sq_on rfl rfl rfl ?_
          refine sq_move rfl rfl ?_
          refine sq_on rfl rfl rfl ?_
          refine sq_move rfl rfl ?_
          refine sq_on rfl rfl rfl ?_
          refine sq_move rfl rfl ?_
          refine sq_on rfl rfl rfl ?_
          refine sq_sub rfl rfl ((i - 1 : Nat) : Int) (by simp at hb6; rw [IntWalk.i64_in _ (by omega)]; omega) rfl ?_
          refine sq_on rfl rfl rfl ?_
          refine sq_indexAddr (o + (i - 1) * 4) Try.underlying24 tyS63 rfl rfl (by omega) (by simp) rfl ?_
          refine sq_on rfl rfl rfl ?_
          refine sq_loadRo 1 rfl rfl ((i - 1) * 4) rfl tyA63 tyS63 (ecells_all (hy (by simp at hb6; omega))) rfl ?_
          refine sq_on rfl rfl rfl ?_
          refine sq_build tyZ76 tyP76 rfl rfl (by first | (simp only [List.take_succ_cons, List.take_zero, List.drop_succ_cons, List.drop_zero, List.cons_append, List.nil_append, List.append_nil, List.length_cons, List.length_nil, Nat.reduceAdd, Nat.zero_add, Nat.add_zero, Value.cells, wrV, zrep_one, List.replicate_succ, List.replicate_zero, Nat.reduceMul, Nat.zero_mul]; first | done | rfl) | rfl) rfl ?_
          refine sq_on rfl rfl rfl ?_
          refine sq_loadA 0 rfl rfl tyA63 tyS63 (by first | (simp only [List.length_cons, List.length_nil, Nat.reduceAdd, Nat.zero_add, Nat.add_zero]; first | done | rfl) | rfl) (by first | (simp only [List.take_succ_cons, List.take_zero, List.drop_succ_cons, List.drop_zero, List.cons_append, List.nil_append, List.append_nil, List.length_cons, List.length_nil, Nat.reduceAdd, Nat.zero_add, Nat.add_zero, Value.cells, wrV]; first | done | rfl) | rfl) rfl ?_
          refine sq_on rfl rfl rfl ?_
          refine sq_build tyZ76 tyP76 rfl rfl (by first | (simp only [List.take_succ_cons, List.take_zero, List.drop_succ_cons, List.drop_zero, List.cons_append, List.nil_append, List.append_nil, List.length_cons, List.length_nil, Nat.reduceAdd, Nat.zero_add, Nat.add_zero, Value.cells, wrV, zrep_one, List.replicate_succ, List.replicate_zero, Nat.reduceMul, Nat.zero_mul]; first | done | rfl) | rfl) rfl ?_
          refine sq_on rfl rfl rfl ?_
          refine sq_callFP (goes_fn y x hyo) rfl rfl rfl ?_
          refine sq_on rfl rfl rfl ?_
          refine sq_pick rfl rfl rfl ?_
          refine sq_pick rfl rfl rfl ?_
          refine sq_nil (hZ _ _ ?_ ?_)
          · exact Kn.cons rfl (Kn.cons rfl (Kn.cons rfl (Kn.cons rfl (Kn.cons rfl (Kn.cons (congrArg some (congrArg Value.bool (by simp at *; first | omega | (rw [Bool.eq_iff_iff]; simp; omega) | simp_all))) Kn.nil)))))
          · exact HLe.drop 1 rfl
        · refine sq_off rfl rfl rfl rfl rfl ?_
          refine sq_off rfl rfl rfl rfl rfl ?_
          refine sq_off rfl rfl rfl rfl rfl ?_
          refine sq_off rfl rfl rfl rfl rfl ?_
          refine sq_off rfl rfl rfl rfl rfl ?_
          refine sq_off rfl rfl rfl rfl rfl ?_
          refine sq_off rfl rfl rfl rfl rfl ?_
          refine sq_off rfl rfl rfl rfl rfl ?_
          refine sq_off rfl rfl rfl rfl rfl ?_
          refine sq_off rfl rfl rfl rfl rfl ?_
          refine sq_on rfl rfl rfl ?_
          refine sq_pick rfl rfl rfl ?_
          refine sq_pick rfl rfl rfl ?_
          refine sq_nil (hZ _ _ ?_ ?_)
          · exact Kn.cons rfl (Kn.cons rfl (Kn.cons rfl (Kn.cons rfl (Kn.cons rfl (Kn.cons (congrArg some (congrArg Value.bool (by simp at *; first | omega | (rw [Bool.eq_iff_iff]; simp; omega) | simp_all))) Kn.nil)))))
          · exact HLe.drop 1 rfl
    refine awp_cond rfl (fun h2 => ?_) (fun h2 => ?_)
    · rw [if_pos h2] at hqq
      rw [← hqq]
      refine awp_seq_region (fun Z hZ => ?_)
      refine sx_assign rfl rfl ?_
      refine sx_nil (hZ _ _ ?_)
      refine awp_forget [(2, _)] (Kn.cons rfl (Kn.nil)) ?_
      refine awp_ret ?_
      repeat (with_reducible (first | refine nx_then_ret ?_ | refine nx_block_ret ?_))
      exact nx_ret1 rfl rfl rfl
    rw [if_neg (by rw [h2]; simp)] at hqq
    refine awp_skip ?_
    repeat (with_reducible refine nx_block_normal ?_)
    with_reducible refine nx_normal ?_

    refine awp_region (fun Z hZ => ?_)
    refine sx_add rfl rfl ((i + 1 : Nat) : Int) (by rw [IntWalk.i64_in _ (by omega)]; omega) rfl ?_
    refine sx_move rfl rfl ?_
    refine sx_nil (hZ _ _ ?_)
    refine nx_forget [(0, _), (3, _), (9, _), (10, _), (11, _)] (Kn.cons rfl (Kn.cons rfl (Kn.cons rfl (Kn.cons rfl (Kn.cons rfl (Kn.nil)))))) ?_
    refine nx_round (i + 1) ⟨hlt, ?_⟩ (by omega) (Kn.cons rfl (Kn.cons rfl (Kn.cons rfl (Kn.cons rfl (Kn.cons rfl Kn.nil))))) (HLe.refl _)
    rw [← hqq]
    unfold prvE
    rw [if_neg (by omega), Nat.add_sub_cancel, hx]
  · refine awp_exit ?_
    repeat (with_reducible refine nx_then_exit ?_)
    with_reducible refine nx_block_exit ?_
    with_reducible refine nx_normal ?_
    have hke : i = L.length := by simp at h1; omega
    subst hke
    rw [List.drop_length, leastR] at hqq
    rw [← hqq]
    refine awp_seq_region (fun Z hZ => ?_)
    refine sx_assign rfl rfl ?_
    refine sx_nil (hZ _ _ ?_)
    refine awp_forget [(2, _)] (Kn.cons rfl (Kn.nil)) ?_
    refine awp_ret ?_
    exact nx_ret1 rfl rfl rfl
theorem rleast_fn (A : Option Addr) (c : Nat) (L : List En) (T : Heap) (hA : ArgOk A L.length) (hT : 0 < L.length → T = roE A (ecells L)) (hro : Ro T) (hL : L.length ≤ maxLen) (hE : EnsOk L) :
    Fn Try.prog 15 [.slice A L.length c] T fun v _ => v = .bool (leastQ L) := by
  refine Fn.enter (N := 35) Try.func15 rfl (by kernel_rfl) rfl (fun w0 => ?_)

  refine awp_seq_region (fun Z hZ => ?_)
  refine sx_assign rfl rfl ?_
  refine sx_nil (hZ _ _ ?_)
  refine awp_forget [(0, _)] (Kn.cons rfl (Kn.nil)) ?_
  refine awp_seq ?_
  refine awp_seq_region (fun Z hZ => ?_)
  refine sx_move rfl rfl ?_
  refine sx_callPT T (rrow_fn A c L T hA hT hro hL hE) rfl (List.Sublist.refl _) hro rfl ?_
  refine sx_neq rfl rfl rfl ?_
  refine sx_nil (hZ _ _ ?_)
  refine awp_forget [(0, _), (6, _)] (Kn.cons rfl (Kn.cons rfl (Kn.nil))) ?_
  refine awp_cond rfl (fun h => ?_) (fun h => ?_)
  · have h' : ¬ rowC L = 0 := by simp at h; omega
    rw [show leastQ L = false by unfold leastQ; rw [if_neg h']]
    refine awp_seq_region (fun Z hZ => ?_)
    refine sx_assign rfl rfl ?_
    refine sx_nil (hZ _ _ ?_)
    refine awp_forget [(2, _)] (Kn.cons rfl (Kn.nil)) ?_
    refine awp_ret ?_
    repeat (with_reducible refine nx_then_ret ?_)
    exact nx_ret1 rfl rfl rfl
  have h' : rowC L = 0 := by simp at h; omega
  rw [show leastQ L = leastR none L by unfold leastQ; rw [if_pos h']]
  have hq : L.length ≤ 4096 := by
    unfold rowC at h'
    split at h'
    · cases h'
    · omega
  refine awp_skip ?_
  with_reducible refine nx_normal ?_
  refine awp_seq ?_
  refine awp_seq_region (fun Z hZ => ?_)
  refine sx_assign rfl rfl ?_
  refine sx_nil (hZ _ _ ?_)
  refine awp_forget [(0, _), (3, _)] (Kn.cons rfl (Kn.cons rfl (Kn.nil))) ?_
  refine awp_block ?_
  refine awp_loop (ι := Nat) (fun i => [(0, .slice A L.length c), (3, iq (i : Nat))]) (fun _ => T)
    (fun i => i ≤ L.length ∧ leastR (prvE L i) (L.drop i) = leastR none L) (fun i => L.length - i) 0 ⟨by simp, rfl⟩ (Kn.cons rfl (Kn.cons rfl Kn.nil)) (HLe.refl _) ?_
  rintro i ⟨hi, hqq⟩

  refine awp_seq ?_
  refine awp_seq_region (fun Z hZ => ?_)
  refine sx_move rfl rfl ?_
  refine sx_move rfl rfl ?_
  refine sx_len Try.underlying22 rfl rfl ?_
  refine sx_lss rfl rfl rfl ?_
  refine sx_nil (hZ _ _ ?_)
  refine awp_forget [(0, _), (3, _), (10, _)] (Kn.cons rfl (Kn.cons rfl (Kn.cons rfl (Kn.nil)))) ?_
  refine awp_cond rfl (fun h1 => ?_) (fun h1 => ?_)
  · have hlt : i < L.length := by simpa using h1
    obtain ⟨x, hx⟩ : ∃ x, L[i]? = some x := ⟨_, List.getElem?_eq_getElem hlt⟩
    have hxo := hE x (List.mem_of_getElem? hx)
    obtain ⟨y, hyo, hy⟩ : ∃ y : En, y.ok ∧ (0 < i → L[i - 1]? = some y) := by
      rcases Nat.eq_zero_or_pos i with h0 | h0
      · exact ⟨x, hxo, fun h => absurd h (by omega)⟩
      · exact ⟨L[i - 1], hE _ (List.getElem_mem _), fun _ => List.getElem?_eq_getElem _⟩
    have hpv : prvE L i = if i = 0 then none else some y := by
      unfold prvE
      split
      · rfl
      · exact hy (by omega)
    have hdr : L.drop i = x :: L.drop (i + 1) := by rw [List.drop_eq_getElem_cons hlt]; congr 1; exact (List.getElem?_eq_some_iff.1 hx).2
    rw [hdr, leastR] at hqq
    have hlb : leastB (prvE L i) x = (decide (x.run = 0) || (decide (0 < i) && oneQ y x)) := by
      rw [hpv]
      unfold leastB
      rcases Nat.eq_zero_or_pos i with h0 | h0
      · simp [h0]
      · rw [if_neg (by omega)]; simp [h0]
    rw [hlb] at hqq
    obtain ⟨g, o, rfl⟩ := hA (by omega)
    obtain rfl := hT (by omega)
    refine awp_heap [.ro g o (ecells L)] (HLe.refl _) ?_
    refine awp_skip ?_
    with_reducible refine nx_normal ?_
    refine awp_seq (awp_block ?_)

    refine awq_seq_meet [(0, .slice (some ⟨g, o, none⟩) L.length c), (3, iq (i : Nat)), (34, .bool (decide (x.run = 0) || (decide (0 < i) && oneQ y x)))] [.ro g o (ecells L)] mixed (by kernel_rfl) (fun Z hZ => ?_) ?_
    · refine sq_move rfl rfl ?_
      refine sq_move rfl rfl ?_
      refine sq_indexAddr (o + i * 4) Try.underlying22 tyS68 rfl rfl (by omega) (by simp) rfl ?_
      refine sq_fieldAddr rfl tyF68_3 (by first | (simp only [Nat.reduceAdd, Nat.add_zero, Nat.zero_add]; first | done | rfl) | rfl) rfl ?_
      refine sq_loadRo 0 rfl rfl (i * 4 + 3) (by omega) tyA61 tyS61 (ecells_run hx) rfl ?_
      refine sq_eql rfl rfl rfl ?_
      refine sq_move rfl rfl ?_
      refine sq_split 19 rfl (fun hb6 => ?_) (fun hb6 => ?_)
      · refine sq_off rfl rfl rfl rfl rfl ?_
        refine sq_off rfl rfl rfl rfl rfl ?_
        refine sq_off rfl rfl rfl rfl rfl ?_
        refine sq_offU rfl rfl rfl rfl ?_
        refine sq_offU rfl rfl rfl rfl ?_
        refine sq_offU rfl rfl rfl rfl ?_
        refine sq_offU rfl rfl rfl rfl ?_
        refine sq_offU rfl rfl rfl rfl ?_
        refine sq_offU rfl rfl rfl rfl ?_
        refine sq_offU rfl rfl rfl rfl ?_
        refine sq_offU rfl rfl rfl rfl ?_
        refine sq_offU rfl rfl rfl rfl ?_
        refine sq_offU rfl rfl rfl rfl ?_
        refine sq_off rfl rfl rfl rfl rfl ?_
        refine sq_pick rfl rfl rfl ?_
        refine sq_nil (hZ _ _ ?_ ?_)
        · exact Kn.cons rfl (Kn.cons rfl (Kn.cons (congrArg some (congrArg Value.bool (by simp at *; first | omega | (rw [Bool.eq_iff_iff]; simp; omega) | simp_all))) Kn.nil))
        · exact HLe.refl _
      · refine sq_on rfl rfl rfl ?_
        refine sq_move rfl rfl ?_
        refine sq_on rfl rfl rfl ?_
        refine sq_gtr rfl rfl rfl ?_
        refine sq_on rfl rfl rfl ?_
        refine sq_move rfl rfl ?_
        refine sq_split 22 rfl (fun hb9 => ?_) (fun hb9 => ?_)
        · refine sq_on rfl rfl rfl ?_
          refine sq_move rfl rfl ?_
          refine sq_on rfl rfl rfl ?_
          refine sq_move rfl rfl ?_
          refine sq_on rfl rfl rfl ?_
          refine sq_sub rfl rfl ((i - 1 : Nat) : Int) (by simp at hb9; rw [IntWalk.i64_in _ (by omega)]; omega) rfl ?_
          refine sq_on rfl rfl rfl ?_
          refine sq_indexAddr (o + (i - 1) * 4) Try.underlying22 tyS68 rfl rfl (by omega) (by simp) rfl ?_
          refine sq_on rfl rfl rfl ?_
          refine sq_loadRo 0 rfl rfl ((i - 1) * 4) rfl tyA68 tyS68 (ecells_all (hy (by simp at hb9; omega))) rfl ?_
          refine sq_on rfl rfl rfl ?_
          refine sq_move rfl rfl ?_
          refine sq_on rfl rfl rfl ?_
          refine sq_move rfl rfl ?_
          refine sq_on rfl rfl rfl ?_
          refine sq_indexAddr (o + i * 4) Try.underlying22 tyS68 rfl rfl (by omega) (by simp) rfl ?_
          refine sq_on rfl rfl rfl ?_
          refine sq_loadRo 0 rfl rfl (i * 4) rfl tyA68 tyS68 (ecells_all hx) rfl ?_
          refine sq_on rfl rfl rfl ?_
          refine sq_callP (one_fn y x hyo) rfl rfl ?_
          refine sq_on rfl rfl rfl ?_
          refine sq_pick rfl rfl rfl ?_
          refine sq_pick rfl rfl rfl ?_
          refine sq_nil (hZ _ _ ?_ ?_)
          · exact Kn.cons rfl (Kn.cons rfl (Kn.cons (congrArg some (congrArg Value.bool (by simp at *; first | omega | (rw [Bool.eq_iff_iff]; simp; omega) | simp_all))) Kn.nil))
          · exact HLe.refl _
        · refine sq_off rfl rfl rfl rfl rfl ?_
          refine sq_off rfl rfl rfl rfl rfl ?_
          refine sq_off rfl rfl rfl rfl rfl ?_
          refine sq_off rfl rfl rfl rfl rfl ?_
          refine sq_off rfl rfl rfl rfl rfl ?_
          refine sq_off rfl rfl rfl rfl rfl ?_
          refine sq_off rfl rfl rfl rfl rfl ?_
          refine sq_off rfl rfl rfl rfl rfl ?_
          refine sq_off rfl rfl rfl rfl rfl ?_
          refine sq_off rfl rfl rfl rfl rfl ?_
          refine sq_on rfl rfl rfl ?_
          refine sq_pick rfl rfl rfl ?_
          refine sq_pick rfl rfl rfl ?_
          refine sq_nil (hZ _ _ ?_ ?_)
          · exact Kn.cons rfl (Kn.cons rfl (Kn.cons (congrArg some (congrArg Value.bool (by simp at *; first | omega | (rw [Bool.eq_iff_iff]; simp; omega) | simp_all))) Kn.nil))
          · exact HLe.refl _
    refine awp_cond rfl (fun h2 => ?_) (fun h2 => ?_)
    · rw [if_pos h2] at hqq
      rw [← hqq]
      refine awp_seq_region (fun Z hZ => ?_)
      refine sx_assign rfl rfl ?_
      refine sx_nil (hZ _ _ ?_)
      refine awp_forget [(2, _)] (Kn.cons rfl (Kn.nil)) ?_
      refine awp_ret ?_
      repeat (with_reducible (first | refine nx_then_ret ?_ | refine nx_block_ret ?_))
      exact nx_ret1 rfl rfl rfl
    rw [if_neg (by rw [h2]; simp)] at hqq
    refine awp_skip ?_
    repeat (with_reducible refine nx_block_normal ?_)
    with_reducible refine nx_normal ?_

    refine awp_region (fun Z hZ => ?_)
    refine sx_move rfl rfl ?_
    refine sx_add rfl rfl ((i + 1 : Nat) : Int) (by rw [IntWalk.i64_in _ (by omega)]; omega) rfl ?_
    refine sx_assign rfl rfl ?_
    refine sx_nil (hZ _ _ ?_)
    refine nx_forget [(0, _), (3, _)] (Kn.cons rfl (Kn.cons rfl (Kn.nil))) ?_
    refine nx_round (i + 1) ⟨hlt, ?_⟩ (by omega) (Kn.cons rfl (Kn.cons rfl Kn.nil)) (HLe.refl _)
    rw [← hqq]
    unfold prvE
    rw [if_neg (by omega), Nat.add_sub_cancel, hx]
  · refine awp_exit ?_
    repeat (with_reducible refine nx_then_exit ?_)
    with_reducible refine nx_block_exit ?_
    with_reducible refine nx_normal ?_
    have hke : i = L.length := by simp at h1; omega
    subst hke
    rw [List.drop_length, leastR] at hqq
    rw [← hqq]
    refine awp_seq_region (fun Z hZ => ?_)
    refine sx_assign rfl rfl ?_
    refine sx_nil (hZ _ _ ?_)
    refine awp_forget [(2, _)] (Kn.cons rfl (Kn.nil)) ?_
    refine awp_ret ?_
    exact nx_ret1 rfl rfl rfl
end Go.Proofs.Ytffahimbmpddpaa.V
