/- Plain: what was split is joined again. No conditions. -/
import Derived.Test.YtodclhiggafkbaaLf13
namespace Go.Proofs.Ytodclhiggafkbaa
open Go.RowKit
set_option linter.unusedVariables false
set_option linter.unusedSimpArgs false
theorem rowQ_cons {f : Nat} {e : En} {r : List En} : rowQ f (e :: r) = 0 ↔ chkE e = 0 ∧ f ≤ e.id ∧ rowQ (lastE e + 1) r = 0 := by
  rw [rowQ]
  by_cases h1 : chkE e = 0
  · rw [if_pos h1]
    by_cases h2 : e.id < f
    · rw [if_pos h2]
      exact ⟨(fun h => absurd h (by decide)), fun h => by omega⟩
    · rw [if_neg h2]
      exact ⟨fun h => ⟨h1, by omega, h⟩, fun h => h.2.2⟩
  · rw [if_neg h1]
    exact ⟨fun h => absurd h h1, fun h => absurd h.1 h1⟩
theorem last_ge {e : En} (h : e.ok) (hc : chkE e = 0) : e.id ≤ lastE e := by
  have := h.wide
  unfold lastE
  rw [if_pos hc]
  omega
theorem rowQ_mono : ∀ {f g : Nat} {Q : List En}, f ≤ g → rowQ g Q = 0 → rowQ f Q = 0
  | _, _, [], _, _ => rfl
  | f, g, e :: r, h, hr => by
    obtain ⟨h1, h2, h3⟩ := rowQ_cons.1 hr
    exact rowQ_cons.2 ⟨h1, by omega, h3⟩
theorem rowQ_drop : ∀ {P Q : List En} {f : Nat}, EnsOk P → rowQ f (P ++ Q) = 0 → rowQ f Q = 0
  | [], Q, f, _, h => h
  | e :: P, Q, f, hE, h => by
    obtain ⟨h1, h2, h3⟩ := rowQ_cons.1 h
    have h4 := rowQ_drop (fun x hx => hE x (List.mem_cons_of_mem _ hx)) h3
    have := last_ge (hE e List.mem_cons_self) h1
    exact rowQ_mono (by omega) h4
theorem pcs_flat {L : List En} {z : Nat} (hz : 0 < z) : (pcs L z).flatten = L := by
  have key : ∀ k, ((List.range k).map (pcL L z)).flatten = L.take (k * z) := fun k => by
    induction k with
    | zero => simp
    | succ k ih =>
      rw [List.range_succ, List.map_append, List.flatten_append, ih, Nat.succ_mul, List.take_add]
      simp [pcL]
  rw [pcs, key]
  refine List.take_of_length_le ?_
  have h : ¬ cntP L.length z * z < L.length := fun h => by have := (cntP_iff hz).2 h; omega
  omega
theorem enc_pos {P : List En} (h : (encQ P).2 = 0) : 0 < (encQ P).1.length := by
  rw [(encQ_ok h).2.2]
  exact allB_pos P
/-- The root's entries stand in order, and each may be. -/
theorem root_row : ∀ (ps : List (List En)) (t f : Nat), (∀ P ∈ ps, 0 < P.length ∧ EnsOk P ∧ (encQ P).2 = 0) → rowQ f ps.flatten = 0 → t + 65536 * ps.length ≤ 1099511627776 → rowQ f (rootR t ps) = 0
  | [], _, _, _, _, _ => rfl
  | [] :: r, t, f, hP, _, _ => by have := (hP [] List.mem_cons_self).1; simp at this
  | (e :: P) :: r, t, f, hP, h, ht => by
    obtain ⟨_, hE, he⟩ := hP (e :: P) List.mem_cons_self
    have heo : e.ok := hE e List.mem_cons_self
    have hl := encQ_len (e :: P)
    have hp := enc_pos he
    rw [List.length_cons] at ht
    rw [List.flatten_cons, List.cons_append] at h
    obtain ⟨h1, h2, h3⟩ := rowQ_cons.1 h
    have hid := (chk_ok heo h1).2.1
    have hw := heo.wide
    have hat : atE (e :: P) 0 = e := rfl
    have hc : chkE (rootE t (e :: P)) = 0 := by
      unfold chkE
      have hwide : (rootE t (e :: P)).wide = 1 := rfl
      have hnx : (rootE t (e :: P)).next = t + (encQ (e :: P)).1.length := by
        show (t + (encQ (e :: P)).1.length) % 18446744073709551616 = _
        omega
      rw [if_neg (by show ¬ (encQ (e :: P)).1.length = 0; omega), hwide, if_neg (by show ¬ _ < (atE (e :: P) 0).id; rw [hat]; omega), hnx, if_neg (by show ¬ (1099511627776 < t ∨ _); omega)]
    refine rowQ_cons.2 ⟨hc, by show f ≤ (atE (e :: P) 0).id; rw [hat]; exact h2, ?_⟩
    have hlast : lastE (rootE t (e :: P)) = e.id := by
      unfold lastE
      rw [if_pos hc]
      show (atE (e :: P) 0).id + 1 - 1 = e.id
      rw [hat]
      omega
    rw [hlast]
    have h4 := rowQ_drop (fun x hx => hE x (List.mem_cons_of_mem _ hx)) h3
    have := last_ge heo h1
    exact root_row r _ _ (fun Q hQ => hP Q (List.mem_cons_of_mem _ hQ)) (rowQ_mono (by omega) h4) (by omega)
theorem root_ptr : ∀ (ps : List (List En)) (t : Nat), (rootR t ps).filter isPtr = rootR t ps
  | [], _ => rfl
  | P :: r, t => by
    rw [rootR, List.filter_cons, if_pos (by rfl), root_ptr r]
def endQ : Nat → List En → Nat
  | n, [] => n
  | n, e :: r => endQ (if chkE e = 0 then max n e.next else n) r
theorem root_end : ∀ (ps : List (List En)) (t n : Nat), n ≤ t → (∀ P ∈ ps, 0 < P.length ∧ EnsOk P ∧ (encQ P).2 = 0) → (∀ f, rowQ f (rootR t ps) = 0 → True) → (∀ e ∈ rootR t ps, chkE e = 0) → t + 65536 * ps.length ≤ 1099511627776 → (ps = [] → n = t) → endQ n (rootR t ps) = t + (textP ps).length
  | [], t, n, _, _, _, _, _, h0 => by rw [h0 rfl]; rfl
  | P :: r, t, n, hn, hP, _, hc, ht, _ => by
    have hl := encQ_len P
    rw [List.length_cons] at ht
    rw [rootR, endQ, if_pos (hc _ (by rw [rootR]; exact List.mem_cons_self))]
    have hnx : (rootE t P).next = t + (encQ P).1.length := by
      show (t + (encQ P).1.length) % 18446744073709551616 = _
      omega
    rw [hnx, show max n (t + (encQ P).1.length) = t + (encQ P).1.length by omega, root_end r _ _ (Nat.le_refl _) (fun Q hQ => hP Q (List.mem_cons_of_mem _ hQ)) (fun _ _ => trivial) (fun e he => hc e (by rw [rootR]; exact List.mem_cons_of_mem _ he)) (by omega) (fun _ => rfl)]
    simp only [textP, List.flatMap_cons, List.length_append]
    omega
theorem rowQ_chk : ∀ {f : Nat} {L : List En}, rowQ f L = 0 → ∀ e ∈ L, chkE e = 0
  | _, [], _, e, h => by cases h
  | f, x :: r, hr, e, h => by
    obtain ⟨h1, _, h3⟩ := rowQ_cons.1 hr
    rcases List.mem_cons.1 h with rfl | h
    · exact h1
    · exact rowQ_chk h3 e h
theorem join_root : ∀ (ps : List (List En)) (out : List En) (pre : List UInt8), (∀ P ∈ ps, 0 < P.length ∧ EnsOk P ∧ (encQ P).2 = 0 ∧ hasPtr P = false) → rowC (out ++ ps.flatten) = 0 →
    joinG (pre ++ textP ps) out (rootR pre.length ps) = (out ++ ps.flatten, 0)
  | [], out, pre, _, hr => by
    rw [rootR, joinG]
    rw [List.flatten_nil, List.append_nil] at hr ⊢
    rw [if_neg (by simpa using hr)]
  | P :: r, out, pre, hP, hr => by
    obtain ⟨h0, hE, he, hh⟩ := hP P List.mem_cons_self
    obtain ⟨hrc, hsz, henc⟩ := encQ_ok he
    obtain ⟨S, hS⟩ : ∃ S, (encQ P).1 = S := ⟨_, rfl⟩
    have hSe : S = allB (numsQ P) := by rw [← hS, henc]
    have hd := decQ_enc hE hrc [] (by simpa using hsz)
    rw [List.append_nil, if_neg (by decide), ← hSe] at hd
    have htx : textP (P :: r) = S ++ textP r := by rw [textP, List.flatMap_cons, hS]; rfl
    have hsl : ((pre ++ textP (P :: r)).drop pre.length).take S.length = S := by rw [htx, List.drop_left, List.take_left]
    have hpc : pieceQ (rootE pre.length P) (pre ++ textP (P :: r)) = (P, 0) := by
      have e1 : (rootE pre.length P).off = pre.length := rfl
      have e2 : (rootE pre.length P).len = S.length := hS ▸ rfl
      have e3 : (rootE pre.length P).id = (atE P 0).id := rfl
      unfold pieceQ
      rw [e1, e2, e3, hsl, hd, if_neg (by rw [htx, List.length_append, List.length_append]; omega), if_neg (by simp), if_neg (by rw [hh]; decide), if_neg (fun h => h.elim (fun h => absurd h (Nat.ne_of_gt h0)) (fun h => h rfl))]
    rw [rootR, joinG, if_pos (by rfl), hpc, if_neg (by simp)]
    have ih := join_root r (out ++ P) (pre ++ S) (fun Q hQ => hP Q (List.mem_cons_of_mem _ hQ)) (by rw [List.append_assoc, ← List.flatten_cons]; exact hr)
    rw [List.length_append, List.append_assoc, ← htx, List.append_assoc, ← List.flatten_cons, ← hS] at ih
    exact ih
theorem join_plain {t : List UInt8} : ∀ (L out : List En), hasPtr L = false → rowC (out ++ L) = 0 → joinG t out L = (out ++ L, 0)
  | [], out, _, hr => by
    rw [joinG]
    rw [List.append_nil] at hr ⊢
    rw [if_neg (by simpa using hr)]
  | x :: r, out, hh, hr => by
    rw [hasPtr, List.any_cons, Bool.or_eq_false_iff] at hh
    rw [joinG, if_neg (by rw [hh.1]; decide), join_plain r (out ++ [x]) hh.2 (by rw [List.append_assoc]; exact hr), List.append_assoc]
    rfl
end Go.Proofs.Ytodclhiggafkbaa
