/- Walks and plain laws for this claim (texts Gdr1, joined). Each theorem states its own conditions. -/
import Derived.Test.YtkojkeabelckjaaGreatDoorJ16

set_option linter.all false
namespace Go.Proofs.YtkojkeabelckjaaGreatDoor.V
open Go.RowKit
def zeroEn : En := ⟨0, 0, 0, 0⟩
def prevE (L : List En) (i : Nat) : En := if i = 0 then zeroEn else L.getD (i - 1) zeroEn
def atE (L : List En) (i : Nat) : En := L.getD i zeroEn
def numQ (c i : Nat) (a e : En) : Nat :=
 if c = 0 then (e.id + 18446744073709551616 - a.id) % 18446744073709551616 else if c = 1 then e.run else if c = 2 then e.len
 else if 0 < i ∧ e.off = a.next then 0 else (e.off + 1) % 18446744073709551616
def colQ (L : List En) (c : Nat) : List Nat := (List.range L.length).map fun i => numQ c i (prevE L i) (atE L i)
def jE2 (L : List En) : List Nat := L.length :: (colQ L 0 ++ (colQ L 1 ++ (colQ L 2 ++ colQ L 3)))
theorem zero_ok : zeroEn.ok := ⟨by decide, by decide, by decide, by decide⟩
theorem atE_ok {L : List En} (h : jF2 L) (i : Nat) : (atE L i).ok := by
 unfold atE
 rcases Nat.lt_or_ge i L.length with hl | hl
 ·rw [List.getD_eq_getElem?_getD, List.getElem?_eq_getElem hl]; exact h _ (List.getElem_mem _)
 ·rw [List.getD_eq_getElem?_getD, List.getElem?_eq_none hl]; exact zero_ok
theorem prevE_ok {L : List En} (h : jF2 L) (i : Nat) : (prevE L i).ok := by
 unfold prevE
 split
 ·exact zero_ok
 ·exact atE_ok h (i - 1)
theorem atE_at {L : List En} {i : Nat} (h : i < L.length) : L[i]? = some (atE L i) := by simp [atE, h]
theorem prevE_succ (L : List En) (i : Nat) : prevE L (i + 1) = atE L i := by simp [prevE, atE]
theorem numQ_lt {c i : Nat} {a e : En} (h : e.ok) : numQ c i a e < 18446744073709551616 := by
 obtain ⟨h1, h2, h3, h4⟩ := h
 unfold numQ
 split
 ·omega
 split
 ·omega
 split
 ·omega
 split <;> omega
theorem colQ_len (L : List En) (c : Nat) : (colQ L c).length = L.length := by simp [colQ]
theorem numsQ_len (L : List En) : (jE2 L).length = 1 + 4 * L.length := by simp [jE2, colQ_len]; omega
theorem colQ_at {L : List En} {c i : Nat} (h : i < L.length) : (colQ L c)[i]? = some (numQ c i (prevE L i) (atE L i)) := by simp [colQ, h]
theorem numsQ_at {L : List En} {c i : Nat} (hc : c < 4) (h : i < L.length) : (jE2 L)[1 + c * L.length + i]? = some (numQ c i (prevE L i) (atE L i)) := by
 have key : ∀ c, (colQ L c).length = L.length := colQ_len L
 unfold jE2
 rw [show 1 + c * L.length + i = (c * L.length + i) + 1 by omega, List.getElem?_cons_succ]
 match c, hc with
 | 0, _ => rw [List.getElem?_append_left (by rw [key]; omega), Nat.zero_mul, Nat.zero_add]; exact colQ_at h
 | 1, _ =>
  rw [List.getElem?_append_right (by rw [key]; omega), key, List.getElem?_append_left (by rw [key]; omega)]
  rw [show 1 * L.length + i - L.length = i by omega]; exact colQ_at h
 | 2, _ =>
  rw [List.getElem?_append_right (by rw [key]; omega), key, List.getElem?_append_right (by rw [key]; omega), key, List.getElem?_append_left (by rw [key]; omega)]
  rw [show 2 * L.length + i - L.length - L.length = i by omega]; exact colQ_at h
 | 3, _ =>
  rw [List.getElem?_append_right (by rw [key]; omega), key, List.getElem?_append_right (by rw [key]; omega), key, List.getElem?_append_right (by rw [key]; omega), key]
  rw [show 3 * L.length + i - L.length - L.length - L.length = i by omega]; exact colQ_at h
theorem numsQ_lt {L : List En} (h : jF2 L) (hl : L.length < 18446744073709551616) : ∀ x ∈ jE2 L, x < 18446744073709551616 := fun x hx => by
 have hcol : ∀ c, x ∈ colQ L c → x < 18446744073709551616 := fun c hc => by
  obtain ⟨i, _, rfl⟩ := List.mem_map.1 hc
  exact numQ_lt (atE_ok h i)
 simp only [jE2, List.mem_cons, List.mem_append] at hx
 rcases hx with rfl | hx | hx | hx | hx
 ·exact hl
 ·exact hcol _ hx
 ·exact hcol _ hx
 ·exact hcol _ hx
 ·exact hcol _ hx
theorem dnext_fn (e : En) (h : e.ok) : Fn Tryz.prog 144 [e.val] [] fun v _ => v = uq e.next := by
 obtain ⟨h1, h2, h3, h4⟩ := h
 refine Fn.enter (N := 9) Tryz.func144 rfl (by kernel_rfl) rfl (fun w0 => ?_)
 refine aR (fun Z hZ => ?_)
 refine jC3 rfl rfl rfl (fun g1 => ?_)
 refine sA rfl rfl <| sN (hZ _ _ ?_)
 refine aF [(1, _)] (Kn.cons rfl (Kn.nil)) ?_
 refine aR (fun Z hZ => ?_)
 refine sFA rfl jH0 (by simp only [Nat.zero_add]; rfl) rfl ?_
 first | refine sL 0 rfl rfl tyA45 tyS45 rfl rfl ?_
 refine sFA rfl tyF114_2 (by simp only [Nat.zero_add]; rfl) rfl ?_
 first | refine sL 0 rfl rfl tyA112 tyS112 rfl rfl ?_
 refine jC2 Tryz.underlying112 Tryz.underlying45 rfl ((e.len : Nat) : Int) (by rw [IntWalk.u64_in _ (by omega)]) rfl ?_
 refine jB8 rfl rfl ((e.next : Nat) : Int) (by rw [← Int.natCast_add, u64_w]; rfl) rfl ?_
 refine sA rfl rfl <| sN (hZ _ _ ?_)
 refine aF [(2, _)] (Kn.cons rfl (Kn.nil)) ?_
 refine aE ?_
 exact nR1 rfl rfl rfl
theorem u64_sub {a b : Nat} (ha : a < 18446744073709551616) (hb : b < 18446744073709551616) : IntKind.u64.wrap ((a : Int) - (b : Int)) = (((a + 18446744073709551616 - b) % 18446744073709551616 : Nat) : Int) := by
 have : IntKind.u64.wrap ((a : Int) - (b : Int)) = ((a : Int) - b) % 18446744073709551616 := by simp [IntKind.wrap, IntKind.bits, IntKind.signed]
 rw [this]
 omega
theorem dnumber_fn (c i : Nat) (a e : En) (hc : c < 4) (hi : i ≤ 1000000) (ha : a.ok) (he : e.ok) : Fn Tryz.prog 98 [iq c, iq i, a.val, e.val] [] fun v _ => v = uq (numQ c i a e) := by
 have hao := ha
 have heo := he
 obtain ⟨a1, a2, a3, a4⟩ := ha
 obtain ⟨e1, e2, e3, e4⟩ := he
 have hn : a.next < 18446744073709551616 := by simp only [En.next]; omega
 refine Fn.enter (N := 42) Tryz.func98 rfl (by kernel_rfl) rfl (fun w0 => ?_)
 refine aR (fun Z hZ => ?_)
 refine jC3 rfl rfl rfl (fun g1 => ?_)
 refine jC3 rfl rfl rfl (fun g2 => ?_)
 refine sA rfl rfl <| sN (hZ _ _ ?_)
 refine aF [(0, _), (1, _), (6, _), (7, _)] (kR rfl) ?_
 refine aS (aB ?_)
 refine aR fun Z hZ => sM rfl rfl ?_
 refine jC8 rfl rfl rfl ?_
 refine sA rfl rfl <| sN (hZ _ _ ?_)
 refine aF [(0, _), (1, _), (6, _), (7, _), (9, _)] (kR rfl) ?_
 refine aC rfl (fun h => ?_) (fun h => ?_)
 ·have h0 : c = 0 := by simp at h; omega
  rw [show numQ c i a e = (e.id + 18446744073709551616 - a.id) % 18446744073709551616 by unfold numQ; rw [if_pos h0]]
  refine aR (fun Z hZ => ?_)
  refine sFA rfl tyF114_0 (by simp only [Nat.add_zero]; rfl) rfl ?_
  refine sL 0 rfl rfl tyA45 tyS45 rfl rfl ?_
  refine sFA rfl tyF114_0 (by simp only [Nat.add_zero]; rfl) rfl ?_
  refine sL 1 rfl rfl tyA45 tyS45 rfl rfl ?_
  refine sx_sub rfl rfl _ (u64_sub e1 a1) rfl ?_
  refine sA rfl rfl <| sN (hZ _ _ ?_)
  refine aF [(8, _)] (Kn.cons rfl (Kn.nil)) ?_
  refine aE ?_
  repeat (with_reducible (first | refine nTR ?_ | refine nBR ?_))
  exact nR1 rfl rfl rfl
 have h0 : c ≠ 0 := by simp at h; omega
 refine aR fun Z hZ => sM rfl rfl ?_
 refine jC8 rfl rfl rfl ?_
 refine sA rfl rfl <| sN (hZ _ _ ?_)
 refine aF [(0, _), (1, _), (6, _), (7, _), (17, _)] (kR rfl) ?_
 refine aC rfl (fun h1 => ?_) (fun h1 => ?_)
 ·have h1' : c = 1 := by simp at h1; omega
  rw [show numQ c i a e = e.run by unfold numQ; rw [if_neg h0, if_pos h1']]
  refine aR (fun Z hZ => ?_)
  refine sFA rfl tyF114_3 (by simp only [Nat.zero_add]; rfl) rfl ?_
  refine sL 0 rfl rfl tyA112 tyS112 rfl rfl ?_
  refine jC2 Tryz.underlying112 Tryz.underlying45 rfl ((e.run : Nat) : Int) (by rw [IntWalk.u64_in _ (by omega)]) rfl ?_
  refine sA rfl rfl <| sN (hZ _ _ ?_)
  refine aF [(8, _)] (Kn.cons rfl (Kn.nil)) ?_
  refine aE ?_
  repeat (with_reducible (first | refine nTR ?_ | refine nBR ?_))
  exact nR1 rfl rfl rfl
 have h1' : c ≠ 1 := by simp at h1; omega
 refine aR fun Z hZ => sM rfl rfl ?_
 refine jC8 rfl rfl rfl ?_
 refine sA rfl rfl <| sN (hZ _ _ ?_)
 refine aF [(1, _), (6, _), (7, _), (23, _)] (kR rfl) ?_
 refine aC rfl (fun h2 => ?_) (fun h2 => ?_)
 ·have h2' : c = 2 := by simp at h2; omega
  rw [show numQ c i a e = e.len by unfold numQ; rw [if_neg h0, if_neg h1', if_pos h2']]
  refine aR (fun Z hZ => ?_)
  refine sFA rfl tyF114_2 (by simp only [Nat.zero_add]; rfl) rfl ?_
  refine sL 0 rfl rfl tyA112 tyS112 rfl rfl ?_
  refine jC2 Tryz.underlying112 Tryz.underlying45 rfl ((e.len : Nat) : Int) (by rw [IntWalk.u64_in _ (by omega)]) rfl ?_
  refine sA rfl rfl <| sN (hZ _ _ ?_)
  refine aF [(8, _)] (Kn.cons rfl (Kn.nil)) ?_
  refine aE ?_
  repeat (with_reducible (first | refine nTR ?_ | refine nBR ?_))
  exact nR1 rfl rfl rfl
 have h2' : c ≠ 2 := by simp at h2; omega
 refine jC6 [(7, ptr g2 0), (29, .bool (decide (0 < i ∧ e.off = a.next)))] [.own g2 114 e.cells, .own g1 114 a.cells] mixed (by kernel_rfl) (fun Z hZ => ?_) ?_
 ·refine qM rfl rfl ?_
  refine sq_gtr rfl rfl rfl ?_
  refine qM rfl rfl ?_
  refine sq_split 32 rfl (fun hb2 => ?_) (fun hb2 => ?_)
  ·refine jA4 rfl rfl rfl ?_
   refine qFA rfl jH0 (by simp only [Nat.zero_add]; rfl) rfl ?_
   refine jA4 rfl rfl rfl ?_
   refine jB7 0 rfl rfl tyA45 tyS45 rfl rfl ?_
   refine jA4 rfl rfl rfl ?_
   refine sq_loadA 1 rfl rfl tyA114 tyS114 rfl (by simp only [qS, Value.cells]; rfl) rfl ?_
   refine jA4 rfl rfl rfl ?_
   refine sq_callP (dnext_fn a hao) rfl rfl ?_
   refine jA4 rfl rfl rfl ?_
   refine sq_eql rfl rfl rfl ?_
   refine jC5 rfl rfl rfl ?_
   refine jB3 rfl rfl ?_
   refine jE0 (hZ _ _ ?_ ?_)
   ·exact Kn.cons rfl (Kn.cons (congrArg some (congrArg Value.bool (by simp at hb2; rw [Bool.eq_iff_iff]; simp; omega))) Kn.nil)
   ·exact HLe.refl _
  ·refine qO rfl rfl rfl rfl rfl ?_
   refine qO rfl rfl rfl rfl rfl ?_
   refine qO rfl rfl rfl rfl rfl ?_
   refine qO rfl rfl rfl rfl rfl ?_
   refine qO rfl rfl rfl rfl rfl ?_
   refine jC5 rfl rfl rfl ?_
   refine jB3 rfl rfl ?_
   refine jE0 (hZ _ _ ?_ ?_)
   ·exact Kn.cons rfl (Kn.cons (congrArg some (congrArg Value.bool (by simp at hb2; rw [Bool.eq_iff_iff]; simp; omega))) Kn.nil)
   ·exact HLe.refl _
 refine aC rfl (fun h3 => ?_) (fun h3 => ?_)
 ·have h3' : 0 < i ∧ e.off = a.next := by simpa using h3
  rw [show numQ c i a e = 0 by unfold numQ; rw [if_neg h0, if_neg h1', if_neg h2', if_pos h3']]
  refine aR fun Z hZ => sA rfl rfl <| sN (hZ _ _ ?_)
  refine aF [(8, _)] (Kn.cons rfl (Kn.nil)) ?_
  refine aE ?_
  repeat (with_reducible (first | refine nTR ?_ | refine nBR ?_))
  exact nR1 rfl rfl rfl
 have h3' : ¬ (0 < i ∧ e.off = a.next) := by simpa using h3
 rw [show numQ c i a e = (e.off + 1) % 18446744073709551616 by unfold numQ; rw [if_neg h0, if_neg h1', if_neg h2', if_neg h3']]
 refine aK ?_
 repeat (with_reducible refine nBN ?_)
 with_reducible refine nN ?_
 refine aR (fun Z hZ => ?_)
 refine sFA rfl jH0 (by simp only [Nat.zero_add]; rfl) rfl ?_
 refine sL 0 rfl rfl tyA45 tyS45 rfl rfl ?_
 refine jB8 rfl rfl (((e.off + 1) % 18446744073709551616 : Nat) : Int) (by rw [show (e.off : Int) + 1 = ((e.off + 1 : Nat) : Int) by omega, u64_w]) rfl ?_
 refine sA rfl rfl <| sN (hZ _ _ ?_)
 refine aF [(8, _)] (Kn.cons rfl (Kn.nil)) ?_
 refine aE ?_
 exact nR1 rfl rfl rfl
end Go.Proofs.YtkojkeabelckjaaGreatDoor.V
namespace Go.Proofs.YtkojkeabelckjaaGreatDoor.V
open Go.RowKit
theorem wrs_flt {T K A : Heap} (h : Wrs T) : HLe T (A ++ (T.filter Ent.wr ++ K)) := by
 rw [h.filter]
 exact HLe.sub ((List.sublist_append_left T K).trans (List.sublist_append_right A _))
theorem numbers_fn (A : Option Addr) (n c : Nat) : Fn Tryz.prog 57 [.slice A n c] [] fun v H' => ∃ g, v = .func (.func 97) #[] #[ptr g 0] ∧ H' = [.own g 68 [.slice A n c]] := by
 refine Fn.enter (N := 4) Tryz.func57 rfl (by kernel_rfl) rfl (fun w0 => ?_)
 refine aR (fun Z hZ => ?_)
 refine jC3 rfl rfl rfl (fun g1 => ?_)
 refine sA rfl rfl <| sN (hZ _ _ ?_)
 refine aF [(1, _)] (Kn.cons rfl (Kn.nil)) ?_
 refine aR (fun Z hZ => ?_)
 refine sx_makeFunc rfl rfl ?_
 refine sA rfl rfl <| sN (hZ _ _ ?_)
 refine aF [(2, _)] (Kn.cons rfl (Kn.nil)) ?_
 refine aE ?_
 exact nR1 rfl rfl ⟨g1, rfl, rfl⟩
theorem numbers_it (g : Nat) (A : Option Addr) (cp : Nat) (L : List En) (T : Heap) (hA : jH1 A L.length) (hT : 0 < L.length → T = roE A (jA1 L)) (hL : L.length ≤ 100000) (hE : jF2 L) :
  Iter Tryz.prog 97 [ptr g 0] (.ro g 0 [.slice A L.length cp] :: T) ((jE2 L).map fun x => [uq x]) := by
 intro l J Jr S hJ hS hJr hY T0 hT0
 have hlen : ((jE2 L).map fun x => [uq x]).length = 1 + 4 * L.length := by rw [List.length_map, numsQ_len]
 rw [hlen]
 have hitem : ∀ k x, (jE2 L)[k]? = some x → ((jE2 L).map fun x => [uq x])[k]? = some [uq x] := fun k x h => by rw [List.getElem?_map, h]; rfl
 refine Fn.enter (N := 34) Tryz.func97 rfl (by kernel_rfl) rfl (fun w0 => ?_)
 refine jA8 (.ro g 0 [.slice A L.length cp] :: (T ++ (T0 ++ Jr))) (HLe.refl _) ?_
 refine aS ?_
 refine awy_seq_region (fun Z hZ => ?_)
 refine sy_x rfl ?_
 refine sM rfl rfl ?_
 refine sN ?_
 refine sy_x rfl ?_
 refine jD5 0 rfl rfl 0 rfl tyA68 tyS68 rfl rfl ?_
 refine sN ?_
 refine sy_x rfl ?_
 refine jD9 Tryz.underlying68 rfl rfl ?_
 refine sN ?_
 refine sy_x rfl ?_
 refine jC2 Tryz.underlying3 Tryz.underlying45 rfl ((L.length : Nat) : Int) (by rw [IntWalk.u64_in _ (by omega)]) rfl ?_
 refine sN ?_
 refine sy_yield (.ro g 0 [.slice A L.length cp] :: T) T0 Jr Jr (hY 0 [uq L.length] T0 (hitem 0 _ rfl) hT0) rfl rfl rfl (List.Sublist.refl _) hJr rfl ?_
 rintro v T1 ⟨b, rfl, hb1, hb2⟩
 refine sy_x rfl ?_
 refine sx_not rfl rfl ?_
 refine sN ?_
 refine sy_nil (hZ _ _ ?_)
 refine aF [(0, _), (1, _), (12, _)] (kR rfl) ?_
 refine aC rfl (fun h => ?_) (fun h => ?_)
 ·have hb : b = false := by simpa using h
  refine aE ?_
  repeat (with_reducible refine nTR ?_)
  exact nx_ret0h T1 rfl (wrs_flt (A := _ :: T) (hS T1 (hb2 hb))) (.inr (hb2 hb))
 have hb : b = true := by simpa using h
 have hT1 := hb1 hb
 rw [(hJ _ T1 hT1).filter]
 refine aK ?_
 with_reducible refine nN ?_
 refine aR fun Z hZ => sM rfl rfl <| sN (hZ _ _ ?_)
 refine aF [(0, _), (1, _), (13, _)] (kR rfl) ?_
 refine aB ?_
 refine jB6 (ι := Nat × Heap) (fun i => [(0, .func (.yield l) #[] #[]), (1, ptr g 0), (13, iq (i.1 : Nat))]) (fun i => .ro g 0 [.slice A L.length cp] :: (T ++ (i.2 ++ Jr)))
  (fun i => i.1 ≤ 4 ∧ J (1 + i.1 * L.length) i.2) (fun i => 4 - i.1) (0, T1) ⟨by simp, by simpa using hT1⟩ (kR rfl) (HLe.refl _) ?_
 rintro ⟨c, T2⟩ ⟨hc, hT2⟩
 simp only at hc hT2
 refine aR (fun Z hZ => ?_)
 refine jC4 rfl rfl rfl ?_
 refine sN (hZ _ _ ?_)
 refine aF [(0, _), (1, _), (13, _), (14, _)] (kR rfl) ?_
 refine aS (aC rfl (fun h => ?_) (fun h => ?_))
 ·have hc4 : c < 4 := by simp at h; omega
  refine aK ?_
  with_reducible refine nN ?_
  refine aS (aB ?_)
  refine aR fun Z hZ => sM rfl rfl <| sA rfl rfl <| sN (hZ _ _ ?_)
  refine aF [(0, _), (1, _), (3, _), (13, _)] (kR rfl) ?_
  refine aR (fun Z hZ => ?_)
  refine sAl tyZ114 rfl (fun g1 => ?_)
  refine sN (hZ _ _ ?_)
  refine aF [(0, _), (1, _), (3, _), (4, _), (13, _)] (kR rfl) ?_
  refine aR (fun Z hZ => ?_)
  refine jD5 1 rfl rfl 0 rfl tyA68 tyS68 rfl rfl ?_
  refine jD9 Tryz.underlying68 rfl rfl ?_
  refine sM rfl rfl <| sN (hZ _ _ ?_)
  refine aF [(0, _), (1, _), (3, _), (4, _), (13, _), (16, _), (17, _), (18, _)] (kR rfl) ?_
  refine aB ?_
  refine jB6 (ι := Nat × Heap) (fun i => [(0, .func (.yield l) #[] #[]), (1, ptr g 0), (3, iq (c : Nat)), (4, ptr g1 0), (13, iq (c : Nat)), (16, .slice A L.length cp), (17, iq (L.length : Nat)), (18, iq (i.1 : Nat))]) (fun i => .own g1 114 (prevE L i.1).cells :: .ro g 0 [.slice A L.length cp] :: (T ++ (i.2 ++ Jr)))
   (fun i => i.1 ≤ L.length ∧ J (1 + c * L.length + i.1) i.2) (fun i => L.length - i.1) (0, T2) ⟨by simp, by simpa using hT2⟩ (kR rfl) (HLe.refl _) ?_
  rintro ⟨i, T3⟩ ⟨hi, hT3⟩
  simp only at hi hT3
  refine aR (fun Z hZ => ?_)
  refine jC4 rfl rfl rfl ?_
  refine sN (hZ _ _ ?_)
  refine aF [(0, _), (1, _), (3, _), (4, _), (13, _), (16, _), (17, _), (18, _), (19, _)] (kR rfl) ?_
  refine aS (aC rfl (fun hh => ?_) (fun hh => ?_))
  ·have hlt : i < L.length := by simpa using hh
   have hx := atE_at hlt
   have hxo := atE_ok hE i
   have hpo := prevE_ok hE i
   obtain ⟨ga, o, rfl⟩ := hA (by omega)
   obtain rfl := hT (by omega)
   refine jA8 (.own g1 114 (prevE L i).cells :: .ro g 0 [.slice (some ⟨ga, o, none⟩) L.length cp] :: .ro ga o (jA1 L) :: (T3 ++ Jr)) (HLe.refl _) ?_
   refine aK ?_
   with_reducible refine nN ?_
   refine aS (aB ?_)
   refine aR fun Z hZ => sM rfl rfl ?_
   refine jA6 (o + i * 4) Tryz.underlying68 tyS114 rfl rfl (by omega) (by simp) rfl ?_
   refine jD5 2 rfl rfl (i * 4) rfl tyA114 tyS114 (ecells_all hx) rfl ?_
   refine sAl tyZ114 rfl (fun g2 => ?_)
   refine sA rfl rfl ?_
   refine sS 0 rfl rfl rfl tyS114 (by simp only [Value.cells]; rfl) rfl rfl rfl (by simp only [qS, Nat.reduceAdd, wrV]; rfl) (by simp only [List.set_cons_zero]; rfl) ?_
   refine sN (hZ _ _ ?_)
   refine aF [(0, _), (1, _), (3, _), (4, _), (5, _), (6, _), (13, _), (16, _), (17, _), (18, _)] (kR rfl) ?_
   refine aS ?_
   refine awy_seq_region (fun Z hZ => ?_)
   refine sy_x rfl ?_
   refine sM rfl rfl ?_
   refine sN ?_
   refine sy_x rfl ?_
   refine sM rfl rfl ?_
   refine sN ?_
   refine sy_x rfl ?_
   refine sM rfl rfl ?_
   refine sN ?_
   refine sy_x rfl ?_
   refine sLA 1 rfl rfl tyA114 tyS114 rfl (by simp only [qS]; rfl) rfl ?_
   refine sN ?_
   refine sy_x rfl ?_
   refine sLA 0 rfl rfl tyA114 tyS114 rfl (by simp only [qS]; rfl) rfl ?_
   refine sN ?_
   refine sy_x rfl ?_
   refine sCP (dnumber_fn c i (prevE L i) (atE L i) hc4 (by omega) hpo hxo) rfl rfl ?_
   refine sN ?_
   refine sy_yield [_, _, _, _] T3 Jr Jr (hY (1 + c * L.length + i) _ T3 (hitem _ _ (numsQ_at hc4 hlt)) hT3) rfl rfl rfl (List.Sublist.refl _) hJr rfl ?_
   rintro v T4 ⟨b, rfl, hb1, hb2⟩
   refine sy_x rfl ?_
   refine sx_not rfl rfl ?_
   refine sN ?_
   refine sy_nil (hZ _ _ ?_)
   refine aF [(0, _), (1, _), (3, _), (4, _), (6, _), (13, _), (16, _), (17, _), (18, _), (30, _)] (kR rfl) ?_
   refine aC rfl (fun h3 => ?_) (fun h3 => ?_)
   ·have hb : b = false := by simpa using h3
    refine aE ?_
    repeat (with_reducible (first | refine nTR ?_ | refine nBR ?_))
    exact nx_ret0h T4 rfl (wrs_flt (A := [_, _, _, _]) (hS T4 (hb2 hb))) (.inr (hb2 hb))
   have hb : b = true := by simpa using h3
   have hT4 := hb1 hb
   rw [(hJ _ T4 hT4).filter]
   refine aK ?_
   with_reducible refine nN ?_
   refine aG (fun Z hZ => ?_)
   refine sLA 0 rfl rfl tyA114 tyS114 rfl (by simp only [qS]; rfl) rfl ?_
   refine sS 1 rfl rfl rfl tyS114 (by simp only [Value.cells]; rfl) rfl rfl rfl (by simp only [qS, Nat.reduceAdd, wrV]; rfl) rfl ?_
   refine sN (hZ _ _ ?_)
   refine nF [(0, _), (1, _), (3, _), (4, _), (13, _), (16, _), (17, _), (18, _)] (kR rfl) ?_
   repeat (with_reducible refine nBN ?_)
   with_reducible refine nN ?_
   refine aG (fun Z hZ => ?_)
   refine jB8 rfl rfl ((i + 1 : Nat) : Int) (by rw [IntWalk.i64_in _ (by omega)]; omega) rfl ?_
   refine sM rfl rfl <| sN (hZ _ _ ?_)
   refine nF [(0, _), (1, _), (3, _), (4, _), (13, _), (16, _), (17, _), (18, _)] (kR rfl) ?_
   refine jB5 (i + 1, T4) ⟨by show i + 1 ≤ _; omega, hT4⟩ (by simp; omega) (kR rfl) ?_
   simp only [prevE_succ]
   exact HLe.drop 1 rfl
  ·refine jB1 ?_
   repeat (with_reducible refine nTE ?_)
   with_reducible refine nBE ?_
   repeat (with_reducible refine nBN ?_)
   with_reducible refine nN ?_
   have hie : i = L.length := by simp at hh; omega
   subst hie
   refine aG (fun Z hZ => ?_)
   refine jB8 rfl rfl ((c + 1 : Nat) : Int) (by rw [IntWalk.i64_in _ (by omega)]; omega) rfl ?_
   refine sM rfl rfl <| sN (hZ _ _ ?_)
   refine nF [(0, _), (1, _), (13, _)] (kR rfl) ?_
   refine jB5 (c + 1, T3) ⟨by show c + 1 ≤ _; omega, ?_⟩ (by simp; omega) (kR rfl) (HLe.drop 1 rfl)
   rw [show 1 + (c + 1) * L.length = 1 + c * L.length + L.length by rw [Nat.add_mul]; omega]
   exact hT3
 ·have hc4 : c = 4 := by simp at h; omega
  subst hc4
  refine jB1 ?_
  repeat (with_reducible refine nTE ?_)
  with_reducible refine nBE ?_
  exact nx_end0h T2 rfl (HLe.sub (((List.sublist_append_left T2 Jr).trans (List.sublist_append_right T _)).trans (List.sublist_cons_self _ _))) (.inl hT2)
end Go.Proofs.YtkojkeabelckjaaGreatDoor.V
namespace Go.Proofs.YtkojkeabelckjaaGreatDoor.V
open Go.RowKit
theorem elemU64 : ElemOk Tryz.prog 135 45 1 8 := ElemOk.mk_ (z := .int .u64 0) Tryz.underlying135 (by kernel_rfl) rfl (by omega)
theorem uqL_len (l : List Nat) : (uqL l).length = l.length := by simp
def sumB (l : List Nat) : Nat := (allB l).length
theorem sumB_take {xs : List Nat} {k : Nat} (h : k < xs.length) : sumB (xs.take (k + 1)) = sumB (xs.take k) + (vb xs[k]).length := by unfold sumB; rw [allB_take h]; simp
theorem allB_mono (xs : List Nat) (k : Nat) : sumB (xs.take k) ≤ sumB xs := by
 have := congrArg (fun l => (allB l).length) (List.take_append_drop k xs)
 simp only [allB, List.flatMap_append, List.length_append] at this
 unfold sumB allB
 omega
def sizeQ (L : List En) : Nat := if rowC L = 0 then sumB (jE2 L) else 0
theorem dsize_fn (A : Option Addr) (c : Nat) (L : List En) (T : Heap) (hA : jH1 A L.length) (hT : 0 < L.length → T = roE A (jA1 L)) (hro : Ro T) (hL : L.length ≤ 100000) (hE : jF2 L) :
  Fn Tryz.prog 54 [.slice A L.length c] T fun v _ => v = iq (sizeQ L) := by
 have hmax : L.length ≤ maxLen := by show _ ≤ 9223372036854775807; omega
 have hnl := numsQ_lt hE (by omega)
 have hall := allB_len hnl
 have hlen := numsQ_len L
 refine Fn.enterM (n := 16) Tryz.func54 rfl (by kernel_rfl) rfl (fun w0 => ?_)
 refine aR fun Z hZ => sA rfl rfl <| sN (hZ _ _ ?_)
 refine aF [(0, _)] (Kn.cons rfl (Kn.nil)) ?_
 refine aS ?_
 refine aR fun Z hZ => sM rfl rfl ?_
 refine jD6 T (erow_fn A c L T hA hT hro hmax hE) rfl (List.Sublist.refl _) hro rfl ?_
 refine jE5 rfl rfl rfl ?_
 refine sN (hZ _ _ ?_)
 refine aF [(0, _), (7, _)] (kR rfl) ?_
 refine aC rfl (fun h => ?_) (fun h => ?_)
 ·have h0 : rowC L ≠ 0 := by simp at h; omega
  rw [show sizeQ L = 0 by unfold sizeQ; rw [if_neg h0]]
  refine aR fun Z hZ => sA rfl rfl <| sN (hZ _ _ ?_)
  refine aF [(2, _)] (Kn.cons rfl (Kn.nil)) ?_
  refine aE ?_
  repeat (with_reducible refine nTR ?_)
  exact nx_unmark [] trivial (nR1 rfl rfl rfl)
 have h0 : rowC L = 0 := by simp at h; omega
 rw [show sizeQ L = sumB (jE2 L) by unfold sizeQ; rw [if_pos h0]]
 refine aK ?_
 with_reducible refine nN ?_
 refine aR (fun Z hZ => ?_)
 refine sAl tyZ3 rfl (fun g1 => ?_)
 first | refine sS1 0 rfl rfl rfl tyS3 rfl rfl (by simp only [List.set_cons_zero]; rfl) (by simp only [List.set_cons_zero]; rfl) ?_
 refine sN (hZ _ _ ?_)
 refine aF [(0, _), (3, _)] (kR rfl) ?_
 refine aS ?_
 refine aR fun Z hZ => sM rfl rfl ?_
 refine jD3 [] (.own g1 3 [iq 0] :: T) (numbers_fn A L.length c) rfl (HLe.refl _) rfl ?_
 rintro v H' ⟨g, rfl, rfl⟩
 refine jC1 (.own g1 3 [iq 0] :: .ro g 0 [.slice A L.length c] :: T) ((HLe.comm3 [_] [_] T).trans (HLe.toRo [] _)) ?_
 refine sN (hZ _ _ ?_)
 refine aF [(3, _), (9, _)] (kR rfl) ?_
 refine aB ?_
 refine awp_range (fun k H => H = [.own g1 3 [iq (sumB ((jE2 L).take k))]]) [] (fun _ _ => False) _ (numbers_it g A c L T hA hT hL hE) rfl (fun k H h => by subst h; exact .cons rfl .nil) (fun _ _ h => h.elim) Ro.nil (fun x hx => by rcases List.mem_cons.1 hx with rfl | hx; rfl; exact hro x hx) (fun k vs h => by rw [List.getElem?_map] at h; cases hk : (jE2 L)[k]? with | none => rw [hk] at h; cases h | some x => rw [hk] at h; obtain rfl := Option.some.inj h; rfl) rfl rfl (by rw [List.append_nil]; exact HLe.refl _) rfl ?_ ?_ (fun _ _ _ h => h.elim)
 ·intro k vs H hk hH l w1
  subst hH
  rw [List.getElem?_map] at hk
  cases hkx : (jE2 L)[k]? with
  | none => rw [hkx] at hk; cases hk
  | some x =>
   rw [hkx] at hk
   obtain rfl := Option.some.inj hk
   have hlt : k < (jE2 L).length := (List.getElem?_eq_some_iff.1 hkx).1
   have hxe : (jE2 L)[k] = x := (List.getElem?_eq_some_iff.1 hkx).2
   have hx : x < 18446744073709551616 := hnl x (List.mem_of_getElem? hkx)
   have hs := sumB_take hlt
   rw [hxe] at hs
   have hm := allB_mono (jE2 L) (k + 1)
   unfold sumB at hm hs
   refine aG (fun Z hZ => ?_)
   refine sA rfl rfl <| sN (hZ _ _ ?_)
   refine nF [(3, _), (4, _)] (kR rfl) ?_
   refine nx_assign [] Wrs.nil (HLe.refl _) fun w2 => ?_
   refine aB ?_
   refine jA8 [.own g1 3 [iq (sumB ((jE2 L).take k))]] (HLe.refl _) ?_
   refine awh_region [0, 1, 2, 3] [4] mixed (by kernel_rfl) rfl rfl (fun Z hZ => ?_)
   first | refine jB7 0 rfl rfl tyA3 tyS3 rfl rfl ?_
   refine qM rfl rfl ?_
   refine sq_callP (vsize_fn x hx) rfl rfl ?_
   refine sq_add rfl rfl ((sumB ((jE2 L).take (k + 1)) : Nat) : Int) (by unfold sumB; rw [IntWalk.i64_in _ (by omega)]; omega) rfl ?_
   refine jE0 ?_
   first | refine sS1 0 rfl rfl rfl tyS3 rfl rfl (by simp only [List.set_cons_zero]; rfl) (by simp only [List.set_cons_zero]; rfl) ?_
   refine sN (hZ _ _ ?_)
   refine nF [] (Kn.nil) ?_
   refine nBN ?_
   exact nx_next _ rfl (HLe.refl _)
 ·intro D H hH
  subst hH
  rw [List.length_map, List.take_length]
  refine nBN ?_
  with_reducible refine nx_normalM ?_
  refine jA8 (.ob D isDef :: .own g1 3 [iq (sumB (jE2 L))] :: (.ro g 0 [.slice A L.length c] :: T)) (by rw [List.append_nil]; exact HLe.refl _) ?_
  refine aR (fun Z hZ => ?_)
  refine sL 1 rfl rfl tyA3 tyS3 rfl rfl ?_
  refine sA rfl rfl <| sN (hZ _ _ ?_)
  refine aF [(2, _)] (Kn.cons rfl (Kn.nil)) ?_
  refine aE ?_
  exact nx_unmark [0] ⟨rfl, trivial⟩ (nR1 rfl rfl rfl)
end Go.Proofs.YtkojkeabelckjaaGreatDoor.V
namespace Go.Proofs.YtkojkeabelckjaaGreatDoor.V
open Go.RowKit
def encQ (L : List En) : List UInt8 × Nat := if rowC L = 0 then (if 65536 < sumB (jE2 L) then ([], 5) else (allB (jE2 L), 0)) else ([], rowC L)
theorem allB_pos (L : List En) : 0 < (allB (jE2 L)).length := by
 have := vb_pos L.length
 simp only [allB, jE2, List.flatMap_cons, List.length_append]
 omega
theorem dencode_fn (A : Option Addr) (c : Nat) (L : List En) (T : Heap) (hA : jH1 A L.length) (hT : 0 < L.length → T = roE A (jA1 L)) (hro : Ro T) (hL : L.length ≤ 10000) (hE : jF2 L) :
  Fn Tryz.prog 24 [.slice A L.length c] T fun v _ => v = .tuple #[.string (str (encQ L).1), iq (encQ L).2] := by
 have hmax : L.length ≤ maxLen := by show _ ≤ 9223372036854775807; omega
 have hnl := numsQ_lt hE (by omega)
 have hall := allB_len hnl
 have hlen := numsQ_len L
 refine Fn.enterM (n := 25) Tryz.func24 rfl (by kernel_rfl) rfl (fun w0 => ?_)
 refine aR fun Z hZ => sA rfl rfl <| sA rfl rfl <| sN (hZ _ _ ?_)
 refine aF [(0, _)] (Kn.cons rfl (Kn.nil)) ?_
 refine aS ?_
 refine aR fun Z hZ => sM rfl rfl ?_
 refine jD6 T (erow_fn A c L T hA hT hro hmax hE) rfl (List.Sublist.refl _) hro rfl ?_
 refine sA rfl rfl <| sN (hZ _ _ ?_)
 refine aF [(0, _), (4, _)] (kR rfl) ?_
 refine aR fun Z hZ => sM rfl rfl ?_
 refine jE5 rfl rfl rfl ?_
 refine sN (hZ _ _ ?_)
 refine aF [(0, _), (4, _), (10, _)] (kR rfl) ?_
 refine aC rfl (fun h => ?_) (fun h => ?_)
 ·have h0 : rowC L ≠ 0 := by simp at h; omega
  rw [show encQ L = ([], rowC L) by unfold encQ; rw [if_neg h0]]
  refine aR fun Z hZ => sM rfl rfl <| sA rfl rfl <| sA rfl rfl <| sN (hZ _ _ ?_)
  refine aF [(2, _), (3, _)] (kR rfl) ?_
  refine aE ?_
  repeat (with_reducible refine nTR ?_)
  exact nx_unmark [] trivial (jF9 rfl rfl rfl rfl)
 have h0 : rowC L = 0 := by simp at h; omega
 have hsz : sizeQ L = sumB (jE2 L) := by unfold sizeQ; rw [if_pos h0]
 refine aK ?_
 with_reducible refine nN ?_
 refine aS ?_
 refine aR fun Z hZ => sM rfl rfl ?_
 refine jD6 T (dsize_fn A c L T hA hT hro (by omega) hE) rfl (List.Sublist.refl _) hro rfl ?_
 refine jF3 rfl rfl rfl ?_
 refine sN (hZ _ _ ?_)
 refine aF [(0, _), (14, _)] (kR rfl) ?_
 rw [hsz]
 refine aC rfl (fun h1 => ?_) (fun h1 => ?_)
 ·have h1' : 65536 < sumB (jE2 L) := by simp at h1; omega
  rw [show encQ L = ([], 5) by unfold encQ; rw [if_pos h0, if_pos h1']]
  refine aR fun Z hZ => sA rfl rfl <| sA rfl rfl <| sN (hZ _ _ ?_)
  refine aF [(2, _), (3, _)] (kR rfl) ?_
  refine aE ?_
  repeat (with_reducible refine nTR ?_)
  exact nx_unmark [] trivial (jF9 rfl rfl rfl rfl)
 have h1' : ¬ 65536 < sumB (jE2 L) := by simp at h1; omega
 rw [show encQ L = (allB (jE2 L), 0) by unfold encQ; rw [if_pos h0, if_neg h1']]
 refine aK ?_
 with_reducible refine nN ?_
 refine aR (fun Z hZ => ?_)
 refine sAl tyZ135 rfl (fun g1 => ?_)
 refine sN (hZ _ _ ?_)
 refine aF [(0, _), (5, _)] (kR rfl) ?_
 refine aS ?_
 refine aR fun Z hZ => sM rfl rfl ?_
 refine jD3 [] (.own g1 135 [.slice none 0 0] :: T) (numbers_fn A L.length c) rfl (HLe.refl _) rfl ?_
 rintro v H' ⟨g, rfl, rfl⟩
 refine jC1 (.own g1 135 [.slice none 0 0] :: .ro g 0 [.slice A L.length c] :: T) ((HLe.comm3 [_] [_] T).trans (HLe.toRo [] _)) ?_
 refine sN (hZ _ _ ?_)
 refine aF [(5, _), (16, _)] (kR rfl) ?_
 refine aB ?_
 refine awp_range (fun k H => ∃ v, RowOk v k ∧ H = .own g1 135 [v] :: rowE v 45 1 (uqL ((jE2 L).take k))) [] (fun _ _ => False) [.own g1 135 [.slice none 0 0]] (numbers_it g A c L T hA hT (by omega) hE) rfl (fun k H ⟨v, _, h⟩ => by subst h; exact .cons rfl (rowE_wrs _ _ _ _)) (fun _ _ h => h.elim) Ro.nil (fun x hx => by rcases List.mem_cons.1 hx with rfl | hx; rfl; exact hro x hx) (fun k vs h => by rw [List.getElem?_map] at h; cases hk : (jE2 L)[k]? with | none => rw [hk] at h; cases h | some x => rw [hk] at h; obtain rfl := Option.some.inj h; rfl) rfl ⟨_, RowOk.nil, rfl⟩ (by rw [List.append_nil]; exact HLe.refl _) rfl ?_ ?_ (fun _ _ _ h => h.elim)
 ·rintro k vs H hk ⟨v, hv, rfl⟩ l w1
  rw [List.getElem?_map] at hk
  cases hkx : (jE2 L)[k]? with
  | none => rw [hkx] at hk; cases hk
  | some x =>
   rw [hkx] at hk
   obtain rfl := Option.some.inj hk
   have hlt : k < (jE2 L).length := (List.getElem?_eq_some_iff.1 hkx).1
   have htk : uqL ((jE2 L).take (k + 1)) = uqL ((jE2 L).take k) ++ [uq x] := by
    rw [List.take_succ_eq_append_getElem hlt, (List.getElem?_eq_some_iff.1 hkx).2]; simp
   refine aG (fun Z hZ => ?_)
   refine sA rfl rfl <| sN (hZ _ _ ?_)
   refine nF [(5, _), (6, _)] (kR rfl) ?_
   refine nx_assign [] Wrs.nil (HLe.refl _) fun w2 => ?_
   refine aB ?_
   refine jA8 (.own g1 135 [v] :: rowE v 45 1 (uqL ((jE2 L).take k))) (by rw [List.append_nil]; exact HLe.refl _) ?_
   refine aG (fun Z hZ => ?_)
   first | refine sL 0 rfl rfl tyA135 tyS135 rfl rfl ?_
   refine sM rfl rfl ?_
   refine sBS Tryz.underlying135 tyS45 tyZ45 rfl rfl rfl rfl (by simp only [qS, Value.cells, wrV, jG9, List.replicate_succ, List.replicate_zero, Nat.reduceMul, Nat.zero_mul]; rfl) rfl (fun g2 => ?_)
   refine jD2 [_, _] elemU64 rfl hv (by rw [uqL_len, List.length_take, Nat.min_eq_left (by omega)]; omega) rfl (fun w hw => rd_own (i := 0) (xs := [uq x]) rfl rfl hw) rfl (by show _ ≤ 9223372036854775807; omega) (by omega) (HLe.refl _) rfl (fun v2 hv2 => ?_)
   obtain ⟨g4, c4, rfl⟩ := hv2.some (by omega)
   refine sS1 1 rfl rfl rfl tyS135 rfl rfl (by simp only [List.set_cons_zero]; rfl) rfl ?_
   refine sN (hZ _ _ ?_)
   refine nF [] (Kn.nil) ?_
   refine nBN ?_
   exact nx_next _ ⟨.slice (some ⟨g4, 0, none⟩) (k + 1) c4, RowOk.mk _ _ _, rfl⟩ (by rw [htk]; exact HLe.drop 1 rfl)
 ·rintro D H ⟨v, hv, rfl⟩
  rw [List.length_map] at hv ⊢
  rw [List.take_length]
  obtain ⟨gv, cv, rfl⟩ := hv.some (by omega)
  refine nBN ?_
  with_reducible refine nx_normalM ?_
  refine jA8 (.ob D isDef :: .own g1 135 [.slice (some ⟨gv, 0, none⟩) (jE2 L).length cv] :: .ob gv (RowP 45 1 (jE2 L).length cv (uqL (jE2 L))) :: .ro g 0 [.slice A L.length c] :: T) (by rw [List.append_nil]; exact HLe.refl _) ?_
  refine aR (fun Z hZ => ?_)
  refine sL 1 rfl rfl tyA135 tyS135 rfl rfl ?_
  refine jD3 [_] (.ob D isDef :: .own g1 135 [.slice (some ⟨gv, 0, none⟩) (jE2 L).length cv] :: .ro g 0 [.slice A L.length c] :: T) (all_fn gv cv (jE2 L) hnl (by omega)) rfl (HLe.comm3 [_, _] [_] _) rfl ?_
  rintro u H' ⟨hu, rfl⟩
  rw [jE4]
  obtain ⟨gu, cu, rfl⟩ := hu.some (allB_pos L)
  refine sx_strB (l := allB (jE2 L)) Tryz.underlying132 Tryz.underlying5 Tryz.underlying9 rfl (fun w hw => rd_row (i := 0) rfl hw) rfl ?_
  refine sA rfl rfl <| sA rfl rfl <| sN (hZ _ _ ?_)
  refine aF [(2, _), (3, _)] (kR rfl) ?_
  refine aE ?_
  exact nx_unmark [1] ⟨rfl, trivial⟩ (jF9 rfl rfl rfl rfl)
end Go.Proofs.YtkojkeabelckjaaGreatDoor.V
namespace Go.Proofs.YtkojkeabelckjaaGreatDoor.V
open Go.RowKit
theorem numQ_0 (i : Nat) (a e : En) : numQ 0 i a e = (e.id + 18446744073709551616 - a.id) % 18446744073709551616 := by unfold numQ; rw [if_pos rfl]
theorem numQ_1 (i : Nat) (a e : En) : numQ 1 i a e = e.run := by unfold numQ; rw [if_neg (by decide), if_pos rfl]
theorem numQ_2 (i : Nat) (a e : En) : numQ 2 i a e = e.len := by unfold numQ; rw [if_neg (by decide), if_neg (by decide), if_pos rfl]
theorem numQ_3 (i : Nat) (a e : En) : numQ 3 i a e = if 0 < i ∧ e.off = a.next then 0 else (e.off + 1) % 18446744073709551616 := by unfold numQ; rw [if_neg (by decide), if_neg (by decide), if_neg (by decide)]
end Go.Proofs.YtkojkeabelckjaaGreatDoor.V
