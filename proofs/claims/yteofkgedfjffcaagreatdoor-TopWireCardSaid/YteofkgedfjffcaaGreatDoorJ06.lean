/- Walks and plain laws for this claim (texts Gdr1, Gdr2, Gdr3, Glf1, SxDf, joined). Each theorem states its own conditions. -/
import Derived.Test.YteofkgedfjffcaaGreatDoorJ04
set_option linter.all false
namespace Go.Proofs.YteofkgedfjffcaaGreatDoor
namespace V
open Go.RowKit
def zeroEn : En := ⟨0, 0, 0, 0⟩
def jI4 (L : List En) (i : Nat) : En := if i = 0 then zeroEn else L.getD (i - 1) zeroEn
def atE (L : List En) (i : Nat) : En := L.getD i zeroEn
def numQ (c i : Nat) (a e : En) : Nat :=
 if c = 0 then (e.id + 18446744073709551616 - a.id) % 18446744073709551616 else if c = 1 then e.run else if c = 2 then e.len
 else if 0 < i ∧ e.off = a.next then 0 else (e.off + 1) % 18446744073709551616
def colQ (L : List En) (c : Nat) : List Nat := (List.range L.length).map fun i => numQ c i (jI4 L i) (atE L i)
def jF4 (L : List En) : List Nat := L.length :: (colQ L 0 ++ (colQ L 1 ++ (colQ L 2 ++ colQ L 3)))
theorem vH0 : zeroEn.ok := ⟨by decide, by decide, by decide, by decide⟩
theorem jX4 {L : List En} (h : jF5 L) (i : Nat) : (atE L i).ok := by
 unfold atE
 rcases xX i L.length with hl | hl
 ·rw [zF, xF hl]; exact h _ (zQ _)
 ·rw [zF, zG hl]; exact vH0
theorem kW8 {L : List En} (h : jF5 L) (i : Nat) : (jI4 L i).ok := by
 unfold jI4
 split
 ·exact vH0
 ·exact jX4 h (i - 1)
theorem kS3 {L : List En} {i : Nat} (h : i < L.length) : L[i]? = some (atE L i) := by simp [atE, h]
theorem kQ0 (L : List En) (i : Nat) : jI4 L (i + 1) = atE L i := by simp [jI4, atE]
theorem wJ9 {c i : Nat} {a e : En} (h : e.ok) : numQ c i a e < 18446744073709551616 := by
 obtain ⟨h1, h2, h3, h4⟩ := h
 unfold numQ
 split
 ·omega
 split
 ·omega
 split
 ·omega
 split <;> omega
theorem vT8 (L : List En) (c : Nat) : (colQ L c).length = L.length := by simp [colQ]
theorem jN4 (L : List En) : (jF4 L).length = 1 + 4 * L.length := by simp [jF4, vT8]; omega
theorem kZ5 {L : List En} {c i : Nat} (h : i < L.length) : (colQ L c)[i]? = some (numQ c i (jI4 L i) (atE L i)) := by simp [colQ, h]
theorem vR3 {L : List En} {c i : Nat} (hc : c < 4) (h : i < L.length) : (jF4 L)[1 + c * L.length + i]? = some (numQ c i (jI4 L i) (atE L i)) := by
 have key : ∀ c, (colQ L c).length = L.length := vT8 L
 unfold jF4
 rw [show 1 + c * L.length + i = (c * L.length + i) + 1 by omega, xC]
 match c, hc with
 | 0, _ => rw [qE (by rw [key]; omega), xH, lA]; exact kZ5 h
 | 1, _ =>
  rw [qH (by rw [key]; omega), key, qE (by rw [key]; omega)]
  rw [show 1 * L.length + i - L.length = i by omega]; exact kZ5 h
 | 2, _ =>
  rw [qH (by rw [key]; omega), key, qH (by rw [key]; omega), key, qE (by rw [key]; omega)]
  rw [show 2 * L.length + i - L.length - L.length = i by omega]; exact kZ5 h
 | 3, _ =>
  rw [qH (by rw [key]; omega), key, qH (by rw [key]; omega), key, qH (by rw [key]; omega), key]
  rw [show 3 * L.length + i - L.length - L.length - L.length = i by omega]; exact kZ5 h
theorem kA9 {L : List En} (h : jF5 L) (hl : L.length < 18446744073709551616) : ∀ x ∈ jF4 L, x < 18446744073709551616 := fun x hx => by
 have hcol : ∀ c, x ∈ colQ L c → x < 18446744073709551616 := fun c hc => by
  obtain ⟨i, _, rfl⟩ := List.mem_map.1 hc
  exact wJ9 (jX4 h i)
 simp only [jF4, lW, l9] at hx
 rcases hx with rfl | hx | hx | hx | hx
 ·exact hl
 ·exact hcol _ hx
 ·exact hcol _ hx
 ·exact hcol _ hx
 ·exact hcol _ hx
theorem kI6 (e : En) (h : e.ok) : Fn Tryz.prog 225 [e.val] [] fun v _ => v = uq e.next := by
 obtain ⟨h1, h2, h3, h4⟩ := h
 refine fE 9 Tryz.func225 rfl (fun w0 => aR (fun Z hZ => jB2 (fun g1 => ?_)))
 refine sAN hZ rfl rfl <| f1K 1 rfl <| aR (fun Z hZ => sFA0 jH0 ?_)
 first | refine sL0 0 tyA61 tyS61 ?_
 refine sFA0 jJ6 ?_
 first | refine sL0 0 tyA180 tyS180 ?_
 refine jD0 Tryz.underlying180 Tryz.underlying61 rfl ((e.len : Nat) : Int) (by rw [xK _ (by omega)]) rfl ?_
 refine kD6 ((e.next : Nat) : Int) (by rw [← Int.natCast_add, wX0]; rfl) ?_
 refine sAN hZ rfl rfl <| f1K 2 rfl <| aE <| nR10 rfl
theorem yP3 {a b : Nat} (ha : a < 18446744073709551616) (hb : b < 18446744073709551616) : IntKind.u64.wrap ((a : Int) - (b : Int)) = (((a + 18446744073709551616 - b) % 18446744073709551616 : Nat) : Int) := by
 have : IntKind.u64.wrap ((a : Int) - (b : Int)) = ((a : Int) - b) % 18446744073709551616 := by simp [IntKind.wrap, IntKind.bits, IntKind.signed]
 rw [this]
 omega
theorem vZ0 (c i : Nat) (a e : En) (hc : c < 4) (hi : i ≤ 1000000) (ha : a.ok) (he : e.ok) : Fn Tryz.prog 169 [iq c, iq i, a.val, e.val] [] fun v _ => v = uq (numQ c i a e) := by
 have hao := ha
 have heo := he
 obtain ⟨a1, a2, a3, a4⟩ := ha
 obtain ⟨e1, e2, e3, e4⟩ := he
 have hn : a.next < 18446744073709551616 := by simp only [En.next]; omega
 refine fE 42 Tryz.func169 rfl (fun w0 => aR (fun Z hZ => jB2 (fun g1 => ?_)))
 refine jB2 (fun g2 => ?_)
 refine sAN hZ rfl rfl <| f4K 0 1 6 7 rfl <| aS (aB <| aR fun Z hZ => sM rfl rfl <| jB1 ?_)
 refine sAN hZ rfl rfl <| f5K 0 1 6 7 9 rfl <| aC0 (fun h => ?_) (fun h => ?_)
 ·have h0 : c = 0 := by simp at h; omega
  rw [show numQ c i a e = (e.id + 18446744073709551616 - a.id) % 18446744073709551616 by unfold numQ; rw [if_pos h0]]
  refine aR (fun Z hZ => sFA0 jJ7 ?_)
  refine sL0 0 tyA61 tyS61 ?_
  refine sFA0 jJ7 ?_
  refine sL0 1 tyA61 tyS61 ?_
  refine jN0 rfl rfl _ (yP3 e1 a1) rfl ?_
  refine sAN hZ rfl rfl ?_
  refine f1K 8 rfl ?_
  refine aE ?_
  repeat (with_reducible (first | refine nTR ?_ | refine nBR ?_))
  exact nR1 rfl rfl rfl
 have h0 : c ≠ 0 := by simp at h; omega
 refine aR fun Z hZ => sM rfl rfl <| jB1 ?_
 refine sAN hZ rfl rfl <| f5K 0 1 6 7 17 rfl <| aC0 (fun h1 => ?_) (fun h1 => ?_)
 ·have h1' : c = 1 := by simp at h1; omega
  rw [show numQ c i a e = e.run by unfold numQ; rw [if_neg h0, if_pos h1']]
  refine aR (fun Z hZ => sFA0 jM4 ?_)
  refine sL0 0 tyA180 tyS180 ?_
  refine jD0 Tryz.underlying180 Tryz.underlying61 rfl ((e.run : Nat) : Int) (by rw [xK _ (by omega)]) rfl ?_
  refine sAN hZ rfl rfl ?_
  refine f1K 8 rfl ?_
  refine aE ?_
  repeat (with_reducible (first | refine nTR ?_ | refine nBR ?_))
  exact nR1 rfl rfl rfl
 have h1' : c ≠ 1 := by simp at h1; omega
 refine aR fun Z hZ => sM rfl rfl <| jB1 ?_
 refine sAN hZ rfl rfl <| f4K 1 6 7 23 rfl <| aC0 (fun h2 => ?_) (fun h2 => ?_)
 ·have h2' : c = 2 := by simp at h2; omega
  rw [show numQ c i a e = e.len by unfold numQ; rw [if_neg h0, if_neg h1', if_pos h2']]
  refine aR (fun Z hZ => sFA0 jJ6 ?_)
  refine sL0 0 tyA180 tyS180 ?_
  refine jD0 Tryz.underlying180 Tryz.underlying61 rfl ((e.len : Nat) : Int) (by rw [xK _ (by omega)]) rfl ?_
  refine sAN hZ rfl rfl ?_
  refine f1K 8 rfl ?_
  refine aE ?_
  repeat (with_reducible (first | refine nTR ?_ | refine nBR ?_))
  exact nR1 rfl rfl rfl
 have h2' : c ≠ 2 := by simp at h2; omega
 refine jF0 [(7, ptr g2 0), (29, .bool (decide (0 < i ∧ e.off = a.next)))] [.own g2 182 e.cells, .own g1 182 a.cells] jF1 (by kernel_rfl) (fun Z hZ => ?_) ?_
 ·refine qM rfl rfl <| kP6 rfl rfl rfl <| qM rfl rfl <| jK3 32 rfl (fun hb2 => ?_) (fun hb2 => ?_)
  ·refine jA4 ?_
   refine qFA0 jH0 ?_
   refine jA4 ?_
   refine jA9 0 tyA61 tyS61 ?_
   refine jA4 ?_
   refine jM6 1 rfl rfl tyA182 tyS182 rfl (by simp only [qS, Value.cells]; rfl) rfl ?_
   refine jA4 ?_
   refine jG2 (kI6 a hao) rfl rfl <| jA4 ?_
   refine jP1 rfl rfl rfl <| jE1 rfl rfl rfl <| jB8 rfl rfl <| jE9 (hZ _ _ ?_ ?_)
   ·exact kE rfl (kE (congrArg some (congrArg Value.bool (by simp at hb2; rw [lS]; simp; omega))) kF)
   ·exact hV _
  ·refine qO0 ?_
   refine qO0 ?_
   refine qO0 ?_
   refine qO0 ?_
   refine qO0 ?_
   refine jE1 rfl rfl rfl <| jB8 rfl rfl <| jE9 (hZ _ _ ?_ ?_)
   ·exact kE rfl (kE (congrArg some (congrArg Value.bool (by simp at hb2; rw [lS]; simp; omega))) kF)
   ·exact hV _
 refine aC0 (fun h3 => ?_) (fun h3 => ?_)
 ·have h3' : 0 < i ∧ e.off = a.next := by simpa using h3
  rw [show numQ c i a e = 0 by unfold numQ; rw [if_neg h0, if_neg h1', if_neg h2', if_pos h3']]
  refine aA rfl rfl ?_
  refine f1K 8 rfl ?_
  refine aE ?_
  repeat (with_reducible (first | refine nTR ?_ | refine nBR ?_))
  exact nR1 rfl rfl rfl
 have h3' : ¬ (0 < i ∧ e.off = a.next) := by simpa using h3
 rw [show numQ c i a e = (e.off + 1) % 18446744073709551616 by unfold numQ; rw [if_neg h0, if_neg h1', if_neg h2', if_neg h3']]
 refine aK ?_
 repeat (with_reducible refine nBN ?_)
 refine nN ?_
 refine aR (fun Z hZ => ?_)
 refine sFA0 jH0 ?_
 refine sL0 0 tyA61 tyS61 ?_
 refine kD6 (((e.off + 1) % 18446744073709551616 : Nat) : Int) (by rw [show (e.off : Int) + 1 = ((e.off + 1 : Nat) : Int) by omega, wX0]) ?_
 refine sAN hZ rfl rfl <| f1K 8 rfl <| aE <| nR10 rfl
end V
namespace V
open Go.RowKit
theorem vH1 {T K A : Heap} (h : Wrs T) : HLe T (A ++ (T.filter Ent.wr ++ K)) := by
 rw [h.filter]
 exact kA ((xE T K).trans (lX A _))
theorem kQ4 (A : Option Addr) (n c : Nat) : Fn Tryz.prog 100 [.slice A n c] [] fun v H' => ∃ g, v = .func (.func 168) #[] #[ptr g 0] ∧ H' = [.own g 114 [.slice A n c]] := by
 refine fE 4 Tryz.func100 rfl (fun w0 => aR (fun Z hZ => jB2 (fun g1 => ?_)))
 refine sAN hZ rfl rfl <| f1K 1 rfl <| aR (fun Z hZ => jL9 rfl rfl <| sAN hZ rfl rfl <| f1K 2 rfl <| aE <| nR10 ⟨g1, rfl, rfl⟩)
theorem kQ3 (g : Nat) (A : Option Addr) (cp : Nat) (L : List En) (T : Heap) (hA : jK9 A L.length) (hT : 0 < L.length → T = roE A (jA2 L)) (hL : L.length ≤ 100000) (hE : jF5 L) :
  Iter Tryz.prog 168 [ptr g 0] (.ro g 0 [.slice A L.length cp] :: T) ((jF4 L).map fun x => [uq x]) := by
 intro l J Jr S hJ hS hJr hY T0 hT0
 have hlen : ((jF4 L).map fun x => [uq x]).length = 1 + 4 * L.length := by rw [qY, jN4]
 rw [hlen]
 have hitem : ∀ k x, (jF4 L)[k]? = some x → ((jF4 L).map fun x => [uq x])[k]? = some [uq x] := fun k x h => by rw [xZ, h]; rfl
 refine fE 34 Tryz.func168 rfl (fun w0 => jA7 (.ro g 0 [.slice A L.length cp] :: (T ++ (T0 ++ Jr))) (hV _) <| aS <| jM9 (fun Z hZ => sy_x rfl <| sM rfl rfl <| sN <| sy_x rfl <| jE0 0 rfl rfl 0 rfl tyA114 tyS114 rfl rfl <| sN ?_))
 refine sy_x rfl <| jE5 Tryz.underlying114 rfl rfl <| sN <| sy_x rfl <| jD0 Tryz.underlying3 Tryz.underlying61 rfl ((L.length : Nat) : Int) (by rw [xK _ (by omega)]) rfl ?_
 refine sN <| kH7 (.ro g 0 [.slice A L.length cp] :: T) T0 Jr Jr (hY 0 [uq L.length] T0 (hitem 0 _ rfl) hT0) rfl rfl rfl (xO _) hJr rfl ?_
 rintro v T1 ⟨b, rfl, hb1, hb2⟩
 refine sy_x rfl <| jE8 rfl rfl <| sN <| vP1 (hZ _ _ <| f3K 0 1 12 rfl <| aC0 (fun h => ?_) (fun h => ?_))
 ·have hb : b = false := by simpa using h
  refine aE ?_
  repeat (with_reducible refine nTR ?_)
  exact kA7 T1 rfl (vH1 (A := _ :: T) (hS T1 (hb2 hb))) (.inr (hb2 hb))
 have hb : b = true := by simpa using h
 have hT1 := hb1 hb
 rw [(hJ _ T1 hT1).filter]
 refine aK <| nN <| aR fun Z hZ => sMN hZ rfl rfl <| f3K 0 1 13 rfl <| aB ?_
 refine jC3 (ι := Nat × Heap) (fun i => [(0, .func (.yield l) #[] #[]), (1, ptr g 0), (13, iq (i.1 : Nat))]) (fun i => .ro g 0 [.slice A L.length cp] :: (T ++ (i.2 ++ Jr)))
  (fun i => i.1 ≤ 4 ∧ J (1 + i.1 * L.length) i.2) (fun i => 4 - i.1) (0, T1) ⟨by simp, by simpa using hT1⟩ (kR rfl) (hV _) ?_
 rintro ⟨c, T2⟩ ⟨hc, hT2⟩
 simp only at hc hT2
 refine aR (fun Z hZ => jB0 ?_)
 refine sN (hZ _ _ <| f4K 0 1 13 14 rfl <| aS (aC0 (fun h => ?_) (fun h => ?_)))
 ·have hc4 : c < 4 := by simp at h; omega
  refine aK <| nN <| aS (aB <| aR fun Z hZ => sM rfl rfl <| sAN hZ rfl rfl <| f4K 0 1 3 13 rfl <| aR (fun Z hZ => sAl tyZ182 rfl (fun g1 => sN (hZ _ _ <| f5K 0 1 3 4 13 rfl <| aR (fun Z hZ => ?_)))))
  refine jE0 1 rfl rfl 0 rfl tyA114 tyS114 rfl rfl <| jE5 Tryz.underlying114 rfl rfl <| sMN hZ rfl rfl <| f8K 0 1 3 4 13 16 17 18 rfl <| aB ?_
  refine jC3 (ι := Nat × Heap) (fun i => [(0, .func (.yield l) #[] #[]), (1, ptr g 0), (3, iq (c : Nat)), (4, ptr g1 0), (13, iq (c : Nat)), (16, .slice A L.length cp), (17, iq (L.length : Nat)), (18, iq (i.1 : Nat))]) (fun i => .own g1 182 (jI4 L i.1).cells :: .ro g 0 [.slice A L.length cp] :: (T ++ (i.2 ++ Jr)))
   (fun i => i.1 ≤ L.length ∧ J (1 + c * L.length + i.1) i.2) (fun i => L.length - i.1) (0, T2) ⟨by simp, by simpa using hT2⟩ (kR rfl) (hV _) ?_
  rintro ⟨i, T3⟩ ⟨hi, hT3⟩
  simp only at hi hT3
  refine aR (fun Z hZ => jB0 ?_)
  refine sN (hZ _ _ <| f9K 0 1 3 4 13 16 17 18 19 rfl <| aS (aC0 (fun hh => ?_) (fun hh => ?_)))
  ·have hlt : i < L.length := by simpa using hh
   have hx := kS3 hlt
   have hxo := jX4 hE i
   have hpo := kW8 hE i
   obtain ⟨ga, o, rfl⟩ := hA (by omega)
   obtain rfl := hT (by omega)
   refine jA7 (.own g1 182 (jI4 L i).cells :: .ro g 0 [.slice (some ⟨ga, o, none⟩) L.length cp] :: .ro ga o (jA2 L) :: (T3 ++ Jr)) (hV _) <| aK <| nN <| aS (aB <| aR fun Z hZ => sM rfl rfl <| jA8 (o + i * 4) Tryz.underlying114 tyS182 rfl rfl (by omega) (by simp) rfl ?_)
   refine jE0 2 rfl rfl (i * 4) rfl tyA182 tyS182 (jK6 hx) rfl <| sAl tyZ182 rfl (fun g2 => sA rfl rfl <| sS0 0 tyS182 ?_)
   refine sN (hZ _ _ <| f10K 0 1 3 4 5 6 13 16 17 18 rfl <| aS <| jM9 (fun Z hZ => sy_x rfl <| sM rfl rfl <| sN <| sy_x rfl <| sM rfl rfl <| sN ?_))
   refine sy_x rfl <| sM rfl rfl <| sN <| sy_x rfl <| sLA0 1 tyA182 tyS182 ?_
   refine sN <| sy_x rfl <| sLA0 0 tyA182 tyS182 ?_
   refine sN <| sy_x rfl <| sCP0 (vZ0 c i (jI4 L i) (atE L i) hc4 (by omega) hpo hxo) ?_
   refine sN <| kH7 [_, _, _, _] T3 Jr Jr (hY (1 + c * L.length + i) _ T3 (hitem _ _ (vR3 hc4 hlt)) hT3) rfl rfl rfl (xO _) hJr rfl ?_
   rintro v T4 ⟨b, rfl, hb1, hb2⟩
   refine sy_x rfl <| jE8 rfl rfl <| sN <| vP1 (hZ _ _ <| f10K 0 1 3 4 6 13 16 17 18 30 rfl <| aC0 (fun h3 => ?_) (fun h3 => ?_))
   ·have hb : b = false := by simpa using h3
    refine aE ?_
    repeat (with_reducible (first | refine nTR ?_ | refine nBR ?_))
    exact kA7 T4 rfl (vH1 (A := [_, _, _, _]) (hS T4 (hb2 hb))) (.inr (hb2 hb))
   have hb : b = true := by simpa using h3
   have hT4 := hb1 hb
   rw [(hJ _ T4 hT4).filter]
   refine aK <| nN <| aG (fun Z hZ => sLA0 0 tyA182 tyS182 ?_)
   refine sS0 1 tyS182 ?_
   refine sN (hZ _ _ ?_)
   refine nF [(0, _), (1, _), (3, _), (4, _), (13, _), (16, _), (17, _), (18, _)] (kR rfl) ?_
   repeat (with_reducible refine nBN ?_)
   refine nN ?_
   refine aG (fun Z hZ => ?_)
   refine jB7 rfl rfl ((i + 1 : Nat) : Int) (by rw [lT _ (by omega)]; omega) rfl ?_
   refine sMN hZ rfl rfl <| nF [(0, _), (1, _), (3, _), (4, _), (13, _), (16, _), (17, _), (18, _)] (kR rfl) <| jC2 (i + 1, T4) ⟨by show i + 1 ≤ _; omega, hT4⟩ (by simp; omega) (kR rfl) ?_
   simp only [kQ0]
   exact kC 1 rfl
  ·refine jB5 ?_
   repeat (with_reducible refine nTE ?_)
   refine nBE ?_
   repeat (with_reducible refine nBN ?_)
   refine nN ?_
   have hie : i = L.length := by simp at hh; omega
   subst hie
   refine aG (fun Z hZ => ?_)
   refine jB7 rfl rfl ((c + 1 : Nat) : Int) (by rw [lT _ (by omega)]; omega) rfl ?_
   refine sMN hZ rfl rfl <| nF [(0, _), (1, _), (13, _)] (kR rfl) <| jC2 (c + 1, T3) ⟨by show c + 1 ≤ _; omega, ?_⟩ (by simp; omega) (kR rfl) (kC 1 rfl)
   rw [show 1 + (c + 1) * L.length = 1 + c * L.length + L.length by rw [Nat.add_mul]; omega]
   exact hT3
 ·have hc4 : c = 4 := by simp at h; omega
  subst hc4
  refine jB5 ?_
  repeat (with_reducible refine nTE ?_)
  refine nBE ?_
  exact jM8 T2 rfl (kA (((xE T2 Jr).trans (lX T _)).trans (qX _ _))) (.inl hT2)
end V
namespace V
open Go.RowKit
theorem yZ6 : ElemOk Tryz.prog 201 61 1 8 := ElemOk.mk_ (z := .int .u64 0) Tryz.underlying201 (by kernel_rfl) rfl (by omega)
theorem yP0 (l : List Nat) : (uqL l).length = l.length := by simp
def sumB (l : List Nat) : Nat := (allB l).length
theorem wE5 {xs : List Nat} {k : Nat} (h : k < xs.length) : sumB (xs.take (k + 1)) = sumB (xs.take k) + (vb xs[k]).length := by unfold sumB; rw [kN7 h]; simp
theorem wU4 (xs : List Nat) (k : Nat) : sumB (xs.take k) ≤ sumB xs := by
 have := congrArg (fun l => (allB l).length) (zZ k xs)
 simp only [allB, zI, lN] at this
 unfold sumB allB
 omega
def jK7 (L : List En) : Nat := if rowC L = 0 then sumB (jF4 L) else 0
theorem kZ0 (A : Option Addr) (c : Nat) (L : List En) (T : Heap) (hA : jK9 A L.length) (hT : 0 < L.length → T = roE A (jA2 L)) (hro : Ro T) (hL : L.length ≤ 100000) (hE : jF5 L) :
  Fn Tryz.prog 97 [.slice A L.length c] T fun v _ => v = iq (jK7 L) := by
 have hmax : L.length ≤ maxLen := by show _ ≤ 9223372036854775807; omega
 have hnl := kA9 hE (by omega)
 have hall := jS4 hnl
 have hlen := jN4 L
 refine Fn.enterM (n := 16) Tryz.func97 rfl (by kernel_rfl) rfl (fun w0 => ?_)
 refine aA rfl rfl <| f1K 0 rfl <| aS <| aR fun Z hZ => sM rfl rfl <| jD7 T (jY3 A c L T hA hT hro hmax hE) rfl (xO _) hro rfl <| jA6 ?_
 refine sN (hZ _ _ <| f2K 0 7 rfl <| aC0 (fun h => ?_) (fun h => ?_))
 ·have h0 : rowC L ≠ 0 := by simp at h; omega
  rw [show jK7 L = 0 by unfold jK7; rw [if_neg h0]]
  refine aA rfl rfl ?_
  refine f1K 2 rfl ?_
  refine aE ?_
  repeat (with_reducible refine nTR ?_)
  exact jK2 [] trivial (nR1 rfl rfl rfl)
 have h0 : rowC L = 0 := by simp at h; omega
 rw [show jK7 L = sumB (jF4 L) by unfold jK7; rw [if_pos h0]]
 refine aK <| nN <| aR (fun Z hZ => sAl tyZ3 rfl (fun g1 => ?_))
 first | refine sS10 0 tyS3 ?_
 refine sN (hZ _ _ <| f2K 0 3 rfl <| aS <| aR fun Z hZ => sM rfl rfl <| jB4 [] (.own g1 3 [iq 0] :: T) (kQ4 A L.length c) rfl (hV _) rfl ?_)
 rintro v H' ⟨g, rfl, rfl⟩
 refine jC6 (.own g1 3 [iq 0] :: .ro g 0 [.slice A L.length c] :: T) ((HLe.comm3 [_] [_] T).trans (HLe.toRo [] _)) <| sN (hZ _ _ <| f2K 3 9 rfl <| aB <| kC4 (fun k H => H = [.own g1 3 [iq (sumB ((jF4 L).take k))]]) [] (fun _ _ => False) _ (kQ3 g A c L T hA hT hL hE) rfl (fun k H h => by subst h; exact .cons rfl .nil) (fun _ _ h => h.elim) Ro.nil (fun x hx => by rcases List.mem_cons.1 hx with rfl | hx; rfl; exact hro x hx) (fun k vs h => by rw [xZ] at h; cases hk : (jF4 L)[k]? with | none => rw [hk] at h; cases h | some x => rw [hk] at h; obtain rfl := lV h; rfl) rfl rfl (by rw [lH]; exact hV _) rfl ?_ ?_ (fun _ _ _ h => h.elim))
 ·intro k vs H hk hH l w1
  subst hH
  rw [xZ] at hk
  cases hkx : (jF4 L)[k]? with
  | none => rw [hkx] at hk; cases hk
  | some x =>
   rw [hkx] at hk
   obtain rfl := lV hk
   have hlt : k < (jF4 L).length := (List.getElem?_eq_some_iff.1 hkx).1
   have hxe : (jF4 L)[k] = x := (List.getElem?_eq_some_iff.1 hkx).2
   have hx : x < 18446744073709551616 := hnl x (xN hkx)
   have hs := wE5 hlt
   rw [hxe] at hs
   have hm := wU4 (jF4 L) (k + 1)
   unfold sumB at hm hs
   refine aG (fun Z hZ => sAN hZ rfl rfl <| nF [(3, _), (4, _)] (kR rfl) <| kA8 [] Wrs.nil (hV _) fun w2 => aB <| jA7 [.own g1 3 [iq (sumB ((jF4 L).take k))]] (hV _) <| kS2 [0, 1, 2, 3] [4] jF1 (by kernel_rfl) rfl rfl (fun Z hZ => ?_))
   first | refine jA9 0 tyA3 tyS3 ?_
   refine qM rfl rfl <| jG2 (wW9 x hx) rfl rfl <| kL2 rfl rfl ((sumB ((jF4 L).take (k + 1)) : Nat) : Int) (by unfold sumB; rw [lT _ (by omega)]; omega) rfl ?_
   refine jE9 ?_
   first | refine sS10 0 tyS3 ?_
   refine sN (hZ _ _ <| nF [] (kF) <| nBN <| kE0 _ rfl (hV _))
 ·intro D H hH
  subst hH
  rw [qY, xY]
  refine nBN ?_
  with_reducible refine jO8 ?_
  refine jA7 (.ob D jK0 :: .own g1 3 [iq (sumB (jF4 L))] :: (.ro g 0 [.slice A L.length c] :: T)) (by rw [lH]; exact hV _) ?_
  refine aR (fun Z hZ => sL0 1 tyA3 tyS3 ?_)
  refine sAN hZ rfl rfl <| f1K 2 rfl <| aE <| jK2 [0] ⟨rfl, trivial⟩ (nR10 rfl)
end V
namespace V
open Go.RowKit
def encQ (L : List En) : List UInt8 × Nat := if rowC L = 0 then (if 65536 < sumB (jF4 L) then ([], 5) else (allB (jF4 L), 0)) else ([], rowC L)
theorem vA1 (L : List En) : 0 < (allB (jF4 L)).length := by
 have := vA4 L.length
 simp only [allB, jF4, x5, lN]
 omega
theorem kR4 (A : Option Addr) (c : Nat) (L : List En) (T : Heap) (hA : jK9 A L.length) (hT : 0 < L.length → T = roE A (jA2 L)) (hro : Ro T) (hL : L.length ≤ 10000) (hE : jF5 L) :
  Fn Tryz.prog 46 [.slice A L.length c] T fun v _ => v = .tuple #[.string (str (encQ L).1), iq (encQ L).2] := by
 have hmax : L.length ≤ maxLen := by show _ ≤ 9223372036854775807; omega
 have hnl := kA9 hE (by omega)
 have hall := jS4 hnl
 have hlen := jN4 L
 refine Fn.enterM (n := 25) Tryz.func46 rfl (by kernel_rfl) rfl (fun w0 => ?_)
 refine aR fun Z hZ => sA rfl rfl <| sAN hZ rfl rfl <| f1K 0 rfl <| aS <| aR fun Z hZ => sM rfl rfl <| jD7 T (jY3 A c L T hA hT hro hmax hE) rfl (xO _) hro rfl <| sAN hZ rfl rfl <| f2K 0 4 rfl <| aR fun Z hZ => sM rfl rfl <| jA6 ?_
 refine sN (hZ _ _ <| f3K 0 4 10 rfl <| aC0 (fun h => ?_) (fun h => ?_))
 ·have h0 : rowC L ≠ 0 := by simp at h; omega
  rw [show encQ L = ([], rowC L) by unfold encQ; rw [if_neg h0]]
  refine aR fun Z hZ => sM rfl rfl <| sA rfl rfl <| sAN hZ rfl rfl ?_
  refine f2K 2 3 rfl ?_
  refine aE ?_
  repeat (with_reducible refine nTR ?_)
  exact jK2 [] trivial (jF3 rfl rfl rfl rfl)
 have h0 : rowC L = 0 := by simp at h; omega
 have hsz : jK7 L = sumB (jF4 L) := by unfold jK7; rw [if_pos h0]
 refine aK <| nN <| aS <| aR fun Z hZ => sM rfl rfl <| jD7 T (kZ0 A c L T hA hT hro (by omega) hE) rfl (xO _) hro rfl ?_
 refine jC4 ?_
 refine sN (hZ _ _ <| f2K 0 14 rfl ?_)
 rw [hsz]
 refine aC0 (fun h1 => ?_) (fun h1 => ?_)
 ·have h1' : 65536 < sumB (jF4 L) := by simp at h1; omega
  rw [show encQ L = ([], 5) by unfold encQ; rw [if_pos h0, if_pos h1']]
  refine aR fun Z hZ => sA rfl rfl <| sAN hZ rfl rfl ?_
  refine f2K 2 3 rfl ?_
  refine aE ?_
  repeat (with_reducible refine nTR ?_)
  exact jK2 [] trivial (jF3 rfl rfl rfl rfl)
 have h1' : ¬ 65536 < sumB (jF4 L) := by simp at h1; omega
 rw [show encQ L = (allB (jF4 L), 0) by unfold encQ; rw [if_pos h0, if_neg h1']]
 refine aK <| nN <| aR (fun Z hZ => sAl tyZ201 rfl (fun g1 => sN (hZ _ _ <| f2K 0 5 rfl <| aS <| aR fun Z hZ => sM rfl rfl <| jB4 [] (.own g1 201 [.slice none 0 0] :: T) (kQ4 A L.length c) rfl (hV _) rfl ?_)))
 rintro v H' ⟨g, rfl, rfl⟩
 refine jC6 (.own g1 201 [.slice none 0 0] :: .ro g 0 [.slice A L.length c] :: T) ((HLe.comm3 [_] [_] T).trans (HLe.toRo [] _)) <| sN (hZ _ _ <| f2K 5 16 rfl <| aB <| kC4 (fun k H => ∃ v, RowOk v k ∧ H = .own g1 201 [v] :: rowE v 61 1 (uqL ((jF4 L).take k))) [] (fun _ _ => False) [.own g1 201 [.slice none 0 0]] (kQ3 g A c L T hA hT (by omega) hE) rfl (fun k H ⟨v, _, h⟩ => by subst h; exact .cons rfl (jL2 _ _ _ _)) (fun _ _ h => h.elim) Ro.nil (fun x hx => by rcases List.mem_cons.1 hx with rfl | hx; rfl; exact hro x hx) (fun k vs h => by rw [xZ] at h; cases hk : (jF4 L)[k]? with | none => rw [hk] at h; cases h | some x => rw [hk] at h; obtain rfl := lV h; rfl) rfl ⟨_, kI, rfl⟩ (by rw [lH]; exact hV _) rfl ?_ ?_ (fun _ _ _ h => h.elim))
 ·rintro k vs H hk ⟨v, hv, rfl⟩ l w1
  rw [xZ] at hk
  cases hkx : (jF4 L)[k]? with
  | none => rw [hkx] at hk; cases hk
  | some x =>
   rw [hkx] at hk
   obtain rfl := lV hk
   have hlt : k < (jF4 L).length := (List.getElem?_eq_some_iff.1 hkx).1
   have htk : uqL ((jF4 L).take (k + 1)) = uqL ((jF4 L).take k) ++ [uq x] := by
    rw [qC hlt, (List.getElem?_eq_some_iff.1 hkx).2]; simp
   refine aG (fun Z hZ => sAN hZ rfl rfl <| nF [(5, _), (6, _)] (kR rfl) <| kA8 [] Wrs.nil (hV _) fun w2 => aB <| jA7 (.own g1 201 [v] :: rowE v 61 1 (uqL ((jF4 L).take k))) (by rw [lH]; exact hV _) ?_)
   refine aG (fun Z hZ => ?_)
   first | refine sL0 0 tyA201 tyS201 ?_
   refine sM rfl rfl <| sBS0 Tryz.underlying201 tyS61 tyZ61 (fun g2 => ?_)
   refine jD3 [_, _] yZ6 rfl hv (by rw [yP0, xV, z8 (by omega)]; omega) rfl (fun w hw => jI0 (i := 0) (xs := [uq x]) rfl rfl hw) rfl (by show _ ≤ 9223372036854775807; omega) (by omega) (hV _) rfl (fun v2 hv2 => ?_)
   obtain ⟨g4, c4, rfl⟩ := hv2.some (by omega)
   refine sS10 1 tyS201 ?_
   refine sN (hZ _ _ <| nF [] (kF) <| nBN <| kE0 _ ⟨.slice (some ⟨g4, 0, none⟩) (k + 1) c4, RowOk.mk _ _ _, rfl⟩ (by rw [htk]; exact kC 1 rfl))
 ·rintro D H ⟨v, hv, rfl⟩
  rw [qY] at hv ⊢
  rw [xY]
  obtain ⟨gv, cv, rfl⟩ := hv.some (by omega)
  refine nBN ?_
  with_reducible refine jO8 ?_
  refine jA7 (.ob D jK0 :: .own g1 201 [.slice (some ⟨gv, 0, none⟩) (jF4 L).length cv] :: .ob gv (RowP 61 1 (jF4 L).length cv (uqL (jF4 L))) :: .ro g 0 [.slice A L.length c] :: T) (by rw [lH]; exact hV _) ?_
  refine aR (fun Z hZ => sL0 1 tyA201 tyS201 ?_)
  refine jB4 [_] (.ob D jK0 :: .own g1 201 [.slice (some ⟨gv, 0, none⟩) (jF4 L).length cv] :: .ro g 0 [.slice A L.length c] :: T) (wU3 gv cv (jF4 L) hnl (by omega)) rfl (HLe.comm3 [_, _] [_] _) rfl ?_
  rintro u H' ⟨hu, rfl⟩
  rw [jE2]
  obtain ⟨gu, cu, rfl⟩ := hu.some (vA1 L)
  refine jO9 (l := allB (jF4 L)) Tryz.underlying72 Tryz.underlying5 Tryz.underlying9 rfl (fun w hw => jS6 (i := 0) rfl hw) rfl <| sA rfl rfl <| sAN hZ rfl rfl <| f2K 2 3 rfl <| aE <| jK2 [1] ⟨rfl, trivial⟩ (jF3 rfl rfl rfl rfl)
end V
namespace V
open Go.RowKit
theorem zH5 (i : Nat) (a e : En) : numQ 0 i a e = (e.id + 18446744073709551616 - a.id) % 18446744073709551616 := by unfold numQ; rw [if_pos rfl]
theorem zH4 (i : Nat) (a e : En) : numQ 1 i a e = e.run := by unfold numQ; rw [if_neg (by decide), if_pos rfl]
theorem zH3 (i : Nat) (a e : En) : numQ 2 i a e = e.len := by unfold numQ; rw [if_neg (by decide), if_neg (by decide), if_pos rfl]
theorem zH2 (i : Nat) (a e : En) : numQ 3 i a e = if 0 < i ∧ e.off = a.next then 0 else (e.off + 1) % 18446744073709551616 := by unfold numQ; rw [if_neg (by decide), if_neg (by decide), if_neg (by decide)]
def errQ (c i : Nat) (a : En) (x : Nat) : Nat :=
 if c = 0 then (if (a.id + x) % 18446744073709551616 < x then 11 else 0)
 else if c = 1 ∨ c = 2 then (if 4294967296 ≤ x then 11 else 0)
 else if i = 0 ∧ x = 0 ∨ 0 < i ∧ 0 < x ∧ x - 1 = a.next then 4 else 0
def putQ (c : Nat) (a e : En) (x : Nat) : En :=
 if c = 0 then { e with id := (a.id + x) % 18446744073709551616 }
 else if c = 1 then { e with run := x % 4294967296 }
 else if c = 2 then { e with len := x % 4294967296 }
 else { e with off := if x = 0 then a.next else x - 1 }
theorem wK0 (e : En) : e.next < 18446744073709551616 := by simp only [En.next]; omega
theorem wI7 {c x : Nat} {a e : En} (he : e.ok) (hx : x < 18446744073709551616) : (putQ c a e x).ok := by
 obtain ⟨h1, h2, h3, h4⟩ := he
 have := wK0 a
 unfold putQ
 split
 ·exact ⟨by show _ % _ < _; omega, h2, h3, h4⟩
 split
 ·exact ⟨h1, h2, h3, by show _ % _ < _; omega⟩
 split
 ·exact ⟨h1, h2, by show _ % _ < _; omega, h4⟩
 ·exact ⟨h1, by show (if x = 0 then a.next else x - 1) < _; split <;> omega, h3, h4⟩
theorem zG1 {M : List En} {k : Nat} {e : En} (h : M[k]? = some e) (y : Nat) : (jA2 M).set (k * 4) (uq y) = jA2 (M.set k { e with id := y }) := kQ9 (x := e) (y := { e with id := y }) (j := 0) jV0 rfl (by omega) h
theorem wG4 {M : List En} {k : Nat} {e : En} (h : M[k]? = some e) (y : Nat) : (jA2 M).set (k * 4 + 1) (uq y) = jA2 (M.set k { e with off := y }) := kQ9 (x := e) (y := { e with off := y }) (j := 1) jV0 rfl (by omega) h
theorem yS0 {M : List En} {k : Nat} {e : En} (h : M[k]? = some e) (y : Nat) : (jA2 M).set (k * 4 + 2) (wq4 y) = jA2 (M.set k { e with len := y }) := kQ9 (x := e) (y := { e with len := y }) (j := 2) jV0 rfl (by omega) h
theorem yR9 {M : List En} {k : Nat} {e : En} (h : M[k]? = some e) (y : Nat) : (jA2 M).set (k * 4 + 3) (wq4 y) = jA2 (M.set k { e with run := y }) := kQ9 (x := e) (y := { e with run := y }) (j := 3) jV0 rfl (by omega) h
theorem yT4 {M : List En} {k : Nat} {e : En} (h : M[k]? = some e) : rdV false 1 (jA2 M) (k * 4) = some (uq e.id) := by have := kM7 (j := 0) jV0 h rfl; simpa using this
theorem yJ7 {M : List En} {k : Nat} {e : En} (h : M[k]? = some e) : rdV false 1 (jA2 M) (k * 4 + 1) = some (uq e.off) := kM7 (j := 1) jV0 h rfl
theorem wU0 {M : List En} {k : Nat} {e y : En} (h : M[k]? = some e) : (M.set k y)[k]? = some y := by
 have := (List.getElem?_eq_some_iff.1 h).1
 simp [this]
theorem jR1 {M : List En} {k : Nat} {e : En} (h : M[k]? = some e) {j : Nat} (hj : j < 4) : Nat.ble (k * 4 + j + 1) (jA2 M).length = true := by
 have := (List.getElem?_eq_some_iff.1 h).1
 rw [jI6]
 exact zL8 (by omega)
theorem zM7 {x : Nat} (h : x < 18446744073709551616) : IntKind.u64.wrap ((x : Int) - 1) = ((if x = 0 then 18446744073709551615 else x - 1 : Nat) : Int) := by
 have : IntKind.u64.wrap ((x : Int) - 1) = ((x : Int) - 1) % 18446744073709551616 := by simp [IntKind.wrap, IntKind.bits, IntKind.signed]
 rw [this]
 split <;> omega
theorem yP4 (x : Nat) : IntKind.u32.wrap (x : Int) = ((x % 4294967296 : Nat) : Int) := by simp [IntKind.wrap, IntKind.bits, IntKind.signed]
theorem zA0 (c i k g : Nat) (a e : En) (x : Nat) (M : List En) (hc : c < 4) (hi : i ≤ 1000000) (ha : a.ok) (hx : x < 18446744073709551616) (he : M[k]? = some e) :
  Fn Tryz.prog 181 [iq c, iq i, a.val, ptr g (k * 4), uq x] [.own g 182 (jA2 M)] fun v H' => v = iq (errQ c i a x) ∧ ∃ M' : List En, H' = [.own g 182 (jA2 M')] ∧ (errQ c i a x = 0 → M' = M.set k (putQ c a e x)) := by
 have hao := ha
 obtain ⟨a1, a2, a3, a4⟩ := ha
 have hn := wK0 a
 refine fE 79 Tryz.func181 rfl (fun w0 => aR (fun Z hZ => jB2 (fun g1 => ?_)))
 refine sAN hZ rfl rfl <| f5K 0 1 3 4 7 rfl <| aS <| aR fun Z hZ => sMN hZ rfl rfl <| f6K 0 1 3 4 7 11 rfl <| kI9 (ι := Unit) (fun _ => []) (fun _ => [.own g 182 (jA2 (M.set k (putQ c a e x)))]) (fun _ => errQ c i a x = 0) ?_ ?_
 ·refine aB <| aR (fun Z hZ => jB1 ?_)
  refine sAN hZ rfl rfl <| f7K 0 1 3 4 7 11 47 rfl <| aC0 (fun h => ?_) (fun h => ?_)
  ·have h0 : c = 0 := by simp at h; omega
   refine aR fun Z hZ => sM rfl rfl <| sFA0 jJ7 ?_
   refine sL0 0 tyA61 tyS61 ?_
   refine sM rfl rfl <| kD6 (((a.id + x) % 18446744073709551616 : Nat) : Int) (by rw [← Int.natCast_add, wX0]) ?_
   refine jA1 ?_
   refine sFA0 jJ7 ?_
   refine sS1 1 rfl rfl rfl tyS61 rfl (jR1 he (j := 0) (by omega)) (zG1 he _) rfl ?_
   refine sN (hZ _ _ <| f2K 3 4 rfl <| aR fun Z hZ => sM rfl rfl <| jA1 ?_)
   refine sFA0 jJ7 ?_
   refine sL 1 rfl rfl tyA61 tyS61 (yT4 (wU0 he)) rfl <| sM rfl rfl <| jB0 ?_
   refine sN (hZ _ _ <| f1K 61 rfl <| aC0 (fun h1 => ?_) (fun h1 => ?_))
   ·have h1' : (a.id + x) % 18446744073709551616 < x := by simp at h1; omega
    have hee : errQ c i a x = 11 := by unfold errQ; rw [if_pos h0, if_pos h1']
    rw [hee]
    refine aA rfl rfl ?_
    refine f1K 10 rfl ?_
    refine aE ?_
    repeat (with_reducible (first | refine nTR ?_ | refine nBR ?_))
    exact jD9 _ rfl rfl (pH [1] rfl) ⟨rfl, _, rfl, fun h => by cases h⟩
   ·have h1' : ¬ (a.id + x) % 18446744073709551616 < x := by simp at h1; omega
    refine aK ?_
    repeat (with_reducible refine nBN ?_)
    refine jJ9 () (by unfold errQ; rw [if_pos h0, if_neg h1']) kF ?_
    rw [show putQ c a e x = { e with id := (a.id + x) % 18446744073709551616 } by unfold putQ; rw [if_pos h0]]
    exact pH [1] rfl
  have h0 : c ≠ 0 := by simp at h; omega
  refine kN5 (ι := Unit) (fun _ => [(0, iq c), (1, iq i), (3, ptr g (k * 4)), (4, uq x), (7, ptr g1 0), (62, .bool (decide (c = 1 ∨ c = 2)))]) (fun _ => [.own g1 182 a.cells, .own g 182 (jA2 M)]) (fun _ => True) ?_ ?_
  ·refine aR (fun Z hZ => jB1 ?_)
   refine sAN hZ rfl rfl <| f7K 0 1 3 4 7 11 62 rfl <| aC0 (fun h1 => ?_) (fun h1 => ?_)
   ·have h1' : c = 1 := by simp at h1; omega
    refine aK <| jJ9 () trivial (kE rfl (kE rfl (kE rfl (kE rfl (kE rfl (kE (congrArg some (congrArg Value.bool (by rw [lS]; simp; omega))) kF)))))) (hV _)
   ·have h1' : c ≠ 1 := by simp at h1; omega
    refine aG (fun Z hZ => jB1 ?_)
    refine sAN hZ rfl rfl <| nF [(0, _), (1, _), (3, _), (4, _), (7, _), (62, _)] (kR rfl) <| jJ9 () trivial (kE rfl (kE rfl (kE rfl (kE rfl (kE rfl (kE (congrArg some (congrArg Value.bool (by rw [lS]; simp; omega))) kF)))))) (hV _)
  rintro ⟨⟩ -
  refine aC0 (fun h2 => ?_) (fun h2 => ?_)
  ·have h2' : c = 1 ∨ c = 2 := by simpa using h2
   refine aS <| aR fun Z hZ => sM rfl rfl <| jH7 rfl rfl rfl <| sN (hZ _ _ <| f4K 0 3 4 66 rfl <| aC0 (fun h3 => ?_) (fun h3 => ?_))
   ·have h3' : 4294967296 ≤ x := by simp at h3; omega
    have hee : errQ c i a x = 11 := by unfold errQ; rw [if_neg h0, if_pos h2', if_pos h3']
    rw [hee]
    refine aA rfl rfl ?_
    refine f1K 10 rfl ?_
    refine aE ?_
    repeat (with_reducible (first | refine nTR ?_ | refine nBR ?_))
    exact jD9 _ rfl rfl (pH [1] rfl) ⟨rfl, _, rfl, fun h => by cases h⟩
   have h3' : ¬ 4294967296 ≤ x := by simp at h3; omega
   have hee : errQ c i a x = 0 := by unfold errQ; rw [if_neg h0, if_pos h2', if_neg h3']
   refine aK <| nN <| aR fun Z hZ => sM rfl rfl <| jB1 ?_
   refine sN (hZ _ _ <| f3K 3 4 68 rfl <| aC0 (fun h4 => ?_) (fun h4 => ?_))
   ·have h4' : c = 1 := by simp at h4; omega
    refine aG (fun Z hZ => sM rfl rfl <| sM rfl rfl <| jD0 Tryz.underlying61 Tryz.underlying180 rfl ((x % 4294967296 : Nat) : Int) (yP4 x) rfl <| jA1 ?_)
    refine sFA0 jM4 ?_
    refine sS1 1 rfl rfl rfl tyS180 rfl (jR1 he (j := 3) (by omega)) (yR9 he _) rfl ?_
    refine sN (hZ _ _ ?_)
    refine nF [] (kF) ?_
    repeat (with_reducible refine nBN ?_)
    refine jJ9 () hee kF ?_
    rw [show putQ c a e x = { e with run := x % 4294967296 } by unfold putQ; rw [if_neg h0, if_pos h4']]
    exact pH [1] rfl
   ·have h4' : c ≠ 1 := by simp at h4; omega
    refine aG (fun Z hZ => sM rfl rfl <| sM rfl rfl <| jD0 Tryz.underlying61 Tryz.underlying180 rfl ((x % 4294967296 : Nat) : Int) (yP4 x) rfl <| jA1 ?_)
    refine sFA0 jJ6 ?_
    refine sS1 1 rfl rfl rfl tyS180 rfl (jR1 he (j := 2) (by omega)) (yS0 he _) rfl ?_
    refine sN (hZ _ _ ?_)
    refine nF [] (kF) ?_
    repeat (with_reducible refine nBN ?_)
    refine jJ9 () hee kF ?_
    rw [show putQ c a e x = { e with len := x % 4294967296 } by unfold putQ; rw [if_neg h0, if_neg h4', if_pos (by omega)]]
    exact pH [1] rfl
  have h2' : ¬ (c = 1 ∨ c = 2) := by simpa using h2
  have hput : putQ c a e x = { e with off := if x = 0 then a.next else x - 1 } := by unfold putQ; rw [if_neg h0, if_neg (by omega), if_neg (by omega)]
  obtain ⟨z, hz⟩ := xZ9 ((if x = 0 then 18446744073709551615 else x - 1))
  have hzx : x = 0 ∨ z + 1 = x := by rw [← hz]; split <;> omega
  have e1 : (M.set k { e with off := z })[k]? = some { e with off := z } := wU0 he
  refine aR fun Z hZ => sM rfl rfl <| sM rfl rfl <| jN0 rfl rfl ((z : Nat) : Int) (by rw [zM7 hx, hz]) rfl ?_
  refine jA1 ?_
  refine sFA0 jH0 ?_
  refine sS1 1 rfl rfl rfl tyS61 rfl (jR1 he (j := 1) (by omega)) (wG4 he _) rfl ?_
  refine sN (hZ _ _ <| f4K 1 3 4 7 rfl ?_)
  clear hz
  refine aS <| jF0 [(3, ptr g (k * 4)), (4, uq x), (7, ptr g1 0), (39, .bool (decide (i = 0 ∧ x = 0 ∨ 0 < i ∧ 0 < x ∧ x - 1 = a.next)))] [.own g1 182 a.cells, .own g 182 (jA2 (M.set k { e with off := z }))] jF1 (by kernel_rfl) (fun Z hZ => ?_) ?_
  ·refine qM rfl rfl <| jP1 rfl rfl rfl <| qM rfl rfl <| jK3 19 rfl (fun hb2 => ?_) (fun hb2 => ?_)
   ·refine jA4 ?_
    refine qM rfl rfl <| jA4 ?_
    refine jP1 rfl rfl rfl <| jE1 rfl rfl rfl <| qM rfl rfl <| jK3 23 rfl (fun hb6 => ?_) (fun hb6 => ?_)
    ·refine qO0 ?_
     refine qO0 ?_
     refine qO0 ?_
     refine jR7 rfl rfl rfl rfl <| jR7 rfl rfl rfl rfl <| qO0 ?_
     refine qO0 ?_
     refine jR7 rfl rfl rfl rfl <| jR7 rfl rfl rfl rfl <| jR7 rfl rfl rfl rfl <| jR7 rfl rfl rfl rfl <| jR7 rfl rfl rfl rfl <| jR7 rfl rfl rfl rfl <| jR7 rfl rfl rfl rfl <| qO0 ?_
     refine jE1 rfl rfl rfl <| jE9 (hZ _ _ ?_ ?_)
     ·exact kE rfl (kE rfl (kE rfl (kE (congrArg some (congrArg Value.bool (by first | (simp at *; done) | (simp at *; omega) | (simp at *; rw [lS]; simp; omega)))) kF)))
     ·exact hV _
    ·refine jA4 ?_
     refine qM rfl rfl <| jA4 ?_
     refine kP6 rfl rfl rfl <| jA4 ?_
     refine qM rfl rfl <| jK3 26 rfl (fun hb9 => ?_) (fun hb9 => ?_)
     ·refine jA4 ?_
      refine qM rfl rfl <| jA4 ?_
      refine kP6 rfl rfl rfl <| jA4 ?_
      refine jE1 rfl rfl rfl <| jA4 ?_
      refine qM rfl rfl <| jK3 30 rfl (fun hb13 => ?_) (fun hb13 => ?_)
      ·refine jA4 ?_
       refine qM rfl rfl <| jA4 ?_
       refine jC7 rfl rfl <| jA4 ?_
       refine qFA0 jH0 ?_
       refine jA4 ?_
       refine kV7 1 rfl rfl tyA61 tyS61 (yJ7 e1) rfl <| jA4 ?_
       refine jM6 0 rfl rfl tyA182 tyS182 rfl (by simp only [qS]; rfl) rfl ?_
       refine jA4 ?_
       refine jG2 (kI6 a hao) rfl rfl <| jA4 ?_
       refine jP1 rfl rfl rfl <| jA4 ?_
       refine jE1 rfl rfl rfl <| jE1 rfl rfl rfl <| jE9 (hZ _ _ ?_ ?_)
       ·exact kE rfl (kE rfl (kE rfl (kE (congrArg some (congrArg Value.bool (by first | (simp at *; done) | (simp at *; omega) | (simp at *; rw [lS]; simp; omega)))) kF)))
       ·exact hV _
      ·refine qO0 ?_
       refine qO0 ?_
       refine qO0 ?_
       refine qO0 ?_
       refine qO0 ?_
       refine qO0 ?_
       refine qO0 ?_
       refine jA4 ?_
       refine jE1 rfl rfl rfl <| jE1 rfl rfl rfl <| jE9 (hZ _ _ ?_ ?_)
       ·exact kE rfl (kE rfl (kE rfl (kE (congrArg some (congrArg Value.bool (by first | (simp at *; done) | (simp at *; omega) | (simp at *; rw [lS]; simp; omega)))) kF)))
       ·exact hV _
     ·refine qO0 ?_
      refine qO0 ?_
      refine jA4 ?_
      refine jE1 rfl rfl rfl <| jA4 ?_
      refine qM rfl rfl <| qO0 ?_
      refine qO0 ?_
      refine qO0 ?_
      refine qO0 ?_
      refine qO0 ?_
      refine qO0 ?_
      refine qO0 ?_
      refine jA4 ?_
      refine jE1 rfl rfl rfl <| jE1 rfl rfl rfl <| jE9 (hZ _ _ ?_ ?_)
      ·exact kE rfl (kE rfl (kE rfl (kE (congrArg some (congrArg Value.bool (by first | (simp at *; done) | (simp at *; omega) | (simp at *; rw [lS]; simp; omega)))) kF)))
      ·exact hV _
   ·refine qO0 ?_
    refine qO0 ?_
    refine jE1 rfl rfl rfl <| qM rfl rfl <| jA4 ?_
    refine qM rfl rfl <| jA4 ?_
    refine kP6 rfl rfl rfl <| jA4 ?_
    refine qM rfl rfl <| jK3 26 rfl (fun hb9 => ?_) (fun hb9 => ?_)
    ·refine jA4 ?_
     refine qM rfl rfl <| jA4 ?_
     refine kP6 rfl rfl rfl <| jA4 ?_
     refine jE1 rfl rfl rfl <| jA4 ?_
     refine qM rfl rfl <| jK3 30 rfl (fun hb13 => ?_) (fun hb13 => ?_)
     ·refine jA4 ?_
      refine qM rfl rfl <| jA4 ?_
      refine jC7 rfl rfl <| jA4 ?_
      refine qFA0 jH0 ?_
      refine jA4 ?_
      refine kV7 1 rfl rfl tyA61 tyS61 (yJ7 e1) rfl <| jA4 ?_
      refine jM6 0 rfl rfl tyA182 tyS182 (by simp only [qS, Nat.reduceAdd]; rfl) (by simp only [qS]; rfl) rfl ?_
      refine jA4 ?_
      refine jG2 (kI6 a hao) rfl rfl <| jA4 ?_
      refine jP1 rfl rfl rfl <| jA4 ?_
      refine jE1 rfl rfl rfl <| jE1 rfl rfl rfl <| jE9 (hZ _ _ ?_ ?_)
      ·exact kE rfl (kE rfl (kE rfl (kE (congrArg some (congrArg Value.bool (by first | (simp at *; done) | (simp at *; omega) | (simp at *; rw [lS]; simp; omega)))) kF)))
      ·exact hV _
     ·refine qO0 ?_
      refine qO0 ?_
      refine qO0 ?_
      refine qO0 ?_
      refine qO0 ?_
      refine qO0 ?_
      refine qO0 ?_
      refine jA4 ?_
      refine jE1 rfl rfl rfl <| jE1 rfl rfl rfl <| jE9 (hZ _ _ ?_ ?_)
      ·exact kE rfl (kE rfl (kE rfl (kE (congrArg some (congrArg Value.bool (by first | (simp at *; done) | (simp at *; omega) | (simp at *; rw [lS]; simp; omega)))) kF)))
      ·exact hV _
    ·refine qO0 ?_
     refine qO0 ?_
     refine jA4 ?_
     refine jE1 rfl rfl rfl <| jA4 ?_
     refine qM rfl rfl <| qO0 ?_
     refine qO0 ?_
     refine qO0 ?_
     refine qO0 ?_
     refine qO0 ?_
     refine qO0 ?_
     refine qO0 ?_
     refine jA4 ?_
     refine jE1 rfl rfl rfl <| jE1 rfl rfl rfl <| jE9 (hZ _ _ ?_ ?_)
     ·exact kE rfl (kE rfl (kE rfl (kE (congrArg some (congrArg Value.bool (by first | (simp at *; done) | (simp at *; omega) | (simp at *; rw [lS]; simp; omega)))) kF)))
     ·exact hV _
  refine aC0 (fun h3 => ?_) (fun h3 => ?_)
  ·have h3' : i = 0 ∧ x = 0 ∨ 0 < i ∧ 0 < x ∧ x - 1 = a.next := by simpa using h3
   have hee : errQ c i a x = 4 := by unfold errQ; rw [if_neg h0, if_neg h2', if_pos h3']
   rw [hee]
   refine aA rfl rfl ?_
   refine f1K 10 rfl ?_
   refine aE ?_
   repeat (with_reducible (first | refine nTR ?_ | refine nBR ?_))
   exact jD9 _ rfl rfl (pH [1] rfl) ⟨rfl, _, rfl, fun h => by cases h⟩
  have h3' : ¬ (i = 0 ∧ x = 0 ∨ 0 < i ∧ 0 < x ∧ x - 1 = a.next) := by simpa using h3
  have hee : errQ c i a x = 0 := by unfold errQ; rw [if_neg h0, if_neg h2', if_neg h3']
  rw [hput]
  refine aK <| nN <| aR fun Z hZ => sM rfl rfl <| jB1 ?_
  refine sN (hZ _ _ <| f3K 3 7 41 rfl <| aC0 (fun h4 => ?_) (fun h4 => ?_))
  ·have h4' : x = 0 := by simp at h4; omega
   rw [if_pos h4']
   refine aG (fun Z hZ => sM rfl rfl <| sLA0 0 tyA182 tyS182 ?_)
   refine sCP0 (kI6 a hao) ?_
   refine jA1 ?_
   refine sFA0 jH0 ?_
   refine sS1 1 rfl rfl rfl tyS61 rfl (jR1 e1 (j := 1) (by omega)) (wG4 e1 _) rfl ?_
   refine sN (hZ _ _ ?_)
   refine nF [] (kF) ?_
   repeat (with_reducible refine nBN ?_)
   refine jJ9 () hee kF ?_
   rw [List.set_set]
   exact pH [1] rfl
  ·have h4' : x ≠ 0 := by simp at h4; omega
   rw [if_neg h4', show x - 1 = z by omega]
   refine aK ?_
   repeat (with_reducible refine nBN ?_)
   exact jJ9 () hee kF (pH [1] rfl)
 ·rintro ⟨⟩ hee
  refine nN ?_
  rw [hee]
  refine aA rfl rfl <| f1K 10 rfl <| aE <| jD9 _ rfl rfl (hV _) ⟨rfl, _, rfl, fun _ => rfl⟩
end V
namespace V
open Go.RowKit
end V
namespace V
open Go.RowKit
def decG (s : List UInt8) : Nat → Nat → List En → Nat → List En × Nat × Nat
 | 0, _, L, p => if p < s.length then ([], p, 4) else if rowC L ≠ 0 then ([], s.length, rowC L) else (L, s.length, 0)
 | k + 1, j, L, p =>
  if (getQ s p).2.2 ≠ 0 then ([], p, (getQ s p).2.2)
  else if errQ (j / L.length) (j % L.length) (jI4 L (j % L.length)) (getQ s p).1 ≠ 0 then ([], p, errQ (j / L.length) (j % L.length) (jI4 L (j % L.length)) (getQ s p).1)
  else decG s k (j + 1) (L.set (j % L.length) (putQ (j / L.length) (jI4 L (j % L.length)) (atE L (j % L.length)) (getQ s p).1)) (getQ s p).2.1
def decQ (s : List UInt8) : List En × Nat × Nat :=
 if 65536 < s.length then ([], 0, 5) else if (getQ s 0).2.2 ≠ 0 then ([], 0, (getQ s 0).2.2)
 else if 4096 < (getQ s 0).1 then ([], 0, 21) else decG s (4 * (getQ s 0).1) 0 (List.replicate (getQ s 0).1 zeroEn) (getQ s 0).2.1
theorem jW2 (s : List UInt8) (p : Nat) (hp : p ≤ s.length) : (getQ s p).1 < 18446744073709551616 ∧ (getQ s p).2.1 ≤ s.length ∧ (getQ s p).2.2 ≤ 11 := by
 unfold getQ
 have hl : (s.drop p).length = s.length - p := qF
 by_cases h : (jG0 (s.drop p)).1 = 0
 ·rw [if_pos h]
  obtain ⟨h1, h2, h3, h4⟩ := wW1 h
  refine ⟨?_, ?_, by show 0 ≤ 11; omega⟩
  ·show valL _ < _
   rw [h1]
   have := kT6 (t := s.drop p) (k := cnt 10 (s.drop p)) (by omega) h3 h4
   omega
  ·show p + _ ≤ _
   rw [h1]
   omega
 ·rw [if_neg h]
  refine ⟨by show 0 < _; omega, hp, ?_⟩
  show (jG0 _).1 ≤ 11
  unfold jG0
  split
  ·exact xP _
  split
  ·show 3 ≤ 11; omega
  split
  ·exact xP _
  split
  ·show 4 ≤ 11; omega
  ·show 0 ≤ 11; omega
theorem wR1 (s : List UInt8) (j : Nat) (L : List En) (p : Nat) : decG s 0 j L p = if p < s.length then ([], p, 4) else if rowC L ≠ 0 then ([], s.length, rowC L) else (L, s.length, 0) := rfl
theorem yL9 {s : List UInt8} {k j c i n : Nat} {L : List En} {p x q : Nat} (hn : L.length = n) (hj : j = c * n + i) (hi : i < n) (hg : getQ s p = (x, q, 0)) :
  decG s (k + 1) j L p = if errQ c i (jI4 L i) x ≠ 0 then ([], p, errQ c i (jI4 L i) x) else decG s k (j + 1) (L.set i (putQ c (jI4 L i) (atE L i) x)) q := by
 have h1 : j / n = c := by rw [hj, qU, Nat.mul_add_div (by omega), Nat.div_eq_of_lt hi, lM]
 have h2 : j % n = i := by rw [hj, qU, Nat.mul_add_mod, zX hi]
 rw [decG, hg, hn, h1, h2]
 simp only [ne_eq, not_true_eq_false, if_false]
theorem zK5 {s : List UInt8} {k j : Nat} {L : List En} {p x q e : Nat} (hg : getQ s p = (x, q, e)) (he : e ≠ 0) : decG s (k + 1) j L p = ([], p, e) := by
 rw [decG, hg]
 simp only [ne_eq, he, not_false_eq_true, if_true]
theorem vT3 (n : Nat) : jF5 (List.replicate n zeroEn) := fun e he => by rw [(List.mem_replicate.1 he).2]; exact vH0
theorem wQ0 {L : List En} {i : Nat} {y : En} (h : jF5 L) (hy : y.ok) : jF5 (L.set i y) := fun e he => by
 rcases List.mem_or_eq_of_mem_set he with h1 | rfl
 ·exact h e h1
 ·exact hy
theorem vM3 (n : Nat) : (List.replicate n ([uq 0, uq 0, wq4 0, wq4 0] : List Value)).flatten = jA2 (List.replicate n zeroEn) := by
 simp only [jA2, List.flatMap, List.map_replicate]
 rfl
theorem vN8 (s : List UInt8) (p x q e : Nat) (hp : p ≤ s.length) (hs : s.length ≤ 1000000) (hg : getQ s p = (x, q, e)) : Fn Tryz.prog 180 [.agg #[.string (str s), iq p, iq 0]] [] fun v _ => v = .tuple #[uq x, .agg #[.string (str s), iq q, iq e]] := by
 have h := yO6 s p hp hs
 rw [hg] at h
 exact h
theorem kR5 (s : List UInt8) (hs : s.length ≤ 1000000) :
  Fn Tryz.prog 110 [.string (str s)] [] fun v H' => ∃ u, v = .tuple #[u, iq (decQ s).2.1, iq (decQ s).2.2] ∧ RowOk u (decQ s).1.length ∧ H' = rowE u 182 4 (jA2 (decQ s).1) := by
 refine fE 92 Tryz.func110 rfl (fun w0 => aR fun Z hZ => sA rfl rfl <| sA rfl rfl <| sAN hZ rfl rfl <| f1K 0 rfl <| aS <| aR fun Z hZ => sM rfl rfl <| jC8 Tryz.underlying9 rfl rfl <| jC4 ?_)
 refine sN (hZ _ _ <| f2K 0 17 rfl <| aC0 (fun h => ?_) (fun h => ?_))
 ·have h0 : 65536 < s.length := by simp at h; omega
  rw [show decQ s = ([], 0, 5) by unfold decQ; rw [if_pos h0]]
  refine aR fun Z hZ => sA rfl rfl <| sA rfl rfl <| sAN hZ rfl rfl ?_
  refine f3K 2 3 4 rfl ?_
  refine aE ?_
  repeat (with_reducible refine nTR ?_)
  exact jF8 [] rfl rfl rfl rfl (kA (lO _)) ⟨_, rfl, kI, rfl⟩
 have h0 : ¬ 65536 < s.length := by simp at h; omega
 refine aK <| nN ?_
 obtain ⟨n, p0, e0, hg0⟩ : ∃ n p0 e0, getQ s 0 = (n, p0, e0) := ⟨_, _, _, rfl⟩
 obtain ⟨f1, f2, f3⟩ := jW2 s 0 (by omega)
 rw [hg0] at f1 f2 f3
 simp only at f1 f2 f3
 refine aR fun Z hZ => sM rfl rfl <| jB6 tyZ317 tyP317 ?_
 refine sCP0 (vN8 s 0 n p0 e0 (by omega) hs hg0) ?_
 refine sM rfl rfl <| sX rfl rfl rfl <| sX rfl rfl rfl <| sAl tyZ317 rfl (fun g1 => sA rfl rfl ?_)
 first | refine sS0 0 tyS317 ?_
 refine sN (hZ _ _ <| f3K 0 5 6 rfl <| aS (aB <| aR (fun Z hZ => sFA0 jV4 ?_)))
 first | refine sL0 0 tyA30 tyS30 ?_
 refine jA6 ?_
 refine sAN hZ rfl rfl <| f4K 0 5 6 24 rfl <| aC0 (fun h1 => ?_) (fun h1 => ?_)
 ·have he : e0 ≠ 0 := by simp at h1; omega
  rw [show decQ s = ([], 0, e0) by unfold decQ; rw [if_neg h0, hg0, if_pos he]]
  refine jC1 jF1 (by kernel_rfl) (fun Z hZ => ?_)
  refine qFA0 jV4 ?_
  first | refine jA9 0 tyA30 tyS30 ?_
  refine jB8 rfl rfl ?_
  refine jB8 rfl rfl ?_
  refine jB8 rfl rfl ?_
  refine jE9 (hZ _ _ ?_)
  refine f3K 2 3 4 rfl ?_
  refine aE ?_
  repeat (with_reducible (first | refine nTR ?_ | refine nBR ?_))
  exact jF8 [] rfl rfl rfl rfl (kA (lO _)) ⟨_, rfl, kI, rfl⟩
 have he : e0 = 0 := by simp at h1; omega
 subst he
 refine aR fun Z hZ => sM rfl rfl <| jC4 ?_
 refine sAN hZ rfl rfl <| f4K 0 5 6 30 rfl <| aC0 (fun h2 => ?_) (fun h2 => ?_)
 ·have hn : 4096 < n := by simp at h2; omega
  rw [show decQ s = ([], 0, 21) by unfold decQ; rw [if_neg h0, hg0, if_neg (by simp), if_pos hn]]
  refine aR fun Z hZ => sA rfl rfl <| sA rfl rfl <| sAN hZ rfl rfl ?_
  refine f3K 2 3 4 rfl ?_
  refine aE ?_
  repeat (with_reducible (first | refine nTR ?_ | refine nBR ?_))
  exact jF8 [] rfl rfl rfl rfl (kA (lO _)) ⟨_, rfl, kI, rfl⟩
 have hn : n ≤ 4096 := by simp at h2; omega
 have hD : decQ s = decG s (4 * n) 0 (List.replicate n zeroEn) p0 := by unfold decQ; rw [if_neg h0, hg0, if_neg (by simp), if_neg (by simp; omega)]
 rw [hD]
 obtain ⟨D, hDD⟩ := xZ9 (decG s (4 * n) 0 (List.replicate n zeroEn) p0)
 rw [hDD]
 refine aK ?_
 repeat (with_reducible refine nBN ?_)
 refine nN ?_
 refine aR fun Z hZ => sM rfl rfl ?_
 refine vB5 (zs := [uq 0, uq 0, wq4 0, wq4 0]) (bytes := 24) (size := 4) (z := .agg #[uq 0, uq 0, wq4 0, wq4 0]) Tryz.underlying114 (by kernel_rfl) rfl rfl rfl rfl (by omega) (by show _ ≤ 9223372036854775807; omega) rfl (fun ga => ?_)
 rw [vM3]
 refine sAN hZ rfl rfl <| f3K 0 6 7 rfl <| aS <| aR fun Z hZ => sMN hZ rfl rfl <| f4K 0 6 7 35 rfl <| aB ?_
 refine jC3 (ι := Nat × List En × Nat) (fun i => [(0, .string (str s)), (6, ptr g1 0), (7, .slice (some ⟨ga, 0, none⟩) n n), (35, iq (i.1 : Nat))]) (fun i => [.own ga 182 (jA2 i.2.1), .own g1 317 [.string (str s), iq (i.2.2 : Nat), iq 0]])
  (fun i => i.1 ≤ 4 ∧ i.2.1.length = n ∧ jF5 i.2.1 ∧ i.2.2 ≤ s.length ∧ decG s (4 * n - i.1 * n) (i.1 * n) i.2.1 i.2.2 = D) (fun i => 4 - i.1) (0, List.replicate n zeroEn, p0) ⟨by simp, by simp, vT3 n, f2, by simpa using hDD⟩ (kR rfl) (hV _) ?_
 rintro ⟨c, M, p⟩ ⟨hc, hM, hE, hp, hq⟩
 simp only at hc hM hE hp hq
 refine aR (fun Z hZ => jB0 ?_)
 refine sN (hZ _ _ <| f5K 0 6 7 35 36 rfl <| aS (aC0 (fun h3 => ?_) (fun h3 => ?_)))
 ·have hc4 : c < 4 := by simp at h3; omega
  have hcn : c * n ≤ 3 * n := z7 _ (by omega)
  refine aK <| nN <| aS (aB <| aR fun Z hZ => sM rfl rfl <| sAN hZ rfl rfl <| f5K 0 6 7 8 35 rfl <| aR (fun Z hZ => sAl tyZ182 rfl (fun g2 => sN (hZ _ _ <| f6K 0 6 7 8 9 35 rfl <| aR fun Z hZ => sM rfl rfl ?_))))
  refine jE5 Tryz.underlying114 rfl rfl <| sMN hZ rfl rfl <| f8K 0 6 7 8 9 35 39 40 rfl <| aB ?_
  refine jC3 (ι := Nat × List En × Nat) (fun i => [(0, .string (str s)), (6, ptr g1 0), (7, .slice (some ⟨ga, 0, none⟩) n n), (8, iq (c : Nat)), (9, ptr g2 0), (35, iq (c : Nat)), (39, iq (n : Nat)), (40, iq (i.1 : Nat))]) (fun i => [.own g2 182 (jI4 i.2.1 i.1).cells, .own ga 182 (jA2 i.2.1), .own g1 317 [.string (str s), iq (i.2.2 : Nat), iq 0]])
   (fun i => i.1 ≤ n ∧ i.2.1.length = n ∧ jF5 i.2.1 ∧ i.2.2 ≤ s.length ∧ decG s (4 * n - (c * n + i.1)) (c * n + i.1) i.2.1 i.2.2 = D) (fun i => n - i.1) (0, M, p) ⟨by simp, hM, hE, hp, hq⟩ (kR rfl) (hV _) ?_
  rintro ⟨i, M, p⟩ ⟨hi, hM, hE, hp, hq⟩
  simp only at hi hM hE hp hq
  refine aR (fun Z hZ => jB0 ?_)
  refine sN (hZ _ _ <| f9K 0 6 7 8 9 35 39 40 41 rfl <| aS (aC0 (fun h4 => ?_) (fun h4 => ?_)))
  ·have hlt : i < n := by simpa using h4
   have hat := kS3 (L := M) (i := i) (by omega)
   have hpo := kW8 hE i
   have hao := jX4 hE i
   obtain ⟨x, q, e, hg⟩ : ∃ x q e, getQ s p = (x, q, e) := ⟨_, _, _, rfl⟩
   obtain ⟨g1', g2', g3'⟩ := jW2 s p hp
   rw [hg] at g1' g2' g3'
   simp only at g1' g2' g3'
   obtain ⟨m, hm⟩ : ∃ m, 4 * n - (c * n + i) = m + 1 := ⟨4 * n - (c * n + i) - 1, by omega⟩
   rw [hm] at hq
   refine aK <| nN <| aS (aB <| aR fun Z hZ => sM rfl rfl <| sAN hZ rfl rfl <| f9K 0 6 7 8 9 10 35 39 40 rfl <| aR (fun Z hZ => sLA0 2 tyA317 tyS317 ?_))
   refine sCP0 (vN8 s p x q e hp hs hg) ?_
   refine sM rfl rfl <| sX rfl rfl rfl <| sX rfl rfl rfl <| sAl tyZ317 rfl (fun g3 => sA rfl rfl <| sS0 0 tyS317 ?_)
   refine sN (hZ _ _ <| f11K 0 6 7 8 9 10 11 12 35 39 40 rfl <| aS <| aR (fun Z hZ => sFA0 jV4 ?_))
   refine sL0 0 tyA30 tyS30 ?_
   refine jA6 ?_
   refine sN (hZ _ _ <| f12K 0 6 7 8 9 10 11 12 35 39 40 50 rfl <| aC0 (fun h5 => ?_) (fun h5 => ?_))
   ·have he : e ≠ 0 := by simp at h5; omega
    rw [zK5 hg he] at hq
    rw [← hq]
    refine jC1 jF1 (by kernel_rfl) (fun Z hZ => ?_)
    refine qFA0 jN8 ?_
    refine jA9 3 tyA3 tyS3 ?_
    refine qFA0 jV4 ?_
    refine jA9 0 tyA30 tyS30 ?_
    refine jB8 rfl rfl ?_
    refine jB8 rfl rfl ?_
    refine jB8 rfl rfl ?_
    refine jE9 (hZ _ _ ?_)
    refine f3K 2 3 4 rfl ?_
    refine aE ?_
    repeat (with_reducible (first | refine nTR ?_ | refine nBR ?_))
    exact jF8 [] rfl rfl rfl rfl (kA (lO _)) ⟨_, rfl, kI, rfl⟩
   have he : e = 0 := by simp at h5; omega
   subst he
   rw [yL9 hM rfl hlt hg] at hq
   refine aK <| nN <| aS <| jD5 _ [(0, true), (1, true), (2, true), (3, true), (4, true), (5, true), (6, true), (7, false), (8, true)] jF1 (by kernel_rfl) (HLe.pick [1] (by simp) (by simp only [pick, l8, qS]; rfl)) (fun Z hZ => ?_)
   refine tw_p rfl <| jA5 ?_
   refine vN <| tw_p rfl <| jA5 ?_
   refine vN <| tw_p rfl ?_
   first | refine jL1 0 rfl rfl tyA182 tyS182 rfl (by simp only [qS]; rfl) rfl ?_
   refine vN <| tw_p rfl <| jA5 ?_
   refine vN <| tw_p rfl <| jA5 ?_
   refine vN <| tw_p rfl <| jH4 (i * 4) Tryz.underlying114 tyS182 rfl rfl (by omega) (by simp) rfl ?_
   refine vN <| tw_p rfl <| jA5 ?_
   refine vN <| tw_g rfl <| jB4 [_] [_, _, _] (zA0 c i i ga (jI4 M i) (atE M i) x M hc4 (by omega) hpo g1' hat) rfl (pH [2, 1, 0, 3] rfl) rfl ?_
   rintro v H' ⟨rfl, M', rfl, hM'⟩
   refine sN ⟨pH [1] rfl, ?_⟩
   refine tw_p rfl <| jE3 rfl rfl <| vN <| jH1 (hZ _ _ <| f11K 0 6 7 8 9 10 12 13 35 39 40 rfl <| aR fun Z hZ => sM rfl rfl <| jA6 ?_)
   refine sN (hZ _ _ <| f12K 0 6 7 8 9 10 12 13 35 39 40 64 rfl <| aC0 (fun h6 => ?_) (fun h6 => ?_))
   ·have he : errQ c i (jI4 M i) x ≠ 0 := by simp at h6; omega
    rw [if_pos he] at hq
    rw [← hq]
    refine jC1 jF1 (by kernel_rfl) (fun Z hZ => ?_)
    refine qFA0 jN8 ?_
    refine jA9 3 tyA3 tyS3 ?_
    refine qM rfl rfl ?_
    refine jB8 rfl rfl ?_
    refine jB8 rfl rfl ?_
    refine jB8 rfl rfl ?_
    refine jE9 (hZ _ _ ?_)
    refine f3K 2 3 4 rfl ?_
    refine aE ?_
    repeat (with_reducible (first | refine nTR ?_ | refine nBR ?_))
    exact jF8 [] rfl rfl rfl rfl (kA (lO _)) ⟨_, rfl, kI, rfl⟩
   have he : errQ c i (jI4 M i) x = 0 := by simp at h6; omega
   rw [if_neg (by simpa using he)] at hq
   have hM' := hM' he
   subst hM'
   have hat' : (M.set i (putQ c (jI4 M i) (atE M i) x))[i]? = some (putQ c (jI4 M i) (atE M i) x) := wU0 hat
   have hE' : jF5 (M.set i (putQ c (jI4 M i) (atE M i) x)) := wQ0 hE (wI7 hao g1')
   refine aK <| nN <| kE6 _ [(0, true), (1, true), (2, true), (3, true), (4, true), (5, false), (6, false)] jF1 (by kernel_rfl) (HLe.pick [0, 2] (by simp) (by simp only [pick, l8, lY]; rfl)) (fun Z hZ => ?_)
   refine tw_p rfl <| jA5 ?_
   refine vN <| tw_p rfl <| jA5 ?_
   refine vN <| tw_p rfl <| jH4 (i * 4) Tryz.underlying114 tyS182 rfl rfl (by omega) (by simp) rfl ?_
   refine vN <| tw_p rfl <| jD6 0 rfl rfl tyA182 tyS182 (jK6 hat') rfl <| vN <| tw_p rfl <| jL1 1 rfl rfl tyA317 tyS317 rfl (by simp only [qS]; rfl) rfl ?_
   refine vN <| tw_g rfl <| sS0 1 tyS182 ?_
   refine sN ⟨pH [0, 2] rfl, ?_⟩
   refine tw_g rfl <| sS0 3 tyS317 ?_
   refine sN ⟨pH [0, 2] rfl, ?_⟩
   refine jH1 (hZ _ _ ?_)
   refine nF [(0, _), (6, _), (7, _), (8, _), (9, _), (35, _), (39, _), (40, _)] (kR rfl) ?_
   repeat (with_reducible refine nBN ?_)
   refine nN ?_
   refine aG (fun Z hZ => ?_)
   refine jB7 rfl rfl ((i + 1 : Nat) : Int) (by rw [lT _ (by omega)]; omega) rfl ?_
   refine sMN hZ rfl rfl <| nF [(0, _), (6, _), (7, _), (8, _), (9, _), (35, _), (39, _), (40, _)] (kR rfl) <| jC2 (i + 1, M.set i (putQ c (jI4 M i) (atE M i) x), q) ⟨by show i + 1 ≤ _; omega, by simpa using hM, hE', g2', ?_⟩ (by simp; omega) (kR rfl) ?_
   ·show decG s (4 * n - (c * n + (i + 1))) (c * n + (i + 1)) _ _ = D
    rw [show 4 * n - (c * n + (i + 1)) = m by omega, ← qP]
    exact hq
   ·simp only [kQ0]
    have : atE (M.set i (putQ c (jI4 M i) (atE M i) x)) i = putQ c (jI4 M i) (atE M i) x := lV ((kS3 (by simp; omega)).symm.trans hat')
    rw [this]
    exact pH [1, 0, 3] rfl
  ·refine jB5 ?_
   repeat (with_reducible refine nTE ?_)
   refine nBE ?_
   repeat (with_reducible refine nBN ?_)
   refine nN ?_
   have hie : i = n := by simp at h4; omega
   subst hie
   refine aG (fun Z hZ => ?_)
   refine jB7 rfl rfl ((c + 1 : Nat) : Int) (by rw [lT _ (by omega)]; omega) rfl ?_
   refine sMN hZ rfl rfl <| nF [(0, _), (6, _), (7, _), (35, _)] (kR rfl) <| jC2 (c + 1, M, p) ⟨by show c + 1 ≤ _; omega, hM, hE, hp, ?_⟩ (by simp; omega) (kR rfl) (kC 1 rfl)
   show decG s (4 * i - (c + 1) * i) ((c + 1) * i) M p = D
   rw [Nat.add_mul, Nat.one_mul]
   exact hq
 ·have hc4 : c = 4 := by simp at h3; omega
  subst hc4
  rw [uK, wR1] at hq
  refine jB5 ?_
  repeat (with_reducible refine nTE ?_)
  refine nBE ?_
  refine nN ?_
  refine aS ?_
  refine aR (fun Z hZ => ?_)
  refine sFA0 jN8 ?_
  refine sL0 1 tyA3 tyS3 ?_
  refine sM rfl rfl <| jC8 Tryz.underlying9 rfl rfl <| jB0 ?_
  refine sN (hZ _ _ <| f4K 0 6 7 79 rfl <| aC0 (fun h4 => ?_) (fun h4 => ?_))
  ·have hl : p < s.length := by simp at h4; omega
   rw [if_pos hl] at hq
   rw [← hq]
   refine jC1 jF1 (by kernel_rfl) (fun Z hZ => ?_)
   refine qFA0 jN8 ?_
   refine jA9 1 tyA3 tyS3 ?_
   refine jB8 rfl rfl ?_
   refine jB8 rfl rfl ?_
   refine jB8 rfl rfl ?_
   refine jE9 (hZ _ _ ?_)
   refine f3K 2 3 4 rfl ?_
   refine aE ?_
   repeat (with_reducible refine nTR ?_)
   exact jF8 [] rfl rfl rfl rfl (kA (lO _)) ⟨_, rfl, kI, rfl⟩
  have hl : ¬ p < s.length := by simp at h4; omega
  rw [if_neg hl] at hq
  have hmax : M.length ≤ maxLen := by show _ ≤ 9223372036854775807; omega
  refine aK <| nN ?_
  subst hM
  refine aS <| aR fun Z hZ => sM rfl rfl <| jO0 [.ro ga 0 (jA2 M)] (jY3 (some ⟨ga, 0, none⟩) M.length M _ (fun _ => ⟨_, _, rfl⟩) (fun _ => rfl) (kG (some ⟨ga, 0, none⟩) (jA2 M)) hmax hE) rfl ((HLe.toRo [] []).trans (pH [0] rfl)) (kG (some ⟨ga, 0, none⟩) (jA2 M)) rfl <| sAN hZ rfl rfl <| f3K 0 7 14 rfl <| aR fun Z hZ => sM rfl rfl <| jA6 ?_
  refine sN (hZ _ _ <| f4K 0 7 14 85 rfl <| aC0 (fun h5 => ?_) (fun h5 => ?_))
  ·have hr : rowC M ≠ 0 := by simp at h5; omega
   rw [if_pos hr] at hq
   rw [← hq]
   refine aR fun Z hZ => sM rfl rfl ?_
   refine jC8 Tryz.underlying9 rfl rfl ?_
   refine sM rfl rfl <| sA rfl rfl <| sA rfl rfl <| sAN hZ rfl rfl ?_
   refine f3K 2 3 4 rfl ?_
   refine aE ?_
   repeat (with_reducible refine nTR ?_)
   exact jF8 [] rfl rfl rfl rfl (kA (lO _)) ⟨_, rfl, kI, rfl⟩
  have hr : rowC M = 0 := by simp at h5; omega
  rw [if_neg (by simpa using hr)] at hq
  rw [← hq]
  refine aK <| nN <| aR fun Z hZ => sM rfl rfl <| sM rfl rfl <| jC8 Tryz.underlying9 rfl rfl <| sA rfl rfl <| sA rfl rfl <| sAN hZ rfl rfl <| f3K 2 3 4 rfl <| aE <| jF8 _ rfl rfl rfl rfl ((HLe.ownRow [] [] (jI6 M) hmax).trans (pH [0] rfl)) ⟨_, rfl, RowOk.mk _ _ _, rfl⟩
end V
namespace V
open Go.RowKit
end V
namespace V
open Go.RowKit
end V
namespace V
open Go.RowKit
set_option maxRecDepth 100000
end V
namespace V
open Go.RowKit
theorem wR0 {s : List UInt8} : ∀ (k j : Nat) (M : List En) (p : Nat), M.length ≤ 4096 → jF5 M → p ≤ s.length →
  (decG s k j M p).1.length ≤ 4096 ∧ jF5 (decG s k j M p).1 ∧ (decG s k j M p).2.1 ≤ s.length ∧ ((decG s k j M p).2.2 ≠ 0 → (decG s k j M p).1 = [])
 | 0, j, M, p, hM, hE, hp => by
  rw [wR1]
  have he : jF5 [] := fun e h => by cases h
  split
  ·exact ⟨lZ _, he, hp, fun _ => rfl⟩
  split
  ·exact ⟨lZ _, he, xP _, fun _ => rfl⟩
  ·exact ⟨hM, hE, xP _, fun h => absurd rfl h⟩
 | k + 1, j, M, p, hM, hE, hp => by
  have he : jF5 [] := fun e h => by cases h
  obtain ⟨f1, f2, _⟩ := jW2 s p hp
  rw [decG]
  split
  ·exact ⟨lZ _, he, hp, fun _ => rfl⟩
  split
  ·exact ⟨lZ _, he, hp, fun _ => rfl⟩
  ·exact wR0 k (j + 1) _ _ (by simpa using hM) (wQ0 hE (wI7 (jX4 hE _) f1)) f2
theorem kZ1 (s : List UInt8) : (decQ s).1.length ≤ 4096 ∧ jF5 (decQ s).1 ∧ (decQ s).2.1 ≤ s.length ∧ ((decQ s).2.2 ≠ 0 → (decQ s).1 = []) := by
 have he : jF5 [] := fun e h => by cases h
 unfold decQ
 split
 ·exact ⟨lZ _, he, lZ _, fun _ => rfl⟩
 split
 ·exact ⟨lZ _, he, lZ _, fun _ => rfl⟩
 split
 ·exact ⟨lZ _, he, lZ _, fun _ => rfl⟩
 ·exact wR0 _ _ _ _ (by simp; omega) (vT3 _) (jW2 s 0 (by omega)).2.1
theorem wB0 {x : Nat} (h : x < 256) : (UInt8.ofNat x).toNat = x := by simp; omega
theorem yO8 (x : Nat) : valL (vb x) = x := by
 induction x using Nat.strongRecOn with
 | _ x ih =>
  rcases xX x 128 with h | h
  ·rw [kT4 h]
   simp only [valL, wB0 (show x < 256 by omega)]
   omega
  ·rw [vH2 h]
   simp only [valL, wB0 (show x % 128 + 128 < 256 by omega), ih (x / 128) (by omega)]
   omega
theorem zL2 (x : Nat) : ∀ (k : Nat) (r : List UInt8), (vb x).length ≤ k → cnt k (vb x ++ r) = (vb x).length - 1 := by
 induction x using Nat.strongRecOn with
 | _ x ih =>
  intro k r hk
  have := vA4 x
  obtain ⟨k, rfl⟩ : ∃ m, k = m + 1 := ⟨k - 1, by omega⟩
  rcases xX x 128 with h | h
  ·rw [kT4 h, List.singleton_append, cnt, if_neg (by rw [wB0 (by omega)]; omega)]
   rfl
  ·have hp := vA4 (x / 128)
   rw [vH2 h, lD] at hk
   rw [vH2 h, lL, cnt, if_pos (by rw [wB0 (by omega)]; omega), ih (x / 128) (by omega) k r (by omega), lD]
   omega
theorem yW1 (x : Nat) : ∀ r : List UInt8, dat (vb x ++ r) ((vb x).length - 1) = x / 128 ^ ((vb x).length - 1) ∧ ((vb x).length = 1 ∨ 128 ^ ((vb x).length - 1) ≤ x) := by
 induction x using Nat.strongRecOn with
 | _ x ih =>
  intro r
  rcases xX x 128 with h | h
  ·rw [kT4 h]
   refine ⟨?_, .inl rfl⟩
   show (UInt8.ofNat x).toNat = x / 128 ^ 0
   rw [wB0 (by omega)]
   simp
  ·have hp := vA4 (x / 128)
   obtain ⟨h1, h2⟩ := ih (x / 128) (by omega) r
   rw [vH2 h, lD, lL, uN]
   obtain ⟨m, hm⟩ : ∃ m, (vb (x / 128)).length = m + 1 := ⟨_, (Nat.sub_add_cancel hp).symm⟩
   rw [hm, uN] at h1 h2
   rw [hm, kZ2, h1, qV, qU (128 ^ m), ← Nat.div_div_eq_div_mul]
   refine ⟨rfl, .inr ?_⟩
   rcases h2 with h2 | h2
   ·obtain rfl : m = 0 := by omega
    simpa using h
   ·calc 128 * 128 ^ m ≤ 128 * (x / 128) := Nat.mul_le_mul_left _ h2
     _ ≤ x := Nat.mul_div_le _ _
theorem wW0 {x : Nat} (hx : x < 18446744073709551616) (r : List UInt8) : jG0 (vb x ++ r) = (0, (vb x).length) := by
 have h10 := kT5 hx
 have hp := vA4 x
 have hc := zL2 x 10 r h10
 obtain ⟨hl, ho⟩ := yW1 x r
 have h1 : cnt 10 (vb x ++ r) ≠ 10 := by omega
 have h2 : cnt 10 (vb x ++ r) ≠ (vb x ++ r).length := by rw [hc, lN]; omega
 have h3 : ¬ (cnt 10 (vb x ++ r) = 9 ∧ 1 < dat (vb x ++ r) 9) := by
  rintro ⟨h3, h4⟩
  rw [hc] at h3
  rw [h3] at hl
  rw [hl] at h4
  have : x / 128 ^ 9 < 2 := Nat.div_lt_of_lt_mul (by omega)
  omega
 have h4 : ¬ (0 < cnt 10 (vb x ++ r) ∧ dat (vb x ++ r) (cnt 10 (vb x ++ r)) = 0) := by
  rintro ⟨h4, h5⟩
  rw [hc] at h4 h5
  rw [hl] at h5
  rcases ho with ho | ho
  ·omega
  ·have := Nat.div_pos ho (Nat.pow_pos (by omega))
   omega
 unfold jG0
 rw [if_neg h1, if_neg h2, if_neg h3, if_neg h4, hc, Nat.sub_add_cancel hp]
theorem yL1 {s r : List UInt8} {p x : Nat} (hx : x < 18446744073709551616) (h : s.drop p = vb x ++ r) : getQ s p = (x, p + (vb x).length, 0) := by
 unfold getQ
 rw [h, wW0 hx r, if_pos rfl, uD, yO8]
end V
namespace V
open Go.RowKit
def fld (c : Nat) (e : En) : Nat := if c = 0 then e.id else if c = 1 then e.run else if c = 2 then e.len else e.off
def valE (c : Nat) (a : En) (x : Nat) : Nat := if c = 0 then (a.id + x) % 18446744073709551616 else if c = 1 then x % 4294967296 else if c = 2 then x % 4294967296 else if x = 0 then a.next else x - 1
def yV4 (c : Nat) (a b : En) : Prop := (c = 0 → a.id = b.id) ∧ (c = 3 → a.next = b.next)
theorem yY5 {c : Nat} (hc : c < 4) (a e : En) (x : Nat) : fld c (putQ c a e x) = valE c a x := by
 match c, hc with
 | 0, _ => rfl
 | 1, _ => rfl
 | 2, _ => rfl
 | 3, _ => rfl
theorem vY5 {c d : Nat} (hc : c < 4) (hd : d < 4) (h : d ≠ c) (a e : En) (x : Nat) : fld d (putQ c a e x) = fld d e := by
 match c, hc, d, hd with
 | 0, _, 0, _ => omega
 | 0, _, 1, _ => rfl
 | 0, _, 2, _ => rfl
 | 0, _, 3, _ => rfl
 | 1, _, 0, _ => rfl
 | 1, _, 1, _ => omega
 | 1, _, 2, _ => rfl
 | 1, _, 3, _ => rfl
 | 2, _, 0, _ => rfl
 | 2, _, 1, _ => rfl
 | 2, _, 2, _ => omega
 | 2, _, 3, _ => rfl
 | 3, _, 0, _ => rfl
 | 3, _, 1, _ => rfl
 | 3, _, 2, _ => rfl
 | 3, _, 3, _ => omega
theorem wO2 (i : Nat) (a : En) (x : Nat) : errQ 0 i a x = if (a.id + x) % 18446744073709551616 < x then 11 else 0 := by unfold errQ; rw [if_pos rfl]
theorem kE5 {c : Nat} (h : c = 1 ∨ c = 2) (i : Nat) (a : En) (x : Nat) : errQ c i a x = if 4294967296 ≤ x then 11 else 0 := by unfold errQ; rw [if_neg (by omega), if_pos h]
theorem wO1 (i : Nat) (a : En) (x : Nat) : errQ 3 i a x = if i = 0 ∧ x = 0 ∨ 0 < i ∧ 0 < x ∧ x - 1 = a.next then 4 else 0 := by unfold errQ; rw [if_neg (by decide), if_neg (by decide)]
theorem wO0 {c i x : Nat} {a b : En} (hc : c < 4) (h : yV4 c a b) : errQ c i a x = errQ c i b x := by
 obtain ⟨h0, h3⟩ := h
 match c, hc with
 | 0, _ => rw [wO2, wO2, h0 rfl]
 | 1, _ => rw [kE5 (.inl rfl), kE5 (.inl rfl)]
 | 2, _ => rw [kE5 (.inr rfl), kE5 (.inr rfl)]
 | 3, _ => rw [wO1, wO1, h3 rfl]
theorem wA7 {c x : Nat} {a b : En} (hc : c < 4) (h : yV4 c a b) : valE c a x = valE c b x := by
 obtain ⟨h0, h3⟩ := h
 match c, hc with
 | 0, _ => show (a.id + x) % _ = (b.id + x) % _; rw [h0 rfl]
 | 1, _ => rfl
 | 2, _ => rfl
 | 3, _ => show (if x = 0 then a.next else x - 1) = (if x = 0 then b.next else x - 1); rw [h3 rfl]
theorem yO7 {c i : Nat} {a e : En} (hc : c < 4) (ha : a.ok) (he : e.ok) (hid : a.id ≤ e.id) (ho : e.off ≤ 1099511627776) : errQ c i a (numQ c i a e) = 0 ∧ valE c a (numQ c i a e) = fld c e := by
 obtain ⟨a1, a2, a3, a4⟩ := ha
 obtain ⟨e1, e2, e3, e4⟩ := he
 match c, hc with
 | 0, _ =>
  have h1 : (e.id + 18446744073709551616 - a.id) % 18446744073709551616 = e.id - a.id := by omega
  rw [zH5, wO2, h1]
  refine ⟨by rw [if_neg (by omega)], ?_⟩
  show (a.id + (e.id - a.id)) % 18446744073709551616 = e.id
  omega
 | 1, _ =>
  rw [zH4, kE5 (.inl rfl)]
  exact ⟨by rw [if_neg (by omega)], by show e.run % 4294967296 = e.run; omega⟩
 | 2, _ =>
  rw [zH3, kE5 (.inr rfl)]
  exact ⟨by rw [if_neg (by omega)], by show e.len % 4294967296 = e.len; omega⟩
 | 3, _ =>
  rw [zH2, wO1]
  by_cases h : 0 < i ∧ e.off = a.next
  ·rw [if_pos h]
   refine ⟨by rw [if_neg (by omega)], ?_⟩
   exact h.2.symm
  ·rw [if_neg h, show (e.off + 1) % 18446744073709551616 = e.off + 1 by omega]
   refine ⟨by rw [if_neg (by omega)], ?_⟩
   show (if e.off + 1 = 0 then a.next else e.off + 1 - 1) = e.off
   rw [if_neg (by omega)]
   omega
def Agr (j : Nat) (M L : List En) : Prop := M.length = L.length ∧ ∀ c i, c < 4 → i < L.length → c * L.length + i < j → fld c (atE M i) = fld c (atE L i)
theorem Agr.like {c i : Nat} {M L : List En} (hc : c < 4) (hi : i < L.length) (h : Agr (c * L.length + i) M L) : yV4 c (jI4 M i) (jI4 L i) := by
 rcases zM i with h0 | h0
 ·subst h0
  exact ⟨fun _ => rfl, fun _ => rfl⟩
 ·have hp : ∀ N : List En, jI4 N i = atE N (i - 1) := fun N => by simp [jI4, atE, Nat.ne_of_gt h0]
  rw [hp, hp]
  refine ⟨fun hc0 => ?_, fun hc3 => ?_⟩
  ·subst hc0
   exact h.2 0 (i - 1) (by omega) (by omega) (by omega)
  ·subst hc3
   have h1 : (atE M (i - 1)).off = (atE L (i - 1)).off := h.2 3 (i - 1) (by omega) (by omega) (by omega)
   have h2 : (atE M (i - 1)).len = (atE L (i - 1)).len := h.2 2 (i - 1) (by omega) (by omega) (by omega)
   simp only [En.next, h1, h2]
theorem zC2 (M : List En) {i : Nat} (y : En) (hi : i < M.length) : atE (M.set i y) i = y := by simp [atE, hi]
theorem vZ9 (M : List En) {i k : Nat} (y : En) (h : i ≠ k) : atE (M.set i y) k = atE M k := by simp [atE, h]
theorem Agr.step {c i x : Nat} {M L : List En} (hc : c < 4) (hi : i < L.length) (h : Agr (c * L.length + i) M L) (hv : valE c (jI4 M i) x = fld c (atE L i)) : Agr (c * L.length + i + 1) (M.set i (putQ c (jI4 M i) (atE M i) x)) L := by
 refine ⟨by rw [List.length_set]; exact h.1, fun d k hd hk hlt => ?_⟩
 by_cases hik : i = k
 ·subst hik
  rw [zC2 _ _ (by rw [h.1]; exact hi)]
  by_cases hdc : d = c
  ·subst hdc
   rw [yY5 hc]
   exact hv
  ·rw [vY5 hc hd hdc]
   refine h.2 d i hd hk ?_
   have : d * L.length ≠ c * L.length := fun he => hdc (Nat.eq_of_mul_eq_mul_right (by omega) he)
   omega
 ·rw [vZ9 _ _ hik]
  refine h.2 d k hd hk ?_
  have hne : d * L.length + k ≠ c * L.length + i := fun he => by
   have h1 := congrArg (· % L.length) he
   simp only [qU _ L.length, Nat.mul_add_mod, zX hk, zX hi] at h1
   omega
  omega
theorem zJ9 {a b : En} (h0 : a.id = b.id) (h1 : a.off = b.off) (h2 : a.len = b.len) (h3 : a.run = b.run) : a = b := by
 obtain ⟨a0, a1, a2, a3⟩ := a
 obtain ⟨b0, b1, b2, b3⟩ := b
 simp only at h0 h1 h2 h3
 subst h0 h1 h2 h3
 rfl
theorem Agr.all {M L : List En} (h : Agr (4 * L.length) M L) : M = L := by
 refine List.ext_getElem h.1 fun i h1 h2 => ?_
 have hat : ∀ (N : List En) (hi : i < N.length), N[i] = atE N i := fun N hi => by simp [atE, hi]
 rw [hat M h1, hat L h2]
 have hf : ∀ c, c < 4 → fld c (atE M i) = fld c (atE L i) := fun c hc => h.2 c i hc h2 (by
  have : c * L.length ≤ 3 * L.length := z7 _ (by omega)
  omega)
 have f0 : (atE M i).id = (atE L i).id := hf 0 (by omega)
 have f1 : (atE M i).run = (atE L i).run := hf 1 (by omega)
 have f2 : (atE M i).len = (atE L i).len := hf 2 (by omega)
 have f3 : (atE M i).off = (atE L i).off := hf 3 (by omega)
 exact zJ9 f0 f3 f2 f1
theorem Agr.zero (L : List En) : Agr 0 (List.replicate L.length zeroEn) L := ⟨by simp, fun _ _ _ _ h => by omega⟩
end V
namespace V
open Go.RowKit
theorem wH9 : ∀ (L : List En) (free : Nat), rowQ free L = 0 → jF5 L → ∀ i, i < L.length → chkE (atE L i) = 0 ∧ (i = 0 → free ≤ (atE L i).id) ∧ (0 < i → (atE L (i - 1)).id ≤ (atE L i).id)
 | [], _, _, _, i, hi => by simp at hi
 | e :: r, free, h, hE, i, hi => by
  rw [rowQ] at h
  split at h
  ·rename_i hc
   split at h
   ·cases h
   rename_i hf
   have he : e.ok := hE e lP
   have hr : jF5 r := fun x hx => hE x (lU _ hx)
   cases i with
   | zero => exact ⟨hc, fun _ => by show free ≤ e.id; omega, fun h => by omega⟩
   | succ i =>
    have hi' : i < r.length := by simpa using hi
    obtain ⟨h1, h2, h3⟩ := wH9 r _ h hr i hi'
    have e1 : ∀ k, atE (e :: r) (k + 1) = atE r k := fun k => by simp [atE]
    refine ⟨by rw [e1]; exact h1, fun h => by omega, fun _ => ?_⟩
    rw [e1, uN]
    cases i with
    | zero =>
     have h4 := h2 rfl
     have hl : e.id ≤ jK4 e := by
      have := he.wide
      unfold jK4
      rw [if_pos hc]
      omega
     show e.id ≤ _
     omega
    | succ i => rw [e1]; exact h3 (by omega)
  ·rename_i hc
   exact absurd h hc
theorem vJ6 {L : List En} (h : rowC L = 0) (hE : jF5 L) : L.length ≤ 4096 ∧ ∀ i, i < L.length → (jI4 L i).id ≤ (atE L i).id ∧ (atE L i).off ≤ 1099511627776 := by
 unfold rowC at h
 split at h
 ·cases h
 rename_i hl
 refine ⟨by omega, fun i hi => ?_⟩
 obtain ⟨h1, h2, h3⟩ := wH9 L 0 h hE i hi
 refine ⟨?_, (kG1 (jX4 hE i) h1).2.2.1⟩
 rcases zM i with h0 | h0
 ·subst h0; exact lZ _
 ·have := h3 h0
  rwa [show jI4 L i = atE L (i - 1) by simp [jI4, atE, Nat.ne_of_gt h0]]
theorem vX7 {c i : Nat} {L : List En} (hc : c < 4) (hi : i < L.length) : (jF4 L).drop (1 + (c * L.length + i)) = numQ c i (jI4 L i) (atE L i) :: (jF4 L).drop (1 + (c * L.length + i + 1)) := by
 have h := vR3 (L := L) hc hi
 rw [qP] at h
 obtain ⟨h1, h2⟩ := List.getElem?_eq_some_iff.1 h
 rw [zA h1, h2, qP 1]
theorem kN8 (x : Nat) (l : List Nat) : allB (x :: l) = vb x ++ allB l := by simp [allB]
theorem yR4 {j n : Nat} (h : j < 4 * n) : ∃ c i, c < 4 ∧ i < n ∧ j = c * n + i := by
 have hn : 0 < n := by omega
 exact ⟨j / n, j % n, (Nat.div_lt_iff_lt_mul hn).2 h, Nat.mod_lt _ hn, by have := Nat.div_add_mod j n; rw [qU] at this; exact this.symm⟩
theorem wQ8 {s rest : List UInt8} {L : List En} (hr : rowC L = 0) (hE : jF5 L) : ∀ (k j : Nat) (M : List En) (p : Nat), k + j = 4 * L.length → Agr j M L → s.drop p = allB ((jF4 L).drop (1 + j)) ++ rest → p ≤ s.length →
  decG s k j M p = if 0 < rest.length then ([], s.length - rest.length, 4) else (L, s.length, 0)
 | 0, j, M, p, hk, hA, hs, hp => by
  obtain rfl : j = 4 * L.length := by omega
  have hM := hA.all
  subst hM
  have hz : (jF4 M).drop (1 + 4 * M.length) = [] := List.drop_of_length_le (by rw [jN4]; omega)
  rw [hz] at hs
  have hl := congrArg List.length hs
  simp only [allB, List.flatMap_nil, lE, qF] at hl
  rw [wR1]
  by_cases h0 : 0 < rest.length
  ·rw [if_pos (by omega), if_pos h0, show p = s.length - rest.length by omega]
  ·rw [if_neg (by omega), if_neg (by simpa using hr), if_neg h0]
 | k + 1, j, M, p, hk, hA, hs, hp => by
  obtain ⟨c, i, hc, hi, rfl⟩ := yR4 (j := j) (n := L.length) (by omega)
  obtain ⟨hid, ho⟩ := (vJ6 hr hE).2 i hi
  obtain ⟨h1, h2⟩ := yO7 (i := i) hc (kW8 hE i) (jX4 hE i) hid ho
  have hlt := wJ9 (c := c) (i := i) (a := jI4 L i) (jX4 hE i)
  have hlike := hA.like hc hi
  rw [vX7 hc hi, kN8, xD] at hs
  generalize numQ c i (jI4 L i) (atE L i) = x at h1 h2 hlt hs
  have hg := yL1 hlt hs
  have hlen := congrArg List.length hs
  rw [qF, lN] at hlen
  rw [yL9 hA.1 rfl hi hg, wO0 hc hlike, h1, if_neg (by simp)]
  refine wQ8 hr hE k _ _ _ (by omega) (hA.step hc hi (by rw [wA7 hc hlike]; exact h2)) ?_ (by omega)
  rw [← List.drop_drop, hs, uC]
theorem vT5 {L : List En} (hE : jF5 L) (hr : rowC L = 0) (rest : List UInt8) (hs : sumB (jF4 L) + rest.length ≤ 65536) :
  decQ (allB (jF4 L) ++ rest) = if 0 < rest.length then ([], sumB (jF4 L), 4) else (L, sumB (jF4 L), 0) := by
 obtain ⟨hl, _⟩ := vJ6 hr hE
 have hlen : (allB (jF4 L) ++ rest).length = sumB (jF4 L) + rest.length := by simp [sumB]
 have h0 : (allB (jF4 L) ++ rest).drop 0 = vb L.length ++ (allB ((jF4 L).drop 1) ++ rest) := by
  rw [lC, ← xD, ← kN8]
  rfl
 have hg := yL1 (p := 0) (x := L.length) (by omega) h0
 rw [lA] at hg
 unfold decQ
 rw [if_neg (by omega), hg, if_neg (by simp), if_neg (by simp; omega)]
 rw [wQ8 (rest := rest) hr hE _ _ _ _ (by simp) (Agr.zero L) (by rw [lC] at h0; rw [h0, uC]) (by rw [hlen]; simp only [sumB, jF4, kN8, lN]; omega)]
 rw [hlen]
 by_cases h : 0 < rest.length
 ·rw [if_pos h, if_pos h, uN]
 ·rw [if_neg h, if_neg h, show rest.length = 0 by omega, lM]
theorem kY9 {L : List En} (h : (encQ L).2 = 0) : rowC L = 0 ∧ sumB (jF4 L) ≤ 65536 ∧ encQ L = (allB (jF4 L), 0) := by
 unfold encQ at h ⊢
 by_cases h0 : rowC L = 0
 ·rw [if_pos h0] at h ⊢
  by_cases h1 : 65536 < sumB (jF4 L)
  ·rw [if_pos h1] at h
   cases h
  ·rw [if_neg h1]
   exact ⟨h0, by omega, rfl⟩
 ·rw [if_neg h0] at h
  exact absurd h h0
theorem wY7 {L : List En} (hE : jF5 L) (h : L.length ≤ 300) : sumB (jF4 L) ≤ 12010 := by
 have h1 := jS4 (kA9 hE (by omega))
 rw [jN4] at h1
 unfold sumB
 omega
def kB4 (e : En) : Bool := decide (e.run = 0)
def jH8 (L : List En) : Bool := L.any kB4
theorem kQ1 (e : En) (h : e.ok) : Fn Tryz.prog 96 [e.val] [] fun v _ => v = .bool (kB4 e) := by
 refine fE 6 Tryz.func96 rfl (fun w0 => aR (fun Z hZ => jB2 (fun g1 => ?_)))
 refine sAN hZ rfl rfl <| f1K 1 rfl <| aR (fun Z hZ => sFA0 jM4 ?_)
 first | refine sL0 0 tyA180 tyS180 ?_
 refine jB1 ?_
 refine sAN hZ rfl rfl ?_
 refine f1K 2 rfl ?_
 refine aE ?_
 exact nR1 rfl rfl (congrArg Value.bool (by rw [lS]; simp [kB4]))
theorem yD5 (A : Option Addr) (c : Nat) (L : List En) (T : Heap) (hA : jK9 A L.length) (hT : 0 < L.length → T = roE A (jA2 L)) (hL : L.length ≤ maxLen) (hE : jF5 L) :
  Fn Tryz.prog 165 [.slice A L.length c, .func (.func 96) #[] #[]] T fun v _ => ∃ i : Int, v = iq i ∧ (0 ≤ i ↔ jH8 L = true) := by
 have hL' : L.length ≤ 9223372036854775807 := hL
 refine fE 19 Tryz.func165 rfl (fun w0 => aA rfl rfl <| f2K 0 1 rfl <| aS <| aR fun Z hZ => sM rfl rfl <| jE5 Tryz.underlying114 rfl rfl <| sMN hZ rfl rfl <| f4K 0 1 7 8 rfl <| aB ?_)
 refine jC3 (ι := Nat) (fun k => [(0, .slice A L.length c), (1, .func (.func 96) #[] #[]), (7, iq (L.length : Nat)), (8, iq (k : Nat))]) (fun _ => T)
  (fun k => k ≤ L.length ∧ jH8 (L.drop k) = jH8 L) (fun k => L.length - k) 0 ⟨by simp, rfl⟩ (kR rfl) (hV _) ?_
 rintro k ⟨hk, hq⟩
 refine aR (fun Z hZ => jB0 ?_)
 refine sN (hZ _ _ <| f5K 0 1 7 8 9 rfl <| aS (aC0 (fun h => ?_) (fun h => ?_)))
 ·have hlt : k < L.length := by simpa using h
  obtain ⟨x, hx⟩ : ∃ x, L[k]? = some x := ⟨_, xF hlt⟩
  have hxe : L[k] = x := lV ((xF hlt).symm.trans hx)
  have hok : x.ok := hE x (xN hx)
  rw [zA hlt, hxe, jH8, List.any_cons] at hq
  obtain ⟨g, o, rfl⟩ := hA (by omega)
  obtain rfl := hT (by omega)
  refine aK <| nN <| aS (aB <| aR fun Z hZ => sM rfl rfl <| sAN hZ rfl rfl <| f5K 0 1 5 7 8 rfl <| aR fun Z hZ => sM rfl rfl <| sM rfl rfl <| sM rfl rfl <| jA8 (o + k * 4) Tryz.underlying114 tyS182 rfl rfl (by omega) (by simp) rfl ?_)
  refine jE0 0 rfl rfl (k * 4) rfl tyA182 tyS182 (jK6 hx) rfl <| jZ5 (caps := []) (vs := [x.val]) [] (kQ1 x hok) rfl rfl (kA (lO _)) Ro.nil rfl <| sN (hZ _ _ <| f6K 0 1 5 7 8 16 rfl <| aC0 (fun hb => ?_) (fun hb => ?_))
  ·have hb' : kB4 x = true := hb
   rw [hb', Bool.true_or] at hq
   refine aR fun Z hZ => sM rfl rfl <| sAN hZ rfl rfl ?_
   refine f1K 4 rfl ?_
   refine aE ?_
   repeat (with_reducible (first | refine nTR ?_ | refine nBR ?_))
   exact nR1 rfl rfl ⟨(k : Int), rfl, fun _ => hq.symm, fun _ => by omega⟩
  have hb' : kB4 x = false := hb
  rw [hb', Bool.false_or] at hq
  refine aK ?_
  repeat (with_reducible refine nBN ?_)
  refine nN ?_
  refine aG (fun Z hZ => ?_)
  refine jB7 rfl rfl ((k + 1 : Nat) : Int) (by rw [lT _ (by omega)]; omega) rfl ?_
  refine sMN hZ rfl rfl <| nF [(0, _), (1, _), (7, _), (8, _)] (kR rfl) <| jC2 (k + 1) ⟨by omega, hq⟩ (by omega) (kR rfl) (hV _)
 ·refine jB5 ?_
  repeat (with_reducible refine nTE ?_)
  refine nBE ?_
  refine nN ?_
  have hke : k = L.length := by simp at h; omega
  subst hke
  rw [uO] at hq
  refine aA rfl rfl <| f1K 4 rfl <| aE <| nR10 ⟨-1, rfl, fun h => by omega, fun h => by rw [← hq] at h; simp [jH8] at h⟩
theorem kN3 (A : Option Addr) (c : Nat) (L : List En) (T : Heap) (hA : jK9 A L.length) (hT : 0 < L.length → T = roE A (jA2 L)) (hro : Ro T) (hL : L.length ≤ maxLen) (hE : jF5 L) :
  Fn Tryz.prog 95 [.slice A L.length c, .func (.func 96) #[] #[]] T fun v _ => v = .bool (jH8 L) := by
 refine fE 9 Tryz.func95 rfl (fun w0 => aA rfl rfl <| f2K 0 1 rfl <| aR fun Z hZ => sM rfl rfl <| sM rfl rfl <| jB4 T [] (yD5 A c L T hA hT hL hE) rfl (by rw [lH]; exact hV _) rfl ?_)
 rintro v H' ⟨i, rfl, hi⟩
 refine jC6 [] (kA (lO _)) ?_
 refine jH7 rfl rfl rfl ?_
 refine sAN hZ rfl rfl ?_
 refine f1K 4 rfl ?_
 refine aE ?_
 exact nR1 rfl rfl (congrArg Value.bool (by rw [lS, ← hi]; simp))
theorem vT9 (A : Option Addr) (c : Nat) (L : List En) (T : Heap) (hA : jK9 A L.length) (hT : 0 < L.length → T = roE A (jA2 L)) (hnil : A = none → L.length = 0) (hro : Ro T) (hL : L.length ≤ 100000) :
  Fn Tryz.prog 98 [.slice A L.length c] T fun v H' => RowOk v L.length ∧ H' = rowE v 182 4 (jA2 L) := by
 refine fE 8 Tryz.func98 rfl (fun w0 => aA rfl rfl <| f1K 0 rfl <| aS <| aR fun Z hZ => sM rfl rfl <| jR5 Tryz.underlying114 rfl rfl <| sN (hZ _ _ <| f2K 0 4 rfl <| aC0 (fun h => ?_) (fun h => ?_)))
 ·have h0 : A = none := by simpa using h
  have hl := hnil h0
  refine aA rfl rfl ?_
  refine f1K 2 rfl ?_
  refine aE ?_
  repeat (with_reducible refine nTR ?_)
  have hLn : L = [] := List.length_eq_zero_iff.1 hl
  subst hLn
  exact jD9 [] rfl rfl (kA (lO _)) ⟨kI, rfl⟩
 refine aK <| nN <| aR (fun Z hZ => jM5 Tryz.underlying114 tyS182 rfl (fun g => jC6 (T ++ rowE (.slice (some ⟨g, 0, none⟩) 0 0) 182 4 []) ((kD _ _).trans (HLe.ownRow [] T rfl (lZ _))) <| sM rfl rfl <| jD3 T kR2 rfl (RowOk.mk g 0 0) rfl rfl (fun w hw => yJ8 hA hT (jI6 L) hnil (kA (xE _ _)) hw) (kR3 L) (by show _ ≤ 9223372036854775807; omega) (by omega) (hV _) rfl (fun v2 hv2 => ?_)))
 rw [lE]
 rw [lA] at hv2
 refine sAN hZ rfl rfl <| f1K 2 rfl <| aE <| jD9 _ rfl rfl (kA (lX _ _)) ⟨hv2, rfl⟩
end V
namespace V
open Go.RowKit
def cntP (n z : Nat) : Nat := (n + z - 1) / z
theorem jQ0 {n z q : Nat} (hz : 0 < z) : q < cntP n z ↔ q * z < n := by
 unfold cntP
 rw [← Nat.succ_le_iff, Nat.le_div_iff_mul_le hz, zH]
 omega
def zH0 (A : Option Addr) (k : Nat) : Option Addr := A.map fun a => ⟨a.block, a.off + k, a.spot⟩
def pcL (L : List En) (z q : Nat) : List En := (L.drop (q * z)).take z
theorem kX0 (L : List En) (z q : Nat) : (pcL L z q).length = min z (L.length - q * z) := by simp [pcL]
def pcV (A : Option Addr) (n z q : Nat) : Value := .slice (zH0 A (q * z * 4)) (min z (n - q * z)) (min z (n - q * z))
theorem yG1 (A : Option Addr) (n c z : Nat) (hz : 0 < z) : Fn Tryz.prog 167 [.slice A n c, iq z] [] fun v H' => ∃ gs gn, v = .func (.func 224) #[] #[ptr gs 0, ptr gn 0] ∧ H' = [.own gn 3 [iq z], .own gs 114 [.slice A n c]] := by
 refine fE 9 Tryz.func167 rfl (fun w0 => aR (fun Z hZ => jB2 (fun g1 => ?_)))
 refine jB2 (fun g2 => ?_)
 refine sAN hZ rfl rfl <| f2K 2 3 rfl <| aS <| aR (fun Z hZ => sL0 0 tyA3 tyS3 ?_)
 refine jB0 ?_
 refine sN (hZ _ _ <| f3K 2 3 6 rfl <| aC0 (fun h => ?_) (fun h => ?_))
 ·simp at h
  omega
 refine aK <| nN <| aR (fun Z hZ => jL9 rfl rfl <| sAN hZ rfl rfl <| f1K 4 rfl <| aE <| jD9 _ rfl rfl (hV _) ⟨g1, g2, rfl, rfl⟩)
theorem yG0 (gs gn : Nat) (A : Option Addr) (n c z : Nat) (hz : 0 < z) (hzm : z ≤ maxLen) (hA : jK9 A n) (hc : n ≤ c) (hn : n ≤ 100000) :
  Iter Tryz.prog 224 [ptr gs 0, ptr gn 0] [.ro gs 0 [.slice A n c], .ro gn 0 [iq z]] ((List.range (cntP n z)).map fun q => [pcV A n z q]) := by
 intro l J Jr S hJ hS hJr hY T0 hT0
 have hzm' : z ≤ 9223372036854775807 := hzm
 have hlen : ((List.range (cntP n z)).map fun q => [pcV A n z q]).length = cntP n z := by simp
 rw [hlen]
 refine fE 31 Tryz.func224 rfl (fun w0 => jA7 (.ro gs 0 [.slice A n c] :: .ro gn 0 [iq z] :: (T0 ++ Jr)) (hV _) <| aA rfl rfl <| f4K 0 1 2 4 rfl <| aB ?_)
 refine jC3 (ι := Nat × Heap) (fun i => [(0, .func (.yield l) #[] #[]), (1, ptr gs 0), (2, ptr gn 0), (4, iq (i.1 * z : Nat))]) (fun i => .ro gs 0 [.slice A n c] :: .ro gn 0 [iq z] :: (i.2 ++ Jr))
  (fun i => i.1 ≤ cntP n z ∧ J i.1 i.2) (fun i => cntP n z - i.1) (0, T0) ⟨by simp, hT0⟩ (kE rfl (kE rfl (kE rfl (kE (by rw [xH]; rfl) kF)))) (hV _) ?_
 rintro ⟨q, T3⟩ ⟨hi, hT3⟩
 simp only at hi hT3
 have hiff := jQ0 (n := n) (q := q) hz
 obtain ⟨i, hqz⟩ := xZ9 (q * z)
 have hnext : (q + 1) * z = i + z := by rw [zH, hqz]
 rw [hqz] at hiff
 refine aF [(0, .func (.yield l) #[] #[]), (1, ptr gs 0), (2, ptr gn 0), (4, iq (i : Nat))] (kE rfl (kE rfl (kE rfl (kE (by show some (iq ((q * z : Nat) : Int)) = _; rw [hqz]) kF)))) ?_
 refine aS <| aR fun Z hZ => sM rfl rfl <| jE0 0 rfl rfl 0 rfl tyA114 tyS114 rfl rfl <| jE5 Tryz.underlying114 rfl rfl <| jB0 ?_
 refine sN (hZ _ _ <| f5K 0 1 2 4 9 rfl <| aC0 (fun hh => ?_) (fun hh => ?_))
 ·have hlt : i < n := by simpa using hh
  have hq : q < cntP n z := hiff.2 hlt
  have hsum : i + z ≤ 9223372036854775807 := by
   rcases zM q with h0 | h0
   ·subst h0; omega
   ·have : z ≤ q * z := Nat.le_mul_of_pos_left z h0
    omega
  obtain ⟨ga, o, rfl⟩ := hA (by omega)
  obtain ⟨e, he⟩ := xZ9 (min z (n - i))
  have he1 : 0 < e ∧ e ≤ n - i := by omega
  have hitem : ((List.range (cntP n z)).map fun q => [pcV (some ⟨ga, o, none⟩) n z q])[q]? = some [.slice (some ⟨ga, o + i * 4, none⟩) e e] := by
   rw [xZ, List.getElem?_range hq]
   simp only [qG, pcV, zH0, hqz, he]
  refine aK <| nN <| aS (aB <| jC1 jF1 (by kernel_rfl) (fun Z hZ => ?_))
  refine jK1 1 rfl rfl 0 rfl tyA3 tyS3 rfl rfl <| jK1 0 rfl rfl 0 rfl tyA114 tyS114 rfl rfl <| qM rfl rfl <| jV8 Tryz.underlying114 tyS182 rfl rfl rfl (by omega) (by omega) (by omega) rfl (fun o' ho => ?_)
  refine vP8 Tryz.underlying114 rfl rfl <| zF5 rfl rfl ((e : Nat) : Int) (by rw [← he]; simp only [x4]; omega) rfl ?_
  refine jB8 rfl rfl <| jE9 (hZ _ _ <| f5K 0 1 2 4 5 rfl <| jM9 (fun Z hZ => sy_x rfl <| sM rfl rfl <| sN <| sy_x rfl <| jE0 0 rfl rfl 0 rfl tyA114 tyS114 rfl rfl <| sN ?_))
  refine sy_x rfl <| sM rfl rfl <| sN <| sy_x rfl <| sM rfl rfl <| sN <| sy_x rfl <| sM rfl rfl <| sN <| sy_x rfl ?_
  refine jB7 rfl rfl ((i + e : Nat) : Int) (by rw [lT _ (by omega)]; omega) rfl ?_
  refine sN ?_
  refine sy_x rfl ?_
  refine sM rfl rfl ?_
  refine sN ?_
  refine sy_x rfl ?_
  refine sM rfl rfl ?_
  refine sN ?_
  refine sy_x rfl ?_
  refine jB7 rfl rfl ((i + e : Nat) : Int) (by rw [lT _ (by omega)]; omega) rfl ?_
  refine sN <| sy_x rfl <| wD1 (o + i * 4) Tryz.underlying114 tyS182 rfl rfl rfl rfl (by omega) (by omega) (xP _) (by omega) rfl rfl ?_
  rw [uF]
  refine sN <| kH7 [_, _] T3 Jr Jr (hY q _ T3 hitem hT3) rfl rfl rfl (xO _) hJr rfl ?_
  rintro v T4 ⟨b, rfl, hb1, hb2⟩
  refine sy_x rfl <| jE8 rfl rfl <| sN <| vP1 (hZ _ _ <| f5K 0 1 2 4 30 rfl <| aC0 (fun h3 => ?_) (fun h3 => ?_))
  ·have hb : b = false := by simpa using h3
   refine aE ?_
   repeat (with_reducible (first | refine nTR ?_ | refine nBR ?_))
   exact kA7 T4 rfl (vH1 (A := [_, _]) (hS T4 (hb2 hb))) (.inr (hb2 hb))
  have hb : b = true := by simpa using h3
  have hT4 := hb1 hb
  rw [(hJ _ T4 hT4).filter]
  refine aK ?_
  repeat (with_reducible refine nBN ?_)
  refine nN ?_
  refine aG (fun Z hZ => ?_)
  refine sM rfl rfl ?_
  refine jE0 1 rfl rfl 0 rfl tyA3 tyS3 rfl rfl ?_
  refine jB7 rfl rfl (((q + 1) * z : Nat) : Int) (by rw [hnext, lT _ (by omega)]; omega) rfl ?_
  refine sAN hZ rfl rfl <| nF [(0, _), (1, _), (2, _), (4, _)] (kR rfl) <| jC2 (q + 1, T4) ⟨by show q + 1 ≤ _; omega, hT4⟩ (by simp; omega) (kR rfl) (hV _)
 ·have hge : ¬ i < n := by simpa using hh
  have hqe : q = cntP n z := by
   have : ¬ q < cntP n z := fun h => hge (hiff.1 h)
   omega
  subst hqe
  refine jB5 ?_
  repeat (with_reducible refine nTE ?_)
  refine nBE ?_
  exact jM8 T3 rfl (kA ((xE T3 Jr).trans ((qX _ _).trans (qX _ _)))) (.inl hT3)
end V
namespace V
open Go.RowKit
theorem zK0 : ElemOk Tryz.prog 199 114 1 24 := ElemOk.mk_ (z := .slice none 0 0) Tryz.underlying199 (by kernel_rfl) rfl (by omega)
def pcH (us : List (Value × List En)) : Heap := us.flatMap fun x => rowE x.1 182 4 (jA2 x.2)
theorem wJ4 (us : List (Value × List En)) : Wrs (pcH us) := fun e he => by
 obtain ⟨x, _, hx⟩ := List.mem_flatMap.1 he
 exact jL2 _ _ _ _ e hx
theorem yB5 (us : List (Value × List En)) (x : Value × List En) : pcH (us ++ [x]) = pcH us ++ rowE x.1 182 4 (jA2 x.2) := by simp [pcH]
theorem wQ6 {L : List En} {i z j : Nat} {u : Value} (h : (jA2 ((L.drop i).take z))[j]? = some u) : (jA2 L)[i * 4 + j]? = some u := by
 have h1 : (jA2 L).drop (i * 4) = jA2 (L.drop i) := vL6 jV0 L i
 have h2 : jA2 (L.drop i) = jA2 ((L.drop i).take z) ++ jA2 ((L.drop i).drop z) := by rw [← zI, zZ]
 rw [← zJ, h1, h2, qE (List.getElem?_eq_some_iff.1 h).1]
 exact h
theorem zE2 (X R Y U : Heap) : HLe ((X ++ (Y ++ U)) ++ R) (X ++ ((R ++ Y) ++ U)) := fun _ _ _ hw => hw.perm (by
 rw [xD, xD]
 exact qK X (qQ (l₁ := R) (l₂ := Y ++ U)))
theorem zJ6 (b v a r : Ent) (C U R : Heap) : HLe (a :: (R ++ (C ++ U))) ((b :: v :: a :: ((C ++ [r]) ++ U)) ++ R) := fun _ _ _ hw =>
 (hw.sub (show List.Sublist (a :: ((C ++ U) ++ R)) _ from qA b (qA v (xJ a (List.Sublist.append_right (List.Sublist.append_right (xE C [r]) U) R))))).perm
  (List.Perm.cons a qQ)
theorem rev3 (a b c : Ent) (T : Heap) : HLe (c :: b :: a :: T) (a :: b :: c :: T) := fun _ _ _ hw => hw.perm (List.Perm.append_right T (List.reverse_perm [c, b, a]))
theorem cut_fn (A : Option Addr) (c : Nat) (L : List En) (T : Heap) (z : Nat) (hA : jK9 A L.length) (hT : 0 < L.length → T = roE A (jA2 L)) (hro : Ro T) (hL : L.length ≤ 10000) (hc : L.length ≤ c) (hz : 0 < z) (hzm : z ≤ maxLen) :
  Fn Tryz.prog 99 [.slice A L.length c, iq z] T fun v H' => ∃ us : List (Value × List En), RowOk v us.length ∧ us.length = cntP L.length z ∧ (∀ x ∈ us, RowOk x.1 x.2.length) ∧ us.map Prod.snd = (List.range (cntP L.length z)).map (pcL L z) ∧ H' = rowE v 114 1 (us.map Prod.fst) ++ pcH us := by
 have hcn : cntP L.length z ≤ L.length := by
  rcases xX L.length (cntP L.length z) with h | h
  ·have h1 := (jQ0 hz).1 h
   have := Nat.le_mul_of_pos_right L.length hz
   omega
  ·exact h
 refine Fn.enterM (n := 19) Tryz.func99 rfl (by kernel_rfl) rfl (fun w0 => ?_)
 refine aA rfl rfl <| f2K 0 1 rfl <| aS <| aR fun Z hZ => sM rfl rfl <| jB0 ?_
 refine sN (hZ _ _ <| f3K 0 1 8 rfl <| aC0 (fun h => ?_) (fun h => ?_))
 ·simp at h
  omega
 refine aK <| nN <| aR (fun Z hZ => sAl tyZ199 rfl (fun g1 => sN (hZ _ _ <| f3K 0 1 5 rfl <| aS <| aR fun Z hZ => sM rfl rfl <| sM rfl rfl <| jB4 [] (.own g1 199 [.slice none 0 0] :: T) (yG1 A L.length c z hz) rfl (hV _) rfl ?_)))
 rintro v H' ⟨gs, gn, rfl, rfl⟩
 refine jC6 (.own g1 199 [.slice none 0 0] :: .own gs 114 [.slice A L.length c] :: .own gn 3 [iq z] :: T) (rev3 _ _ _ T) <| jC6 (.own g1 199 [.slice none 0 0] :: .ro gs 0 [.slice A L.length c] :: .own gn 3 [iq z] :: T) (HLe.toRo [.own g1 199 [.slice none 0 0]] (.own gn 3 [iq z] :: T)) <| jC6 (.own g1 199 [.slice none 0 0] :: .ro gs 0 [.slice A L.length c] :: .ro gn 0 [iq z] :: T) (HLe.toRo [.own g1 199 [.slice none 0 0], .ro gs 0 [.slice A L.length c]] T) <| sN (hZ _ _ <| f2K 5 11 rfl <| aB ?_)
 refine kC4 (fun k H => ∃ (v : Value) (us : List (Value × List En)), us.length = k ∧ RowOk v k ∧ (∀ x ∈ us, RowOk x.1 x.2.length) ∧ us.map Prod.snd = (List.range k).map (pcL L z) ∧ H = .own g1 199 [v] :: (rowE v 114 1 (us.map Prod.fst) ++ pcH us)) T (fun _ _ => False) [.own g1 199 [.slice none 0 0]] (yG0 gs gn A L.length c z hz hzm hA hc (by omega)) rfl (fun k H h => by obtain ⟨v, us, _, _, _, _, rfl⟩ := h; exact .cons rfl ((jL2 _ _ _ _).append (wJ4 us))) (fun _ _ h => h.elim) hro (fun x hx => by simp only [lW, List.not_mem_nil, or_false] at hx; rcases hx with rfl | rfl <;> rfl) (fun k vs h => by rw [xZ] at h; cases hk : (List.range (cntP L.length z))[k]? with | none => rw [hk] at h; cases h | some x => rw [hk] at h; obtain rfl := lV h; rfl) rfl ⟨.slice none 0 0, [], rfl, kI, (fun x hx => absurd hx List.not_mem_nil), rfl, rfl⟩ (hV _) rfl ?_ ?_ (fun _ _ _ h => h.elim)
 ·rintro q vs H hk ⟨v, us, husl, hv, hus, hsnd, rfl⟩ l w1
  rw [xZ] at hk
  cases hkx : (List.range (cntP L.length z))[q]? with
  | none => rw [hkx] at hk; cases hk
  | some x =>
   rw [hkx] at hk
   have hvs : [pcV A L.length z x] = vs := lV hk
   obtain ⟨hkl, hxe⟩ := List.getElem?_eq_some_iff.1 hkx
   rw [List.getElem_range] at hxe
   subst hxe
   have hq : q < cntP L.length z := by simpa using hkl
   have hqz := (jQ0 hz).1 hq
   obtain ⟨ga, o, rfl⟩ := hA (by omega)
   obtain rfl := hT (by omega)
   obtain ⟨P, hP⟩ := xZ9 (pcL L z q)
   have hPl : P.length = min z (L.length - q * z) := by rw [← hP, kX0]
   have hpv : pcV (some ⟨ga, o, none⟩) L.length z q = .slice (some ⟨ga, o + q * z * 4, none⟩) P.length P.length := by rw [hPl]; rfl
   have hP0 : 0 < P.length := by omega
   have hcl := vT9 (some ⟨ga, o + q * z * 4, none⟩) P.length P (roE (some ⟨ga, o + q * z * 4, none⟩) (jA2 P)) (fun _ => ⟨_, _, rfl⟩) (fun _ => rfl) (fun h => by cases h) (kG _ _) (by omega)
   rw [hpv] at hvs
   subst hvs
   refine aG (fun Z hZ => sAN hZ rfl rfl <| nF [(5, _), (6, _)] (kR rfl) <| kA8 [] Wrs.nil (hV _) fun w2 => aB <| jA7 (.ro ga (o + q * z * 4) (jA2 P) :: .own g1 199 [v] :: (rowE v 114 1 (us.map Prod.fst) ++ (pcH us ++ [.ro ga o (jA2 L)]))) (HLe.trans (HLe.view (k := q * z * 4) (H := .own g1 199 [v] :: (rowE v 114 1 (us.map Prod.fst) ++ (pcH us ++ [.ro ga o (jA2 L)]))) (xs := jA2 L) (by simp) (fun j u hu => by subst hP; exact wQ6 hu)) (by simp only [qS, xD]; exact hV _)) ?_)
   refine jR2 _ [(0, true), (1, true), (2, false), (3, false), (4, false)] 5 rfl jF1 (by kernel_rfl) (HLe.pick [1] (by simp) (by simp only [pick, l8, qS]; rfl)) (fun Z hZ => ?_)
   refine tw_p rfl ?_
   first | refine jD6 0 rfl rfl tyA199 tyS199 rfl rfl ?_
   refine vN <| tw_p rfl <| jA5 ?_
   refine vN <| tw_g rfl <| wE0 (roE (some ⟨ga, o + q * z * 4, none⟩) (jA2 P)) hcl rfl (xJ _ (lO _)) (kG _ _) rfl (fun u hu => ?_)
   obtain ⟨gu, cu, rfl⟩ := hu.some hP0
   refine sN ⟨pH [1] rfl, ?_⟩
   refine tw_g rfl <| sBS0 Tryz.underlying199 tyS114 tyZ114 (fun g2 => ?_)
   refine sN ⟨pH [2] rfl, ?_⟩
   refine tw_g rfl <| jD3 (_ :: .ro ga (o + q * z * 4) (jA2 P) :: .own g1 199 [v] :: ((pcH us ++ [.ro ga o (jA2 L)]) ++ rowE (.slice (some ⟨gu, 0, none⟩) P.length cu) 182 4 (jA2 P))) zK0 rfl hv (by rw [qY, husl]; omega) rfl (fun w hw => jI0 (i := 0) (xs := [.slice (some ⟨gu, 0, none⟩) P.length cu]) rfl rfl hw) rfl (by show _ ≤ 9223372036854775807; omega) (by omega) (zE2 [_, _, _] _ _ _) rfl (fun v2 hv2 => ?_)
   refine sN ⟨pH [2] rfl, ?_⟩
   refine jH1 ?_
   obtain ⟨gv, cv, rfl⟩ := hv2.some (Nat.succ_pos q)
   refine sS10 2 tyS199 ?_
   refine sN (hZ _ _ <| nF [] (kF) <| nBN <| kE0 (.own g1 199 [.slice (some ⟨gv, 0, none⟩) (q + 1) cv] :: (rowE (.slice (some ⟨gv, 0, none⟩) (q + 1) cv) 114 1 ((us ++ [(Value.slice (some ⟨gu, 0, none⟩) P.length cu, P)]).map Prod.fst) ++ pcH (us ++ [(Value.slice (some ⟨gu, 0, none⟩) P.length cu, P)]))) ⟨_, us ++ [(Value.slice (some ⟨gu, 0, none⟩) P.length cu, P)], by simp [husl], RowOk.mk _ _ _, fun x hx => ?_, by rw [x0, hsnd, List.range_succ, x0, ← hP]; rfl, rfl⟩ ?_)
   ·rcases List.mem_append.1 hx with hx | hx
    ·exact hus x hx
    ·rw [List.mem_singleton.1 hx]; exact hu
   ·rw [yB5, x0]
    exact zJ6 _ _ _ _ _ _ _
 ·rintro D H ⟨v, us, husl, hv, hus, hsnd, rfl⟩
  rw [qY, List.length_range] at husl hv hsnd
  refine nBN ?_
  with_reducible refine jO8 ?_
  refine aR (fun Z hZ => sL0 1 tyA199 tyS199 ?_)
  refine sAN hZ rfl rfl <| f1K 4 rfl <| aE <| jK2 [0] ⟨rfl, trivial⟩ (jD9 _ rfl rfl (kA ((xE _ _).trans (qX _ _))) ⟨us, by rw [husl]; exact hv, husl, hus, hsnd, rfl⟩)
end V
namespace V
open Go.RowKit
def pcs (L : List En) (z : Nat) : List (List En) := (List.range (cntP L.length z)).map (pcL L z)
def jH2 (ps : List (List En)) : List UInt8 := ps.flatMap fun P => (encQ P).1
def kA2 (t : Nat) (P : List En) : En := ⟨(atE P 0).id, t, (encQ P).1.length, 0⟩
def jH6 (t : Nat) : List (List En) → List En
 | [] => []
 | P :: r => kA2 t P :: jH6 (t + (encQ P).1.length) r
theorem kA1 : ∀ (ps : List (List En)) (t : Nat), (jH6 t ps).length = ps.length
 | [], _ => rfl
 | P :: r, t => by simp [jH6, kA1 r]
theorem kP9 : ∀ (ps : List (List En)) (t : Nat) (P : List En), jH6 t (ps ++ [P]) = jH6 t ps ++ [kA2 (t + (jH2 ps).length) P]
 | [], t, P => by simp [jH6, jH2]
 | Q :: r, t, P => by
  simp only [lL, jH6, kP9 r, jH2, x5, lN]
  rw [qP]
theorem vV7 (ps : List (List En)) (P : List En) : jH2 (ps ++ [P]) = jH2 ps ++ (encQ P).1 := by simp [jH2]
def okQ (L : List En) (b : Int) (z : Nat) : Bool := ((pcs L z).all fun P => decide ((encQ P).2 = 0)) && decide ((jK7 (jH6 0 (pcs L z)) : Int) ≤ b)
def jS5 (L : List En) (b : Int) : Nat → Nat → List En × List UInt8 × Nat × Nat
 | 0, _ => ([], [], 0, 15)
 | k + 1, z => if okQ L b z = true then (jH6 0 (pcs L z), jH2 (pcs L z), z, 0) else jS5 L b k (2 * z)
def jI3 (L : List En) (b : Int) : List En × List UInt8 × Nat × Nat :=
 if b < 1 ∨ 16257 < b then ([], [], 0, 2) else if rowC L ≠ 0 then ([], [], 0, rowC L) else if jH8 L = true then ([], [], 0, 14)
 else if (jK7 L : Int) ≤ b then (L, [], 0, 0) else jS5 L b 13 1
theorem kC1 (P : List En) : (encQ P).1.length ≤ 65536 := by
 unfold encQ
 split
 ·split
  ·exact lZ _
  ·rename_i h
   show (allB (jF4 P)).length ≤ 65536
   unfold sumB at h
   omega
 ·exact lZ _
theorem vA8 : ∀ ps : List (List En), (jH2 ps).length ≤ 65536 * ps.length
 | [] => by simp [jH2]
 | P :: r => by
  have h1 := kC1 P
  have h2 := vA8 r
  simp only [jH2, x5, lN, lD] at h2 ⊢
  omega
theorem vK0 (L : List En) (z : Nat) : (pcs L z).length = cntP L.length z := by simp [pcs]
theorem kW9 {L P : List En} {z : Nat} (h : P ∈ pcs L z) : ∀ e ∈ P, e ∈ L := fun e he => by
 obtain ⟨q, _, rfl⟩ := List.mem_map.1 h
 exact List.mem_of_mem_drop (List.mem_of_mem_take he)
theorem wJ2 {L P : List En} {z : Nat} (hz : 0 < z) (h : P ∈ pcs L z) : 0 < P.length := by
 obtain ⟨q, hq, rfl⟩ := List.mem_map.1 h
 have := (jQ0 hz).1 (List.mem_range.1 hq)
 rw [kX0]
 omega
theorem kI2 : ∀ (ps : List (List En)) (t : Nat), (∀ P ∈ ps, jF5 P) → t + 65536 * ps.length < 18446744073709551616 → jF5 (jH6 t ps)
 | [], _, _, _ => fun e he => by cases he
 | P :: r, t, hP, ht => fun e he => by
  have h1 := kC1 P
  rw [lD] at ht
  rcases List.mem_cons.1 he with rfl | he
  ·have := jX4 (hP P lP) 0
   exact ⟨this.1, by show t < _; omega, by show (encQ P).1.length < _; omega, by show 0 < _; omega⟩
  ·exact kI2 r _ (fun Q hQ => hP Q (lU _ hQ)) (by omega) e he
def slA : Value → Option Addr
 | .slice A _ _ => A
 | _ => none
def pcR (us : List (Value × List En)) : Heap := us.flatMap fun x => roE (slA x.1) (jA2 x.2)
theorem zG9 (us : List (Value × List En)) : Ro (pcR us) := fun e he => by
 obtain ⟨x, _, hx⟩ := List.mem_flatMap.1 he
 exact kG _ _ e hx
theorem yK1 : ∀ (us : List (Value × List En)) (X Y : Heap), (∀ x ∈ us, RowOk x.1 x.2.length) → HLe (X ++ (pcR us ++ Y)) (X ++ (pcH us ++ Y))
 | [], X, Y, _ => hV _
 | x :: r, X, Y, h => by
  obtain ⟨A, c, hx, hA, hle⟩ := (h x lP).ro
  have h1 := yK1 r (X ++ roE (slA x.1) (jA2 x.2)) Y (fun y hy => h y (lU _ hy))
  have h2 := hle X (pcH r ++ Y) 182 4 (jA2 x.2)
  rw [← hx] at h2
  have e1 : slA x.1 = A := by rw [hx]; rfl
  rw [← e1] at h2
  simp only [pcR, pcH, x5, xD] at h1 h2 ⊢
  exact h1.trans h2
theorem yU0 {us : List (Value × List En)} {x : Value × List En} (h : x ∈ us) : (roE (slA x.1) (jA2 x.2)).Sublist (pcR us) := by
 rw [pcR, List.flatMap_def]
 exact List.sublist_flatten_of_mem (List.mem_map.2 ⟨x, h, rfl⟩)
end V
namespace V
open Go.RowKit
theorem yU5 {L : List En} {b : Int} {z j : Nat} {P : List En} (hP : (pcs L z)[j]? = some P) (he : (encQ P).2 ≠ 0) : okQ L b z = false := by
 unfold okQ
 rw [Bool.and_eq_false_iff]
 refine .inl ?_
 rw [List.all_eq_false]
 exact ⟨P, xN hP, by simpa using he⟩
theorem zI0 (x : Ent) (a b c : Heap) : HLe ((c ++ b) ++ a) (x :: ((a ++ b) ++ c)) := fun _ _ _ hw => (hw.sub (qX x _)).perm (by
 rw [xD c b a]
 exact List.perm_append_comm.trans (qK c qQ))
theorem yW0 (a b c : Heap) : HLe (a ++ (c ++ b)) ((a ++ b) ++ c) := fun _ _ _ hw => hw.perm (by
 rw [xD]
 exact qK a qQ)
theorem wZ0 (A : Option Addr) (c : Nat) (L : List En) (T : Heap) (b : Int) (hA : jK9 A L.length) (hT : 0 < L.length → T = roE A (jA2 L)) (hro : Ro T) (hL : L.length ≤ 10000) (hE : jF5 L) (hnil : A = none → L.length = 0) (hc : L.length ≤ c) :
  Fn Tryz.prog 45 [.slice A L.length c, iq b] T fun v H' => ∃ u, v = .tuple #[u, .string (str (jI3 L b).2.1), iq (jI3 L b).2.2.1, iq (jI3 L b).2.2.2] ∧ RowOk u (jI3 L b).1.length ∧ H' = rowE u 182 4 (jA2 (jI3 L b).1) := by
 have hmax : L.length ≤ maxLen := by show _ ≤ 9223372036854775807; omega
 refine fE 80 Tryz.func45 rfl (fun w0 => aR fun Z hZ => sA rfl rfl <| sA rfl rfl <| sA rfl rfl <| sAN hZ rfl rfl <| f2K 0 1 rfl <| vG4 <| aS <| jA0 [(0, .slice A L.length c), (1, iq b), (21, .bool (decide (b < 1 ∨ 16257 < b)))] T (fun Z hZ => ?_) ?_)
 ·refine sM rfl rfl <| jB0 ?_
  refine sM rfl rfl <| jB3 18 rfl (fun hb2 => ?_) (fun hb2 => ?_)
  ·refine sO0 ?_
   refine sO0 ?_
   refine sP0 ?_
   refine sN (hZ _ _ ?_ ?_)
   ·exact kE rfl (kE rfl (kE (congrArg some (congrArg Value.bool (by first | (simp at *; done) | (simp at *; omega) | (simp at *; rw [lS]; simp; omega)))) kF))
   ·exact hV _
  ·refine sOn0 ?_
   refine sM rfl rfl <| sOn0 ?_
   refine jC4 ?_
   refine sP0 ?_
   refine sN (hZ _ _ ?_ ?_)
   ·exact kE rfl (kE rfl (kE (congrArg some (congrArg Value.bool (by first | (simp at *; done) | (simp at *; omega) | (simp at *; rw [lS]; simp; omega)))) kF))
   ·exact hV _
 refine aC0 (fun h => ?_) (fun h => ?_)
 ·have h1 : b < 1 ∨ 16257 < b := by simpa using h
  rw [show jI3 L b = ([], [], 0, 2) by unfold jI3; rw [if_pos h1]]
  refine aR fun Z hZ => sA rfl rfl <| sA rfl rfl <| sA rfl rfl <| sAN hZ rfl rfl <| f4K 4 5 6 7 rfl <| aE ?_
  repeat (with_reducible (first | refine nTR ?_ | refine jD4 ?_))
  exact jW0 [] rfl rfl rfl rfl rfl (kA (lO _)) ⟨_, rfl, kI, rfl⟩
 have h1 : ¬ (b < 1 ∨ 16257 < b) := by simpa using h
 refine aK <| nN <| aS <| aR fun Z hZ => sM rfl rfl <| jD7 T (jY3 A c L T hA hT hro hmax hE) rfl (xO _) hro rfl <| sAN hZ rfl rfl <| f3K 0 1 8 rfl <| aR fun Z hZ => sM rfl rfl <| jA6 ?_
 refine sN (hZ _ _ <| f4K 0 1 8 25 rfl <| aC0 (fun h2 => ?_) (fun h2 => ?_))
 ·have h2' : rowC L ≠ 0 := by simp at h2; omega
  rw [show jI3 L b = ([], [], 0, rowC L) by unfold jI3; rw [if_neg h1, if_pos h2']]
  refine aR fun Z hZ => sM rfl rfl <| sA rfl rfl <| sA rfl rfl <| sA rfl rfl <| sAN hZ rfl rfl <| f4K 4 5 6 7 rfl <| aE ?_
  repeat (with_reducible (first | refine nTR ?_ | refine jD4 ?_))
  exact jW0 [] rfl rfl rfl rfl rfl (kA (lO _)) ⟨_, rfl, kI, rfl⟩
 have h2' : rowC L = 0 := by simp at h2; omega
 refine aK <| nN <| aS <| aR fun Z hZ => sM rfl rfl <| jD7 T (kN3 A c L T hA hT hro hmax hE) rfl (xO _) hro rfl <| sN (hZ _ _ <| f3K 0 1 28 rfl <| aC0 (fun h3 => ?_) (fun h3 => ?_))
 ·have h3' : jH8 L = true := h3
  rw [show jI3 L b = ([], [], 0, 14) by unfold jI3; rw [if_neg h1, if_neg (by simpa using h2'), if_pos h3']]
  refine aR fun Z hZ => sA rfl rfl <| sA rfl rfl <| sA rfl rfl <| sAN hZ rfl rfl <| f4K 4 5 6 7 rfl <| aE ?_
  repeat (with_reducible (first | refine nTR ?_ | refine jD4 ?_))
  exact jW0 [] rfl rfl rfl rfl rfl (kA (lO _)) ⟨_, rfl, kI, rfl⟩
 have h3' : ¬ jH8 L = true := by rw [show jH8 L = false from h3]; decide
 refine aK <| nN <| aS <| aR fun Z hZ => sM rfl rfl <| jD7 T (kZ0 A c L T hA hT hro (by omega) hE) rfl (xO _) hro rfl ?_
 refine sM rfl rfl <| jI2 rfl rfl rfl <| sN (hZ _ _ <| f3K 0 1 32 rfl <| aC0 (fun h4 => ?_) (fun h4 => ?_))
 ·have h4' : (jK7 L : Int) ≤ b := by simpa using h4
  rw [show jI3 L b = (L, [], 0, 0) by unfold jI3; rw [if_neg h1, if_neg (by simpa using h2'), if_neg h3', if_pos h4']]
  refine aR fun Z hZ => sM rfl rfl <| jZ4 T (vT9 A c L T hA hT hnil hro (by omega)) rfl (xO _) hro rfl ?_
  rintro v H' ⟨hv, rfl⟩
  rw [jE2]
  refine sA rfl rfl <| sA rfl rfl <| sA rfl rfl <| sAN hZ rfl rfl <| f4K 4 5 6 7 rfl <| aE ?_
  repeat (with_reducible (first | refine nTR ?_ | refine jD4 ?_))
  exact jW0 _ rfl rfl rfl rfl rfl (kA (xE _ _)) ⟨_, rfl, hv, rfl⟩
 have h4' : ¬ (jK7 L : Int) ≤ b := by simpa using h4
 have hL0 : 0 < L.length := by
  rcases zM L.length with h0 | h0
  ·exfalso
   have : L = [] := List.length_eq_zero_iff.1 h0
   subst this
   have hs0 : jK7 [] = 1 := by
    unfold jK7
    rw [if_pos (by rfl), show jF4 [] = [0] from rfl, sumB, allB, x5, List.flatMap_nil, kT4 (by omega)]
    rfl
   rw [hs0] at h4'
   omega
  ·exact h0
 have hD : jI3 L b = jS5 L b 13 1 := by unfold jI3; rw [if_neg h1, if_neg (by simpa using h2'), if_neg h3', if_neg h4']
 rw [hD]
 obtain ⟨D, hDD⟩ := xZ9 (jS5 L b 13 1)
 rw [hDD]
 refine aK <| nN <| aS (kN4 <| nN <| aS <| aA rfl rfl <| f3K 0 1 9 rfl <| aB ?_)
 refine jC3 (ι := Nat) (fun i => [(0, .slice A L.length c), (1, iq b), (9, iq (2 ^ i : Nat))]) (fun _ => T)
  (fun i => i ≤ 13 ∧ jS5 L b (13 - i) (2 ^ i) = D) (fun i => 13 - i) 0 ⟨by omega, hDD⟩ (kR rfl) (hV _) ?_
 rintro i ⟨hi, hq⟩
 refine aS <| aR fun Z hZ => sM rfl rfl <| jI2 rfl rfl rfl <| sN (hZ _ _ <| f4K 0 1 9 36 rfl <| aC0 (fun h5 => ?_) (fun h5 => ?_))
 ·have hz4 : 2 ^ i ≤ 4096 := Int.ofNat_le.1 (of_decide_eq_true h5)
  have hi12 : i ≤ 12 := by
   rcases xX i 13 with h | h
   ·omega
   ·have : 2 ^ 13 ≤ 2 ^ i := uG (by omega) h
    omega
  obtain ⟨m', hm'⟩ : ∃ m', 13 - i = m' + 1 := ⟨12 - i, by omega⟩
  have hz0 : 0 < 2 ^ i := Nat.pow_pos (by omega)
  have hpow : 2 ^ (i + 1) = 2 * 2 ^ i := by rw [qV]; omega
  rw [hm', jS5] at hq
  obtain ⟨z, hz⟩ := xZ9 (2 ^ i)
  rw [hz] at hq hz4 hz0 hpow
  refine aK <| nN <| kN5 (ι := Unit) (fun _ => [(0, .slice A L.length c), (1, iq b), (9, iq z)]) (fun _ => T) (fun _ => okQ L b z = false) ?_ ?_
  ·refine aB <| aF [(0, .slice A L.length c), (1, iq b), (9, iq z)] (kE rfl (kE rfl (kE (by show some (iq ((2 ^ i : Nat) : Int)) = _; rw [hz]) kF))) ?_
   refine aA rfl rfl <| f4K 0 1 9 10 rfl <| aA rfl rfl <| f5K 0 1 9 10 11 rfl <| aS <| aR fun Z hZ => sM rfl rfl <| sM rfl rfl <| jZ4 T (cut_fn A c L T z hA hT hro hL hc hz0 (by show _ ≤ 9223372036854775807; omega)) rfl (xO _) hro rfl ?_
   rintro v H' ⟨us, hv, husl, hus, hsnd, rfl⟩
   rw [((jL2 _ _ _ _).append (wJ4 us)).filter]
   obtain ⟨A1, c1, rfl, hA1, hle1⟩ := hv.ro
   refine jC6 (roE A1 (us.map Prod.fst) ++ (pcR us ++ T)) (HLe.trans (yK1 us (roE A1 (us.map Prod.fst)) T hus) (by rw [xD]; exact hle1 [] _ _ _ _)) ?_
   refine jE5 Tryz.underlying199 rfl rfl <| sMN hZ rfl rfl <| f8K 0 1 9 10 11 41 42 43 rfl ?_
   have hps : us.map Prod.snd = pcs L z := hsnd
   have hul : us.length ≤ 10000 := by
    rw [husl]
    rcases xX L.length (cntP L.length z) with h | h
    ·have h1 := (jQ0 hz0).1 h
     have := Nat.le_mul_of_pos_right L.length hz0
     omega
    ·omega
   have hro2 : Ro (roE A1 (us.map Prod.fst) ++ (pcR us ++ T)) := (kG _ _).append ((zG9 us).append hro)
   have hget : ∀ {j : Nat} {x : Value × List En}, us[j]? = some x → (pcs L z)[j]? = some x.2 := fun {j x} hx => by rw [← hps, xZ, hx]; rfl
   have hpl : (pcs L z).length = us.length := by rw [← hps, qY]
   refine kI9 (ι := Value × Value) (fun i => [(0, .slice A L.length c), (1, iq b), (9, iq z), (10, i.1), (11, i.2)]) (fun i => rowE i.1 182 4 (jA2 (jH6 0 (pcs L z))) ++ (rowE i.2 5 1 (bv (jH2 (pcs L z))) ++ (roE A1 (us.map Prod.fst) ++ (pcR us ++ T)))) (fun i => RowOk i.1 (pcs L z).length ∧ RowOk i.2 (jH2 (pcs L z)).length ∧ ∀ P ∈ pcs L z, (encQ P).2 = 0) ?_ ?_
   ·refine aB ?_
    refine jC3 (ι := Nat × Value × Value) (fun i => [(0, .slice A L.length c), (1, iq b), (9, iq z), (10, i.2.1), (11, i.2.2), (41, .slice A1 us.length c1), (42, iq (us.length : Nat)), (43, iq (i.1 : Nat))]) (fun i => rowE i.2.1 182 4 (jA2 (jH6 0 ((pcs L z).take i.1))) ++ (rowE i.2.2 5 1 (bv (jH2 ((pcs L z).take i.1))) ++ (roE A1 (us.map Prod.fst) ++ (pcR us ++ T))))
     (fun i => i.1 ≤ us.length ∧ RowOk i.2.1 i.1 ∧ RowOk i.2.2 (jH2 ((pcs L z).take i.1)).length ∧ ∀ P ∈ (pcs L z).take i.1, (encQ P).2 = 0) (fun i => us.length - i.1) (0, .slice none 0 0, .slice none 0 0) ⟨by simp, kI, by rw [lB]; exact kI, fun P hP => by rw [lB] at hP; cases hP⟩ (kR rfl) (hV _) ?_
    rintro ⟨j, v, w⟩ ⟨hj, hv2, hw2, hgood⟩
    simp only at hj hv2 hw2 hgood
    refine aR (fun Z hZ => jB0 ?_)
    refine sN (hZ _ _ <| f9K 0 1 9 10 11 41 42 43 44 rfl <| aS (aC0 (fun h6 => ?_) (fun h6 => ?_)))
    ·have hlt : j < us.length := by simpa using h6
     obtain ⟨x, hx⟩ : ∃ x, us[j]? = some x := ⟨_, xF hlt⟩
     have hxm := xN hx
     have hP := hget hx
     have hPm := xN hP
     have hP0 := wJ2 hz0 hPm
     have hPE : jF5 x.2 := fun e he => hE e (kW9 hPm e he)
     have hPl : x.2.length ≤ 10000 := by
      obtain ⟨q, _, hq⟩ := List.mem_map.1 hPm
      rw [← hq, kX0]
      omega
     obtain ⟨gp, cp, hxv⟩ := (hus x hxm).some hP0
     obtain ⟨u, P⟩ := x
     simp only at hxv hP hPm hP0 hPE hPl hxm
     subst hxv
     obtain ⟨ga, o1, hA1e⟩ := hA1.some (by omega)
     have hrd : rdV false 1 (us.map Prod.fst) j = some (.slice (some ⟨gp, 0, none⟩) P.length cp) := by show (us.map Prod.fst)[j]? = _; rw [xZ, hx]; rfl
     have htake : (pcs L z).take (j + 1) = (pcs L z).take j ++ [P] := by rw [List.take_add_one, hP]; rfl
     have hel := kC1 P
     have htl := vA8 ((pcs L z).take j)
     rw [xV, hpl, z8 hj] at htl
     obtain ⟨S, hS⟩ := xZ9 ((encQ P).1)
     obtain ⟨e, he⟩ := xZ9 ((encQ P).2)
     have henc := kR4 (some ⟨gp, 0, none⟩) cp P _ (fun _ => ⟨_, _, rfl⟩) (fun _ => rfl) (kG _ _) hPl hPE
     rw [hS, he] at henc
     rw [hS] at hel
     have hpsub : (roE (some ⟨gp, 0, none⟩) (jA2 P)).Sublist (rowE v 182 4 (jA2 (jH6 0 ((pcs L z).take j))) ++ (rowE w 5 1 (bv (jH2 ((pcs L z).take j))) ++ (roE A1 (us.map Prod.fst) ++ (pcR us ++ T)))) :=
      ((((yU0 hxm).trans (xE _ T)).trans (lX (roE A1 (us.map Prod.fst)) _)).trans (lX (rowE w 5 1 _) _)).trans (lX _ _)
     have hasub : (roE A1 (us.map Prod.fst)).Sublist (rowE v 182 4 (jA2 (jH6 0 ((pcs L z).take j))) ++ (rowE w 5 1 (bv (jH2 ((pcs L z).take j))) ++ (roE A1 (us.map Prod.fst) ++ (pcR us ++ T)))) :=
      ((xE _ (pcR us ++ T)).trans (lX (rowE w 5 1 _) _)).trans (lX _ _)
     refine aK <| nN <| aS (aB <| aR (fun Z hZ => jA8 (o1 + j * 1) Tryz.underlying199 tyS114 (by rw [hA1e]; rfl) rfl (by omega) (by simp) rfl ?_))
     refine jN2 (o := o1) (n := us.length) (size := 1) (xs := us.map Prod.fst) j rfl (by rw [qN]) (fun w hw => by rw [← hA1e]; exact yJ6 hA1 (fun y hy => hasub.subset hy) (by rw [qY]; omega) hw) (by omega) tyA114 tyS114 hrd rfl ?_
     refine sAN hZ rfl rfl <| f9K 0 1 9 10 11 13 41 42 43 rfl <| aR fun Z hZ => sM rfl rfl <| jD7 (roE (some ⟨gp, 0, none⟩) (jA2 P)) henc rfl hpsub (kG _ _) rfl <| sM rfl rfl <| sX rfl rfl rfl <| sX rfl rfl rfl <| sA rfl rfl <| sAN hZ rfl rfl <| f11K 0 1 9 10 11 13 14 15 41 42 43 rfl <| aS <| aR fun Z hZ => sM rfl rfl <| jA6 ?_
     refine sN (hZ _ _ <| f11K 0 1 9 10 11 13 14 41 42 43 53 rfl <| aC0 (fun h7 => ?_) (fun h7 => ?_))
     ·have he0 : e ≠ 0 := by simp at h7; omega
      refine jB5 ?_
      repeat (with_reducible (first | refine nTE ?_ | refine jI5 (by decide) ?_))
      refine nBE <| jJ9 () (yU5 hP (by rw [he]; exact he0)) (kR rfl) (kA (((lX (pcR us) T).trans (lX (roE A1 _) _)).trans ((lX (rowE w 5 1 _) _).trans (lX _ _))))
     have he0 : e = 0 := by simp at h7; omega
     subst he0
     refine aK <| nN ?_
     have hid : rdV false 1 (jA2 P) 0 = some (uq (atE P 0).id) := yT4 (k := 0) (kS3 hP0)
     have hroot : jH6 0 ((pcs L z).take (j + 1)) = jH6 0 ((pcs L z).take j) ++ [⟨(atE P 0).id, (jH2 ((pcs L z).take j)).length, S.length, 0⟩] := by rw [htake, kP9, kA2, hS, lA]
     have htext : jH2 ((pcs L z).take (j + 1)) = jH2 ((pcs L z).take j) ++ S := by rw [htake, vV7, hS]
     have hcells : jA2 (jH6 0 ((pcs L z).take (j + 1))) = jA2 (jH6 0 ((pcs L z).take j)) ++ [uq (atE P 0).id, uq (jH2 ((pcs L z).take j)).length, wq4 S.length, wq4 0] := by rw [hroot]; exact vL4 _ _
     obtain ⟨aw, cw, rfl, _⟩ := hw2.form
     refine aR fun Z hZ => sM rfl rfl <| sM rfl rfl <| jA8 0 Tryz.underlying114 tyS182 rfl rfl (by omega) (by simp) rfl ?_
     refine sFA0 jJ7 ?_
     refine jN2 (o := 0) (n := P.length) (size := 4) (xs := jA2 P) 0 rfl rfl (fun w hw => yJ6 (.inr ⟨_, _, rfl⟩) (fun y hy => hpsub.subset hy) (jI6 P) hw) hP0 tyA61 tyS61 hid rfl <| sM rfl rfl <| jE5 Tryz.underlying72 rfl rfl <| jD0 Tryz.underlying3 Tryz.underlying61 rfl (((jH2 ((pcs L z).take j)).length : Nat) : Int) (by rw [xK _ (by omega)]) rfl ?_
     refine sM rfl rfl <| jC8 Tryz.underlying9 rfl rfl <| jD0 Tryz.underlying3 Tryz.underlying180 rfl ((S.length : Nat) : Int) (by rw [yP4, zX (by omega)]) rfl ?_
     refine jB6 tyZ182 tyP182 ?_
     refine sBS0 Tryz.underlying114 tyS182 tyZ182 (fun g1 => ?_)
     refine jD3 (_ :: (rowE (.slice aw (jH2 ((pcs L z).take j)).length cw) 5 1 (bv (jH2 ((pcs L z).take j))) ++ (roE A1 (us.map Prod.fst) ++ (pcR us ++ T)))) kR2 rfl hv2 (by rw [jI6, kA1, xV, hpl, z8 hj]) rfl (fun w hw => jI0 (i := 0) (xs := [uq (atE P 0).id, uq (jH2 ((pcs L z).take j)).length, wq4 S.length, wq4 0]) rfl rfl hw) rfl (by show _ ≤ 9223372036854775807; omega) (by omega) (HLe.toEnd [_] _ _) rfl (fun v2 hv2' => ?_)
     rw [← hcells]
     refine sAN hZ rfl rfl <| f9K 0 1 9 10 11 14 41 42 43 rfl <| aG (fun Z hZ => sM rfl rfl <| sM rfl rfl <| jP8 (rowE v2 182 4 (jA2 (jH6 0 ((pcs L z).take (j + 1)))) ++ (roE A1 (us.map Prod.fst) ++ (pcR us ++ T))) Tryz.underlying72 Tryz.underlying9 (by kernel_rfl) rfl hw2 rfl (by omega) (zI0 _ _ _ _) rfl (fun w2 hw2' => ?_))
     rw [← htext]
     rw [← htext] at hw2'
     refine sAN hZ rfl rfl ?_
     refine nF [(0, _), (1, _), (9, _), (10, _), (11, _), (41, _), (42, _), (43, _)] (kR rfl) ?_
     repeat (with_reducible refine nBN ?_)
     refine nN ?_
     refine aG (fun Z hZ => ?_)
     refine jB7 rfl rfl ((j + 1 : Nat) : Int) (by rw [lT _ (by omega)]; omega) rfl ?_
     refine sMN hZ rfl rfl <| nF [(0, _), (1, _), (9, _), (10, _), (11, _), (41, _), (42, _), (43, _)] (kR rfl) <| jC2 (j + 1, v2, w2) ⟨by show j + 1 ≤ _; omega, hv2', hw2', fun Q hQ => ?_⟩ (by simp; omega) (kR rfl) ?_
     ·rw [htake] at hQ
      rcases List.mem_append.1 hQ with hQ | hQ
      ·exact hgood Q hQ
      ·rw [List.mem_singleton.1 hQ]; exact he
     ·exact yW0 _ _ _
    ·have hje : j = us.length := by simp at h6; omega
     subst hje
     have hall : (pcs L z).take us.length = pcs L z := zN (by omega)
     rw [hall] at hw2 hgood
     refine jB5 ?_
     repeat (with_reducible refine nTE ?_)
     refine nBE ?_
     refine jJ9 (v, w) ⟨by rw [hpl]; exact hv2, hw2, hgood⟩ (kR rfl) ?_
     simp only [hall]
     exact hV _
   ·rintro ⟨v, w⟩ ⟨hv2, hw2, hgood⟩
    simp only at hv2 hw2
    have hps0 : 0 < (pcs L z).length := by
     rw [vK0]
     exact (jQ0 hz0).2 (by omega)
    have hRE : jF5 (jH6 0 (pcs L z)) := kI2 _ 0 (fun P hP e he => hE e (kW9 hP e he)) (by omega)
    have hrl := kA1 (pcs L z) 0
    obtain ⟨gr, cr, rfl⟩ := hv2.some hps0
    have hok : okQ L b z = decide ((jK7 (jH6 0 (pcs L z)) : Int) ≤ b) := by
     unfold okQ
     rw [List.all_eq_true.2 (fun P hP => by simpa using hgood P hP), Bool.true_and]
    have hsz := kZ0 (some ⟨gr, 0, none⟩) cr (jH6 0 (pcs L z)) _ (fun _ => ⟨_, _, rfl⟩) (fun _ => rfl) (kG _ _) (by omega) hRE
    rw [hrl] at hsz
    refine nN <| aS <| aR fun Z hZ => sM rfl rfl <| jO0 (roE (some ⟨gr, 0, none⟩) (jA2 (jH6 0 (pcs L z)))) hsz rfl ((kA (xJ _ (lO _))).trans (HLe.rowRo [] _)) (kG _ _) rfl <| sM rfl rfl <| jC4 ?_
    refine sN (hZ _ _ <| f6K 0 1 9 10 11 75 rfl <| aC0 (fun h8 => ?_) (fun h8 => ?_))
    ·have hbad : ¬ (jK7 (jH6 0 (pcs L z)) : Int) ≤ b := by simp at h8; omega
     refine jB5 ?_
     repeat (with_reducible refine nTE ?_)
     refine nBE ?_
     exact jJ9 () (by rw [hok, decide_eq_false hbad]) (kR rfl) (kA (((lX (pcR us) T).trans (lX (roE A1 _) _)).trans ((lX (rowE w 5 1 _) _).trans (qX _ _))))
    have hgd : (jK7 (jH6 0 (pcs L z)) : Int) ≤ b := by simp at h8; omega
    rw [hok, decide_eq_true hgd, if_pos rfl] at hq
    rw [← hq]
    have htp : 0 < (jH2 (pcs L z)).length := by
     match hpc : pcs L z, hps0 with
     | P :: r, _ =>
      rw [hpc] at hgood
      have h1 := kY9 (hgood P lP)
      have h2 := vA1 P
      rw [jH2, x5, lN, h1.2.2]
      show 0 < (allB (jF4 P)).length + _
      omega
    obtain ⟨gw, cw, rfl⟩ := hw2.some htp
    refine aK <| nN <| jA7 [.ob gr (RowP 182 4 (pcs L z).length cr (jA2 (jH6 0 (pcs L z)))), .ob gw (RowP 5 1 (jH2 (pcs L z)).length cw (bv (jH2 (pcs L z))))] (kA (xJ _ (xJ _ (lO _)))) <| jD5 _ [(0, true), (1, true), (2, false), (3, true), (4, true), (5, true), (6, true), (7, true)] jF1 (by kernel_rfl) (HLe.pick [0, 1] (by simp) (by simp only [pick, l8, qS]; rfl)) (fun Z hZ => ?_)
    refine tw_p rfl <| jA5 ?_
    refine vN <| tw_p rfl <| jA5 ?_
    refine vN <| tw_g rfl <| jO9 (l := jH2 (pcs L z)) Tryz.underlying72 Tryz.underlying5 Tryz.underlying9 rfl (fun w hw => jS6 (i := 1) rfl hw) rfl <| sN ⟨pH [0, 1] rfl, ?_⟩
    refine tw_p rfl <| jA5 ?_
    refine vN <| tw_p rfl <| jE3 rfl rfl <| vN <| tw_p rfl <| jE3 rfl rfl <| vN <| tw_p rfl <| jE3 rfl rfl <| vN ?_
    refine tw_p rfl <| jE3 rfl rfl <| vN <| jH1 (hZ _ _ <| f4K 4 5 6 7 rfl <| aE ?_)
    repeat (with_reducible (first | refine nTR ?_ | refine nBR ?_ | refine jD4 ?_))
    exact jW0 _ rfl rfl rfl rfl rfl (pH [0] rfl) ⟨_, rfl, by rw [hrl]; exact RowOk.mk _ _ _, rfl⟩
  ·rintro ⟨⟩ hok
   rw [hok] at hq
   rw [if_neg (by decide)] at hq
   refine aG (fun Z hZ => sM rfl rfl <| kK3 rfl rfl ((2 ^ (i + 1) : Nat) : Int) (by rw [hpow, lT _ (by omega)]; omega) rfl ?_)
   refine sAN hZ rfl rfl <| nF [(0, _), (1, _), (9, _)] (kR rfl) <| jC2 (i + 1) ⟨by omega, by rw [hpow, show 13 - (i + 1) = m' by omega]; exact hq⟩ (by omega) (kR rfl) (hV _)
 ·have hi13 : i = 13 := by
   rcases xX i 13 with h | h
   ·have : 2 ^ i ≤ 2 ^ 12 := uG (by omega) (by omega)
    exact absurd (Int.ofNat_le.2 (uI this (by decide : 2 ^ 12 ≤ 4096))) (of_decide_eq_false h5)
   ·omega
  subst hi13
  rw [uK, jS5] at hq
  rw [← hq]
  refine jB5 ?_
  repeat (with_reducible refine nTE ?_)
  refine nBE ?_
  refine nN ?_
  refine aR fun Z hZ => sA rfl rfl <| sA rfl rfl <| sA rfl rfl <| sAN hZ rfl rfl ?_
  refine f4K 4 5 6 7 rfl ?_
  refine aE ?_
  repeat refine jD4 ?_
  exact jW0 [] rfl rfl rfl rfl rfl (kA (lO _)) ⟨_, rfl, kI, rfl⟩
end V
namespace V
open Go.RowKit
def jJ2 (p : En) (t : List UInt8) : List En × Nat :=
 if t.length < p.off + p.len then ([], 8)
 else if (decQ ((t.drop p.off).take p.len)).2.2 ≠ 0 then ([], (decQ ((t.drop p.off).take p.len)).2.2)
 else if jH8 (decQ ((t.drop p.off).take p.len)).1 = true then ([], 20)
 else if (decQ ((t.drop p.off).take p.len)).1.length = 0 ∨ (atE (decQ ((t.drop p.off).take p.len)).1 0).id ≠ p.id then ([], 10)
 else ((decQ ((t.drop p.off).take p.len)).1, 0)
def jQ9 (t : List UInt8) : List En → List En → List En × Nat
 | out, [] => if rowC out ≠ 0 then ([], rowC out) else (out, 0)
 | out, x :: r => if kB4 x = true then (if (jJ2 x t).2 ≠ 0 then ([], (jJ2 x t).2) else jQ9 t (out ++ (jJ2 x t).1) r) else jQ9 t (out ++ [x]) r
def jT0 (L : List En) (t : List UInt8) : List En × Nat := if rowC L ≠ 0 then ([], rowC L) else jQ9 t [] L
theorem kM0 (p : En) (t : List UInt8) : (jJ2 p t).1.length ≤ 4096 ∧ jF5 (jJ2 p t).1 := by
 have he : jF5 [] := fun e h => by cases h
 obtain ⟨h1, h2, _⟩ := kZ1 ((t.drop p.off).take p.len)
 unfold jJ2
 split
 ·exact ⟨lZ _, he⟩
 split
 ·exact ⟨lZ _, he⟩
 split
 ·exact ⟨lZ _, he⟩
 split
 ·exact ⟨lZ _, he⟩
 ·exact ⟨h1, h2⟩
theorem yB3 (p : En) (hp : p.ok) (ho : p.off ≤ 1099511627776) (t : List UInt8) (ht : t.length ≤ 1000000) :
  Fn Tryz.prog 182 [p.val, .string (str t)] [] fun v H' => ∃ u, v = .tuple #[u, iq (jJ2 p t).2] ∧ RowOk u (jJ2 p t).1.length ∧ H' = rowE u 182 4 (jA2 (jJ2 p t).1) := by
 obtain ⟨p1, p2, p3, p4⟩ := hp
 refine fE 55 Tryz.func182 rfl (fun w0 => aR (fun Z hZ => jB2 (fun g1 => ?_)))
 refine sA rfl rfl <| sAN hZ rfl rfl <| f2K 1 2 rfl <| aS <| aR (fun Z hZ => sFA0 jH0 ?_)
 first | refine sL0 0 tyA61 tyS61 ?_
 refine sFA0 jJ6 ?_
 first | refine sL0 0 tyA180 tyS180 ?_
 refine jD0 Tryz.underlying180 Tryz.underlying61 rfl ((p.len : Nat) : Int) (by rw [xK _ (by omega)]) rfl ?_
 refine jB7 rfl rfl ((p.off + p.len : Nat) : Int) (by rw [xK _ (by omega)]; omega) rfl ?_
 refine sM rfl rfl <| jC8 Tryz.underlying9 rfl rfl <| jD0 Tryz.underlying3 Tryz.underlying61 rfl ((t.length : Nat) : Int) (by rw [xK _ (by omega)]) rfl ?_
 refine jC4 ?_
 refine sN (hZ _ _ <| f3K 1 2 18 rfl <| aC0 (fun h => ?_) (fun h => ?_))
 ·have h1 : t.length < p.off + p.len := by simp at h; omega
  rw [show jJ2 p t = ([], 8) by unfold jJ2; rw [if_pos h1]]
  refine aR fun Z hZ => sA rfl rfl <| sAN hZ rfl rfl ?_
  refine f2K 4 5 rfl ?_
  refine aE ?_
  repeat (with_reducible refine nTR ?_)
  exact jD8 [] rfl rfl rfl (kA (lO _)) ⟨_, rfl, kI, rfl⟩
 have h1 : ¬ t.length < p.off + p.len := by simp at h; omega
 obtain ⟨s, hs⟩ := xZ9 ((t.drop p.off).take p.len)
 have hsl : s.length ≤ 1000000 := by rw [← hs, xV, qF]; omega
 have hD := kR5 s hsl
 obtain ⟨d1, d2, d3, d4⟩ := kZ1 s
 obtain ⟨M, hM⟩ := xZ9 ((decQ s).1)
 obtain ⟨e, he⟩ := xZ9 ((decQ s).2.2)
 rw [hM, he] at hD
 rw [hM] at d1 d2
 have hmax : M.length ≤ maxLen := by show _ ≤ 9223372036854775807; omega
 refine aK <| nN <| aR fun Z hZ => sM rfl rfl <| sFA0 jH0 ?_
 first | refine sL0 0 tyA61 tyS61 ?_
 refine sFA0 jH0 ?_
 first | refine sL0 0 tyA61 tyS61 ?_
 refine sFA0 jJ6 ?_
 first | refine sL0 0 tyA180 tyS180 ?_
 refine jD0 Tryz.underlying180 Tryz.underlying61 rfl ((p.len : Nat) : Int) (by rw [xK _ (by omega)]) rfl ?_
 refine jB7 rfl rfl ((p.off + p.len : Nat) : Int) (by rw [xK _ (by omega)]; omega) rfl ?_
 refine jF7 s Tryz.underlying9 rfl rfl rfl (by omega) (by omega) (by omega) (by rw [← hs]; simp only [x4]; rw [uF]) rfl ?_
 refine jB4 [] [_] hD rfl (hV _) rfl ?_
 rintro v H' ⟨u, rfl, hu, rfl⟩
 rw [jE2]
 obtain ⟨A1, c1, rfl, hA1, hle1⟩ := hu.ro
 refine jC6 ([_] ++ rowE (.slice A1 M.length c1) 182 4 (jA2 M)) (kD _ _) <| sM rfl rfl <| sX rfl rfl rfl <| sX rfl rfl rfl <| sX rfl rfl rfl <| sA rfl rfl <| sA rfl rfl <| sAN hZ rfl rfl <| f3K 2 6 8 rfl <| aS (aB <| aR fun Z hZ => sM rfl rfl <| jA6 ?_)
 refine sAN hZ rfl rfl <| f4K 2 6 8 34 rfl <| aC0 (fun h2 => ?_) (fun h2 => ?_)
 ·have he0 : e ≠ 0 := by simp at h2; omega
  rw [show jJ2 p t = ([], e) by unfold jJ2; rw [if_neg h1, hs, he, if_pos he0]]
  refine aR fun Z hZ => sM rfl rfl <| sA rfl rfl <| sAN hZ rfl rfl ?_
  refine f2K 4 5 rfl ?_
  refine aE ?_
  repeat (with_reducible (first | refine nTR ?_ | refine nBR ?_))
  exact jD8 [] rfl rfl rfl (kA (lO _)) ⟨_, rfl, kI, rfl⟩
 have he0 : e = 0 := by simp at h2; omega
 refine aR fun Z hZ => sM rfl rfl <| jO0 (roE A1 (jA2 M)) (kN3 A1 c1 M _ hA1.arg (fun _ => rfl) (kG _ _) hmax d2) rfl (kW6 hle1 [.own g1 182 p.cells] _ _ _) (kG _ _) rfl <| sAN hZ rfl rfl <| f3K 2 6 38 rfl <| aC0 (fun h3 => ?_) (fun h3 => ?_)
 ·have h3' : jH8 M = true := h3
  rw [show jJ2 p t = ([], 20) by unfold jJ2; rw [if_neg h1, hs, he, if_neg (by simpa using he0), hM, if_pos h3']]
  refine aR fun Z hZ => sA rfl rfl <| sAN hZ rfl rfl ?_
  refine f2K 4 5 rfl ?_
  refine aE ?_
  repeat (with_reducible (first | refine nTR ?_ | refine nBR ?_))
  exact jD8 [] rfl rfl rfl (kA (lO _)) ⟨_, rfl, kI, rfl⟩
 have h3' : ¬ jH8 M = true := by rw [show jH8 M = false from h3]; decide
 have hAs : 0 < M.length → ∃ g, A1 = some ⟨g, 0, none⟩ := fun h0 => by
  obtain ⟨g, c', hh⟩ := hu.some h0
  injection hh with hh _ _
  exact ⟨g, hh⟩
 obtain ⟨gz, hgz⟩ : ∃ g, 0 < M.length → A1 = some ⟨g, 0, none⟩ := by
  rcases zM M.length with h0 | h0
  ·exact ⟨0, fun h => by omega⟩
  ·obtain ⟨g, hg⟩ := hAs h0
   exact ⟨g, fun _ => hg⟩
 have hpos : ((M.length : Int) == 0) = false → 0 < M.length := fun h => by simp at h; exact List.length_pos_iff.2 h
 refine jF0 [(6, .slice A1 M.length c1), (41, .bool (decide (M.length = 0 ∨ (atE M 0).id ≠ p.id)))] ([.own g1 182 p.cells] ++ rowE (.slice A1 M.length c1) 182 4 (jA2 M)) jF1 (by kernel_rfl) (fun Z hZ => ?_) ?_
 ·refine qM rfl rfl <| vP8 Tryz.underlying114 rfl rfl <| jP1 rfl rfl rfl <| qM rfl rfl <| jK3 45 rfl (fun hb3 => ?_) (fun hb3 => ?_)
  ·refine qO0 ?_
   refine qO0 ?_
   refine qO0 ?_
   refine qO0 ?_
   refine qO0 ?_
   refine qO0 ?_
   refine qO0 ?_
   refine jE1 rfl rfl rfl <| jB8 rfl rfl <| jE9 (hZ _ _ ?_ ?_)
   ·exact kE rfl (kE (congrArg some (congrArg Value.bool (by first | (simp at hb3; subst hb3; rfl) | (simp at hb3; rw [lS]; simp [hb3]; omega) | (simp at hb3; rw [lS]; simp [hb3])))) kF)
   ·exact hV _
  ·refine jA4 ?_
   refine qM rfl rfl <| jA4 ?_
   refine jG1 0 Tryz.underlying114 tyS182 (by rw [hgz (hpos hb3)]; rfl) rfl (by have := hpos hb3; omega) (by simp) rfl ?_
   refine jA4 ?_
   refine qFA0 jJ7 ?_
   refine jA4 ?_
   refine jU5 (o := 0) (n := M.length) (size := 4) (xs := jA2 M) 0 rfl rfl (fun w hw => by have hg := hgz (hpos hb3); subst hg; exact jL3 hu (jI6 M) (fun y hy => x7 _ hy) hw) (hpos hb3) tyA61 tyS61 (yT4 (k := 0) (kS3 (hpos hb3))) rfl ?_
   refine jA4 ?_
   refine qFA0 jJ7 ?_
   refine jA4 ?_
   first | refine jA9 0 tyA61 tyS61 ?_
   refine jA4 ?_
   refine vC5 rfl rfl rfl <| jE1 rfl rfl rfl <| jB8 rfl rfl <| jE9 (hZ _ _ ?_ ?_)
   ·exact kE rfl (kE (congrArg some (congrArg Value.bool (by first | (simp at hb3; subst hb3; rfl) | (simp at hb3; rw [lS]; simp [hb3]; omega) | (simp at hb3; rw [lS]; simp [hb3])))) kF)
   ·exact hV _
 refine aC0 (fun h4 => ?_) (fun h4 => ?_)
 ·have h4' : M.length = 0 ∨ (atE M 0).id ≠ p.id := by simpa using h4
  rw [show jJ2 p t = ([], 10) by unfold jJ2; rw [if_neg h1, hs, he, if_neg (by simpa using he0), hM, if_neg h3', if_pos h4']]
  refine aR fun Z hZ => sA rfl rfl <| sAN hZ rfl rfl ?_
  refine f2K 4 5 rfl ?_
  refine aE ?_
  repeat (with_reducible (first | refine nTR ?_ | refine nBR ?_))
  exact jD8 [] rfl rfl rfl (kA (lO _)) ⟨_, rfl, kI, rfl⟩
 have h4' : ¬ (M.length = 0 ∨ (atE M 0).id ≠ p.id) := by simpa using h4
 rw [show jJ2 p t = (M, 0) by unfold jJ2; rw [if_neg h1, hs, he, if_neg (by simpa using he0), hM, if_neg h3', if_neg h4']]
 refine aK ?_
 repeat (with_reducible refine nBN ?_)
 refine nN ?_
 refine aR fun Z hZ => sM rfl rfl <| sA rfl rfl <| sAN hZ rfl rfl ?_
 refine f2K 4 5 rfl ?_
 refine aE ?_
 exact jD8 _ rfl rfl rfl (kA (lX _ _)) ⟨_, rfl, hu, rfl⟩
end V
namespace V
open Go.RowKit
theorem yW6 (A : Option Addr) (c : Nat) (L : List En) (T : Heap) (hA : jK9 A L.length) (hT : 0 < L.length → T = roE A (jA2 L)) (hro : Ro T) (hL : L.length ≤ maxLen) (hE : jF5 L) (t : List UInt8) (ht : t.length ≤ 1000000) :
  Fn Tryz.prog 111 [.slice A L.length c, .string (str t)] T fun v H' => ∃ u, v = .tuple #[u, iq (jT0 L t).2] ∧ RowOk u (jT0 L t).1.length ∧ H' = rowE u 182 4 (jA2 (jT0 L t).1) := by
 have hL' : L.length ≤ 9223372036854775807 := hL
 refine fE 50 Tryz.func111 rfl (fun w0 => aR fun Z hZ => sA rfl rfl <| sAN hZ rfl rfl <| f2K 0 1 rfl <| aS <| aR fun Z hZ => sM rfl rfl <| jD7 T (jY3 A c L T hA hT hro hL hE) rfl (xO _) hro rfl <| sAN hZ rfl rfl <| f3K 0 1 6 rfl <| aR fun Z hZ => sM rfl rfl <| jA6 ?_)
 refine sN (hZ _ _ <| f4K 0 1 6 16 rfl <| aC0 (fun h => ?_) (fun h => ?_))
 ·have hr : rowC L ≠ 0 := by simp at h; omega
  rw [show jT0 L t = ([], rowC L) by unfold jT0; rw [if_pos hr]]
  refine aR fun Z hZ => sM rfl rfl <| sA rfl rfl <| sAN hZ rfl rfl ?_
  refine f2K 4 5 rfl ?_
  refine aE ?_
  repeat (with_reducible refine nTR ?_)
  exact jD8 [] rfl rfl rfl (kA (lO _)) ⟨_, rfl, kI, rfl⟩
 have hr : rowC L = 0 := by simp at h; omega
 obtain ⟨hl, hat⟩ := vJ6 hr hE
 obtain ⟨D, hD⟩ := xZ9 (jQ9 t [] L)
 rw [show jT0 L t = D by unfold jT0; rw [if_neg (by simpa using hr), hD]]
 refine aK <| nN <| aA rfl rfl <| f3K 0 1 7 rfl <| aS <| aR fun Z hZ => sM rfl rfl <| jE5 Tryz.underlying114 rfl rfl <| sMN hZ rfl rfl <| f5K 1 7 18 19 20 rfl <| aB ?_
 refine jC3 (ι := Nat × Value × List En) (fun i => [(1, .string (str t)), (7, i.2.1), (18, .slice A L.length c), (19, iq (L.length : Nat)), (20, iq (i.1 : Nat))]) (fun i => T ++ rowE i.2.1 182 4 (jA2 i.2.2))
  (fun i => i.1 ≤ L.length ∧ RowOk i.2.1 i.2.2.length ∧ jF5 i.2.2 ∧ i.2.2.length ≤ i.1 * 4096 ∧ jQ9 t i.2.2 (L.drop i.1) = D) (fun i => L.length - i.1) (0, .slice none 0 0, []) ⟨by simp, kI, fun e he => (by cases he), by simp, hD⟩ (kR rfl) (by simp [rowE]; exact hV _) ?_
 rintro ⟨k, v, out⟩ ⟨hk, hv, hO, hol, hq⟩
 simp only at hk hv hO hol hq
 refine aR (fun Z hZ => jB0 ?_)
 refine sN (hZ _ _ <| f6K 1 7 18 19 20 21 rfl <| aS (aC0 (fun h1 => ?_) (fun h1 => ?_)))
 ·have hlt : k < L.length := by simpa using h1
  have hx := kS3 hlt
  have hxo := jX4 hE k
  have hoff := (hat k hlt).2
  obtain ⟨x, hxe⟩ := xZ9 (atE L k)
  rw [hxe] at hx hxo hoff
  have hdr : L.drop k = x :: L.drop (k + 1) := by rw [zA hlt]; congr 1; exact (List.getElem?_eq_some_iff.1 hx).2
  rw [hdr, jQ9] at hq
  obtain ⟨ga, o, rfl⟩ := hA (by omega)
  obtain rfl := hT (by omega)
  refine aK <| nN <| kN5 (ι := Value × List En) (fun i => [(1, .string (str t)), (7, i.1), (18, .slice (some ⟨ga, o, none⟩) L.length c), (19, iq (L.length : Nat)), (20, iq (k : Nat))]) (fun i => [.ro ga o (jA2 L)] ++ rowE i.1 182 4 (jA2 i.2)) (fun i => RowOk i.1 i.2.length ∧ jF5 i.2 ∧ i.2.length ≤ (k + 1) * 4096 ∧ jQ9 t i.2 (L.drop (k + 1)) = D) ?_ ?_
  ·refine aB <| aR (fun Z hZ => jA8 (o + k * 4) Tryz.underlying114 tyS182 rfl rfl (by omega) (by simp) rfl ?_)
   refine jE0 0 rfl rfl (k * 4) rfl tyA182 tyS182 (jK6 hx) rfl <| sAl tyZ182 rfl (fun g1 => sS0 0 tyS182 ?_)
   refine sN (hZ _ _ <| f6K 1 7 9 18 19 20 rfl <| aS <| aR (fun Z hZ => sLA0 0 tyA182 tyS182 ?_))
   refine sCP0 (kQ1 x hxo) ?_
   refine jE8 rfl rfl <| sN (hZ _ _ <| f7K 1 7 9 18 19 20 26 rfl <| aC0 (fun h2 => ?_) (fun h2 => ?_))
   ·have hp : kB4 x = false := by simpa using h2
    rw [hp, if_neg (by decide)] at hq
    refine aR fun Z hZ => sM rfl rfl <| sLA0 0 tyA182 tyS182 ?_
    refine sBS0 Tryz.underlying114 tyS182 tyZ182 (fun g2 => ?_)
    refine jD3 [_, _, _] kR2 rfl hv (jI6 out) rfl (fun w hw => jI0 (i := 0) (xs := x.cells) rfl rfl hw) rfl (by show _ ≤ 9223372036854775807; omega) (by omega) (hV _) rfl (fun v2 hv2 => ?_)
    rw [show jA2 out ++ x.cells = jA2 (out ++ [x]) from (vL4 _ _).symm]
    refine sAN hZ rfl rfl ?_
    refine f5K 1 7 18 19 20 rfl ?_
    refine jB5 ?_
    repeat (with_reducible refine nTE ?_)
    refine nBE ?_
    refine jJ9 (v2, out ++ [x]) ⟨by simpa using hv2, fun e he => ?_, by simp; omega, hq⟩ (kR rfl) (kA (qA _ (qA _ (xO _))))
    rcases List.mem_append.1 he with he | he
    ·exact hO e he
    ·rw [List.mem_singleton.1 he]; exact hxo
   have hp : kB4 x = true := by simpa using h2
   rw [hp, if_pos rfl] at hq
   have hpc := yB3 x hxo hoff t ht
   obtain ⟨q1, q2⟩ := kM0 x t
   obtain ⟨M, hM⟩ := xZ9 ((jJ2 x t).1)
   obtain ⟨e, he⟩ := xZ9 ((jJ2 x t).2)
   rw [hM, he] at hpc hq
   rw [hM] at q1 q2
   refine aK <| nN <| aR (fun Z hZ => sLA0 0 tyA182 tyS182 ?_)
   refine sM rfl rfl <| jB4 [] (_ :: .ro ga o (jA2 L) :: rowE v 182 4 (jA2 out)) hpc rfl (hV _) rfl ?_
   rintro v H' ⟨u, rfl, hu, rfl⟩
   rw [jE2]
   refine sM rfl rfl <| sX rfl rfl rfl <| sX rfl rfl rfl <| sA rfl rfl <| sAN hZ rfl rfl <| f7K 1 7 10 11 18 19 20 rfl <| aS <| aR fun Z hZ => sM rfl rfl <| jA6 ?_
   refine sN (hZ _ _ <| f8K 1 7 10 11 18 19 20 38 rfl <| aC0 (fun h3 => ?_) (fun h3 => ?_))
   ·have he0 : e ≠ 0 := by simp at h3; omega
    rw [if_pos he0] at hq
    rw [← hq]
    refine aR fun Z hZ => sM rfl rfl <| sA rfl rfl <| sAN hZ rfl rfl ?_
    refine f2K 4 5 rfl ?_
    refine aE ?_
    repeat (with_reducible (first | refine nTR ?_ | refine nBR ?_))
    exact jD8 [] rfl rfl rfl (kA (lO _)) ⟨_, rfl, kI, rfl⟩
   have he0 : e = 0 := by simp at h3; omega
   rw [if_neg (by simpa using he0)] at hq
   refine aK <| nN ?_
   obtain ⟨A2, c2, rfl, hA2⟩ := hu.form
   refine aG (fun Z hZ => sM rfl rfl <| sM rfl rfl <| jD3 (rowE (.slice A2 M.length c2) 182 4 (jA2 M) ++ [_, _]) kR2 rfl hv (jI6 out) rfl (fun w hw => jL3 hu (jI6 M) (fun y hy => xI _ hy) hw) (kR3 M) (by show _ ≤ 9223372036854775807; omega) (by omega) (by rw [xD]; exact hV _) rfl (fun v2 hv2 => ?_))
   rw [show jA2 out ++ jA2 M = jA2 (out ++ M) from by simp [jA2]]
   refine sAN hZ rfl rfl ?_
   refine nF [(1, _), (7, _), (18, _), (19, _), (20, _)] (kR rfl) ?_
   repeat (with_reducible refine nBN ?_)
   refine jJ9 (v2, out ++ M) ⟨by simpa using hv2, fun e he => ?_, by simp; omega, hq⟩ (kR rfl) (kA (by rw [xD]; exact (qA _ (xO _)).trans (lX _ _)))
   rcases List.mem_append.1 he with he | he
   ·exact hO e he
   ·exact q2 e he
  ·rintro ⟨v2, out2⟩ ⟨hv2, hO2, hol2, hq2⟩
   refine aG (fun Z hZ => ?_)
   refine jB7 rfl rfl ((k + 1 : Nat) : Int) (by rw [lT _ (by omega)]; omega) rfl ?_
   refine sMN hZ rfl rfl <| nF [(1, _), (7, _), (18, _), (19, _), (20, _)] (kR rfl) <| jC2 (k + 1, v2, out2) ⟨by show k + 1 ≤ _; omega, hv2, hO2, hol2, hq2⟩ (by simp; omega) (kR rfl) (hV _)
 ·refine jB5 ?_
  repeat (with_reducible refine nTE ?_)
  refine nBE ?_
  refine nN ?_
  have hke : k = L.length := by simp at h1; omega
  subst hke
  rw [uO, jQ9] at hq
  have hom : out.length ≤ maxLen := by show _ ≤ 9223372036854775807; omega
  obtain ⟨A3, c3, rfl, hA3, hle3⟩ := hv.ro
  refine aS <| aR fun Z hZ => sM rfl rfl <| jO0 (roE A3 (jA2 out)) (jY3 A3 c3 out _ hA3.arg (fun _ => rfl) (kG _ _) hom hO) rfl (kW6 hle3 T _ _ _) (kG _ _) rfl <| sAN hZ rfl rfl <| f2K 7 12 rfl <| aR fun Z hZ => sM rfl rfl <| jA6 ?_
  refine sN (hZ _ _ <| f3K 7 12 47 rfl <| aC0 (fun h2 => ?_) (fun h2 => ?_))
  ·have hr2 : rowC out ≠ 0 := by simp at h2; omega
   rw [if_pos hr2] at hq
   rw [← hq]
   refine aR fun Z hZ => sM rfl rfl <| sA rfl rfl <| sAN hZ rfl rfl ?_
   refine f2K 4 5 rfl ?_
   refine aE ?_
   repeat (with_reducible refine nTR ?_)
   exact jD8 [] rfl rfl rfl (kA (lO _)) ⟨_, rfl, kI, rfl⟩
  have hr2 : rowC out = 0 := by simp at h2; omega
  rw [if_neg (by simpa using hr2)] at hq
  rw [← hq]
  refine aK <| nN <| aR fun Z hZ => sM rfl rfl <| sA rfl rfl <| sAN hZ rfl rfl <| f2K 4 5 rfl <| aE <| jD8 _ rfl rfl rfl (kA (lX _ _)) ⟨_, rfl, hv, rfl⟩
end V
namespace V
open Go.RowKit
theorem vY4 (L : List En) : jH8 L = decide (0 < (L.filter kB4).length) := by
 induction L with
 | nil => rfl
 | cons x r ih =>
  rw [jH8, List.any_cons, xL]
  cases hx : kB4 x with
  | true => simp
  | false => simpa [jH8] using ih
end V
namespace V
open Go.RowKit
end V
section
open Go.RowKit
def FnD (P : Program) (f : FuncId) (args : List Value) (H : Heap) (R : Value → Heap → Prop) : Prop :=
 Enters P f ∧ ∀ w u, Sat w (wrs H) H w → CallsDIn Fence.wide 0 P f args.toArray u w fun e u' w' => u' = u ∧ jN7 w (wrs H) R e w'
theorem FnD.enter {P : Program} {N : Nat} {f : FuncId} {fn : Func} {c : Code} {args : List Value} {H : Heap} {R : Value → Heap → Prop} (hf : P.funcs[f]? = some fn) (hb : fn.body = some c) (hn : (fn.name == "runtime.NumGoroutine") = false) (hN : args.length + (fn.ntmps - args.length) = N)
  (h : ∀ w0, awp P ⟨N, none, []⟩ w0 (wrs H) c (kN0 0 args) H (bodyPost P fn (jN7 w0 (wrs H) R))) : FnD P f args H R := by
 refine ⟨⟨fn, hf, hn, by simp [hb]⟩, fun w u hw => callsDIn_of_wp (n := 0) hf hb trivial (h w _ w ⟨?_, rfl, ?_⟩ hw (fun e => by cases e))⟩
 ·simp [← hN]
 ·intro t v ht
  obtain ⟨k, rfl, hk⟩ := kX8 args 0 t v ht
  have hl : k < args.length := (List.getElem?_eq_some_iff.1 hk).1
  simp only [lA]
  rw [Array.getElem?_append_left (by simpa using hl)]
  simpa using hk
section
variable {P : Program} {n : Nat} {ds : List Mk} {w0 : World} {Wr : List Nat} {fr : Fr} {H : Heap} {Q : Exit → Act → World → Prop}
theorem yP2 {fn : Func} {R : Ending → World → Prop} {f : FuncId} {caps : List Value} {Rd : Value → Heap → Prop} (Hc K : Heap) (hc : FnD P f caps Hc Rd) (hk : HLe (Hc ++ K) H)
  (h : ∀ v H', Rd v H' → ∀ a w, FrOk ⟨n, none, ds⟩ fr a → Sat w0 Wr (H'.filter Ent.wr ++ K) w → LeavesInM Fence.wide 0 P fn a.tmps R a.defers .returning w) :
  ∀ a w, FrOk ⟨n, none, .fn f caps :: ds⟩ fr a → Sat w0 Wr H w → LeavesInM Fence.wide 0 P fn a.tmps R a.defers .returning w := fun a w ha hw => by
 rw [ha.defers]
 have hw' := hk _ _ _ hw
 have hpre : Sat w (wrs Hc) Hc w := (hw'.sub (xE Hc K)).base
 obtain ⟨g, h1, h2, h3⟩ := hc.1
 have h2' : ¬ (g.name = "runtime.NumGoroutine") := by simpa using h2
 have h3' : ¬ (g.body = none) := by intro e; rw [e] at h3; cases h3
 refine ⟨by simp, .inr ⟨(fun e => by cases e), .func f, caps.toArray, f, caps.toArray, rfl, ?_, (fun _ _ => trivial), ?_⟩⟩
 ·simp [jS7, invoke, callFunc, h1, h2', h3', program, lJ, l7, Sem.run]
 ·refine (hc.2 w .returning hpre).mono fun e u' w' he => ?_
  obtain ⟨rfl, v, H', rfl, hR, hS⟩ := he
  have h4 := Sat.callA (Hc := Hc) (K := K) (U := []) hw' Ro.nil (by rw [lH]; exact hS)
  exact h v H' hR { tmps := a.tmps, defers := ds.map jS7 } w' ⟨ha.size, rfl, ha.at_⟩ h4
theorem kD9 {fn : Func} {R : Ending → World → Prop} {f : FuncId} {caps : List Value} {Rd : Value → Heap → Prop} (Hc K : Heap) (hc : FnD P f caps Hc Rd) (hk : HLe (Hc ++ K) H)
  (h : ∀ v H', Rd v H' → nx ⟨n, none, ds⟩ w0 Wr fr (H'.filter Ent.wr ++ K) (yG4 P fn R) .ret) : nx ⟨n, none, .fn f caps :: ds⟩ w0 Wr fr H (yG4 P fn R) .ret := yP2 Hc K hc hk h
theorem wT9 {id d : Nat} {f : FuncId} {xs : List Operand} {vs : List Value} {ty ty' : Nat} {pos pos' : String} {after after' : Array Edge} {y : Code} (hx : evs fr xs = some vs) (hN : Nat.ble (d + 1) n = true)
  (h : awp P ⟨n, none, .fn f vs :: ds⟩ w0 Wr y ((d, .func (.func f) #[] vs.toArray) :: fr) H Q) :
  awp P ⟨n, none, ds⟩ w0 Wr (.seq (.region id [⟨some d, .makeFunc (.func f) #[] xs.toArray, ty, pos, after, none⟩, ⟨none, .defer { callee := .value (.tmp d), args := #[], argTypes := #[] }, ty', pos', after', none⟩].toArray false) y) fr H Q := by
 refine aS fun a w ha hw => yI3 (wpList_plain rfl fun K hK => ?_)
 unfold Oper.wp
 have hxs := ha.evals hx
 have e1 : (execOp a.eval ⟨some d, .makeFunc (.func f) #[] xs.toArray, ty, pos, after, none⟩).run P w = .ok (.value (.func (.func f) #[] vs.toArray)) w := by
  have hv : xs.toArray.map a.eval = vs.toArray := by simp [hxs]
  simp [execOp, Instr.makeFunc, lJ, l7, hxs]
 rw [e1]
 have hb := ha.put (d := d) hN (.func (.func f) #[] vs.toArray)
 refine hK _ _ (wpList_plain rfl fun K hK => ?_)
 unfold Oper.wp
 have hev := hb.eval (x := .tmp d) (v := .func (.func f) #[] vs.toArray) (by simp [ev, lk])
 have e2 : (execOp (a.put (some d) (.func (.func f) #[] vs.toArray)).eval ⟨none, .defer { callee := .value (.tmp d), args := #[], argTypes := #[] }, ty', pos', after', none⟩).run P w = .ok (.defer (jS7 (.fn f vs))) w := by
  simp [execOp, resolve, hev, Deferred.ofValue, jS7, lJ, l7]
 rw [e2]
 refine hK _ _ ⟨rfl, h _ w ⟨?_, ?_, ?_⟩ hw⟩
 ·exact hb.size
 ·show jS7 (.fn f vs) :: (a.put (some d) (.func (.func f) #[] vs.toArray)).defers = _
  rw [hb.defers]
  rfl
 ·exact hb.at_
end
end
end Go.Proofs.YteofkgedfjffcaaGreatDoor
