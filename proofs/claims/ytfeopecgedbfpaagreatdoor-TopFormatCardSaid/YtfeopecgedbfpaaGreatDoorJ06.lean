/- Walks and plain laws for this claim (texts Gch2, Mg1, Mg2, Mg3, Pl1, Pl2, Pl3, LayCl, Pl4, Pl5, Pl6, SxRw, Mg5, Mg6, Mg7, joined). Each theorem states its own conditions. -/
import Derived.Test.YtfeopecgedbfpaaGreatDoorJ05
import Derived.Lib.ItoaNum
import Derived.Shelf.Pu.Clone
set_option linter.all false
namespace Go.Proofs.YtfeopecgedbfpaaGreatDoor
section
open Go.RowKit
theorem keyU : KeyOk Tryz.prog 25 (fun k : Nat => uq k) where
 eq a b w := by
  have h : ((a : Int) = (b : Int)) ↔ a = b := by omega
  simp [go_sem, Op.equal, Op.maxDepth]
  rw [lR]
  simp [h]
 chk e a w := by
  rw [show (10000 : Nat) = 9999 + 1 from rfl, Instr.checkKey]
  simp [run_underlying Tryz.underlying25]
 und := ⟨_, Tryz.underlying25, .inr fun a b => by
  have h : ((a : Int) = (b : Int)) ↔ a = b := by omega
  simp only [Instr.sameNow, if_true]
  congr 1
  rw [lR]
  simp [h]⟩
 same a := by simp [Instr.sameBits]
theorem kP1 (w : World) : (zeroValue 3).run Tryz.prog w = .ok (iq (0 : Nat)) w := by kernel_rfl
def yY0 (M : List (Nat × Nat)) (seen : List Nat) : Prop := ∀ k, aget M k = if k ∈ seen then some 1 else none
theorem yW4 {M : List (Nat × Nat)} {seen : List Nat} (h : yY0 M seen) (k : Nat) : (if false = true then Value.tuple #[((aget M k).map fun n : Nat => iq n).getD (iq (0 : Nat)), .bool (aget M k).isSome] else ((aget M k).map fun n : Nat => iq n).getD (iq (0 : Nat))) = iq ((if k ∈ seen then 1 else 0 : Nat) : Nat) := by
 rw [h k]
 by_cases hk : k ∈ seen <;> simp [hk]
theorem wZ7 (M : List (Nat × Nat)) (k v : Nat) : (if false = true then Value.tuple #[((aget (aput M k v) k).map fun n : Nat => iq n).getD (iq (0 : Nat)), .bool (aget (aput M k v) k).isSome] else ((aget (aput M k v) k).map fun n : Nat => iq n).getD (iq (0 : Nat))) = iq (v : Nat) := by
 rw [kE6, if_pos rfl]
 rfl
theorem yI8 (A : Option Addr) (c : Nat) (L : List It) (T : Heap) (hA : jH6 A L.length) (hT : 0 < L.length → T = roE A (jA2 L)) (hro : Ro T) (hL : L.length ≤ 100000) :
  Fn Tryz.prog 16 [.slice A L.length c] T fun v H' => ∃ u, v = .tuple #[.agg #[u], iq (ofQ L)] ∧ ((ofQ L = 0 ∧ RowOk u (jT0 L).length ∧ H' = rowE u 53 2 (jA2 (jT0 L))) ∨ (ofQ L ≠ 0 ∧ u = .slice none 0 0 ∧ H' = [])) := by
 refine Fn.enter (N := 48) Tryz.func16 rfl (by kernel_rfl) rfl (fun w0 => ?_)
 refine aR (fun Z hZ => sAl tyZ30 rfl (fun g1 => sAN hZ rfl rfl <| f2K 0 2 rfl <| aR (fun Z hZ => jX2 rfl (fun k : Nat => uq k) (fun n : Nat => iq n) (fun b => sAN hZ rfl rfl <| f3K 0 2 4 rfl <| aA rfl rfl <| f4K 0 2 4 5 rfl ?_))))
 refine aS <| aR fun Z hZ => sM rfl rfl <| jE2 Tryz.underlying28 rfl rfl <| sMN hZ rfl rfl <| f6K 2 4 5 10 11 12 rfl <| aB ?_
 refine jB9 (ι := Nat × Value × List (Nat × Nat)) (fun i => [(2, ptr g1 0), (4, .map (some b)), (5, i.2.1), (10, .slice A L.length c), (11, iq (L.length : Nat)), (12, iq (i.1 : Nat))])
  (fun i => mapE (fun k : Nat => uq k) (fun n : Nat => iq n) b i.2.2 :: .own g1 30 [.slice none 0 0] :: (T ++ rowE i.2.1 53 2 (jA2 (L.take i.1))))
  (fun i => i.1 ≤ L.length ∧ RowOk i.2.1 i.1 ∧ yY0 i.2.2 (idsI (L.take i.1)) ∧ ofE (idsI (L.take i.1)) (L.drop i.1) = ofQ L) (fun i => L.length - i.1) (0, .slice none 0 0, []) ⟨by simp, RowOk.nil, fun k => by simp [idsI, aget], rfl⟩ (kR rfl) (by simp [rowE]; exact HLe.refl _) ?_
 rintro ⟨i, v, M⟩ ⟨hi, hv, hM, hq⟩
 simp only at hi hv hM hq
 refine aR (fun Z hZ => jB2 ?_)
 refine sN (hZ _ _ <| f7K 2 4 5 10 11 12 13 rfl <| aS (aC0 (fun h => ?_) (fun h => ?_)))
 ·have hlt : i < L.length := by simpa using h
  have hx := jN9 hlt
  obtain ⟨x, hxe⟩ := xZ9 (itAt L i)
  rw [hxe] at hx
  have hdr : L.drop i = x :: L.drop (i + 1) := by rw [qR hlt]; congr 1; exact (List.getElem?_eq_some_iff.1 hx).2
  have htk : idsI (L.take (i + 1)) = idsI (L.take i) ++ [x.id] := by rw [List.take_add_one, hx]; simp [idsI]
  have hsl : (idsI (L.take i)).length = i := by simp [idsI]; omega
  rw [hdr, ofE, hsl, ← htk] at hq
  obtain ⟨n, hn⟩ := xZ9 ((if x.id ∈ idsI (L.take i) then 1 else 0 : Nat))
  have hget := yW4 hM x.id
  rw [hn] at hget
  have hn1 : n ≤ 1 := by rw [← hn]; split <;> omega
  obtain ⟨g, o, rfl⟩ := hA (by omega)
  obtain rfl := hT (by omega)
  refine jA6 (mapE (fun k : Nat => uq k) (fun n : Nat => iq n) b M :: .own g1 30 [.slice none 0 0] :: .ro g o (jA2 L) :: rowE v 53 2 (jA2 (L.take i))) (HLe.refl _) <| aK <| nN <| aS (aB <| aR (fun Z hZ => jB3 (o + i * 2) Tryz.underlying28 tyS53 rfl rfl (by omega) (by simp) rfl ?_))
  refine jB4 2 rfl rfl (i * 2) rfl tyA53 tyS53 (jK9 hx) rfl <| sAl tyZ53 rfl (fun g2 => sS0 0 tyS53 ?_)
  refine sN (hZ _ _ <| f7K 2 4 5 7 10 11 12 rfl <| aS <| aR fun Z hZ => sM rfl rfl <| sFA0 jZ2 ?_)
  refine sL0 0 tyA25 tyS25 ?_
  refine kC1 1 keyU Tryz.underlying97 kP1 x.id _ rfl rfl rfl hget rfl ?_
  refine jC2 rfl rfl ((n + 1 : Nat) : Int) (by rw [lT _ (by omega)]; omega) rfl ?_
  refine jU5 1 keyU Tryz.underlying97 x.id (n + 1) rfl rfl rfl rfl rfl <| sN (hZ _ _ <| f7K 2 4 5 7 10 11 12 rfl <| aR fun Z hZ => sM rfl rfl <| sFA0 jZ2 ?_)
  refine sL0 0 tyA25 tyS25 ?_
  refine kC1 1 keyU Tryz.underlying97 kP1 x.id _ rfl rfl rfl (wZ7 M x.id (n + 1)) rfl <| jC4 ?_
  refine sN (hZ _ _ <| f8K 2 4 5 7 10 11 12 25 rfl <| aC0 (fun h1 => ?_) (fun h1 => ?_))
  ·have hin : x.id ∈ idsI (L.take i) := by
    have : n = 1 := by simp at h1; omega
    rw [this] at hn
    split at hn
    ·assumption
    ·omega
   rw [if_pos hin] at hq
   rw [← hq]
   refine aR (fun Z hZ => jD4 tyZ30 tyP30 ?_)
   refine sS0 2 tyS30 ?_
   refine sAN hZ rfl rfl <| f2K 2 3 rfl <| aE ?_
   repeat (with_reducible (first | refine nTR ?_ | refine nBR ?_))
   exact jD9 [] rfl (ResOk.cell 2 rfl rfl tyA30 tyS30 rfl) rfl (HLe.sub (lN _)) ⟨_, rfl, .inr ⟨by decide, rfl, rfl⟩⟩
  have hin : x.id ∉ idsI (L.take i) := fun hc => by
   rw [if_pos hc] at hn
   simp at h1
   omega
  have hn0 : n = 0 := by rw [if_neg hin] at hn; omega
  subst hn0
  rw [if_neg hin] at hq
  obtain ⟨e, he⟩ := xZ9 (jE1 x.id x.tx (decide (2048 ≤ i)))
  have hw := vO5 x.id x.tx (decide (2048 ≤ i))
  rw [he] at hw hq
  have hlen : decide ((2048 : Int) ≤ ((i : Nat) : Int)) = decide (2048 ≤ i) := by rw [lR]; simp; omega
  obtain ⟨Av, cv, rfl, hAv⟩ := hv.form
  refine aK <| nN <| aS <| aR (fun Z hZ => sFA0 jZ2 ?_)
  refine sL0 0 tyA25 tyS25 ?_
  refine sFA0 wB2 ?_
  refine sL0 0 tyA9 tyS9 ?_
  refine sM rfl rfl <| jE2 Tryz.underlying28 rfl rfl <| jO3 rfl rfl rfl <| sCP hw (by first | exact (congrArg (fun b => some [uq x.id, .string (str x.tx), .bool b]) hlen) | rfl) rfl ?_
  refine sAN hZ rfl rfl <| f8K 2 4 5 7 8 10 11 12 rfl <| aR fun Z hZ => sM rfl rfl <| jC7 ?_
  refine sN (hZ _ _ <| f9K 2 4 5 7 8 10 11 12 36 rfl <| aC0 (fun h2 => ?_) (fun h2 => ?_))
  ·have he' : e ≠ 0 := by simp at h2; omega
   rw [if_pos he'] at hq
   rw [← hq]
   refine aR (fun Z hZ => jD4 tyZ30 tyP30 ?_)
   refine sM rfl rfl <| sS0 2 tyS30 ?_
   refine sAN hZ rfl rfl <| f2K 2 3 rfl <| aE ?_
   repeat (with_reducible (first | refine nTR ?_ | refine nBR ?_))
   exact jD9 [] rfl (ResOk.cell 2 rfl rfl tyA30 tyS30 rfl) rfl (HLe.sub (lN _)) ⟨_, rfl, .inr ⟨he', rfl, rfl⟩⟩
  have he' : e = 0 := by simp at h2; omega
  rw [if_neg (by simpa using he')] at hq
  refine aK <| nN ?_
  have hM2 : yY0 (aput M x.id 1) (idsI (L.take (i + 1))) := fun k => by
   rw [kE6, htk, hM k]
   by_cases hk : x.id = k
   ·subst hk
    simp
   ·have hk' : ¬ k = x.id := fun h => hk h.symm
    simp [hk, hk']
  refine aG (fun Z hZ => sM rfl rfl <| sLA0 0 tyA53 tyS53 ?_)
  refine sBS0 Tryz.underlying28 tyS53 tyZ53 (fun g3 => ?_)
  refine jC9 [_, _, _, _, _] vG0 rfl hv (by rw [jG1, xS]; omega) rfl (fun w hw => jJ3 (i := 0) (xs := x.cells) rfl rfl hw) rfl (by show _ ≤ 9223372036854775807; omega) (by omega) (HLe.refl _) rfl (fun v2 hv2 => ?_)
  refine sAN hZ rfl rfl <| nF [(2, _), (4, _), (5, _), (10, _), (11, _), (12, _)] (kR rfl) ?_
  repeat refine nBN ?_
  refine nN ?_
  refine aG (fun Z hZ => ?_)
  refine jC2 rfl rfl ((i + 1 : Nat) : Int) (by rw [lT _ (by omega)]; omega) rfl ?_
  refine sMN hZ rfl rfl <| nF [(2, _), (4, _), (5, _), (10, _), (11, _), (12, _)] (kR rfl) <| jB8 (i + 1, v2, aput M x.id 1) ⟨by show i + 1 ≤ _; omega, hv2, hM2, hq⟩ (by simp; omega) (kR rfl) ?_
  simp only
  rw [kN9 hx]
  exact HLe.drop 2 rfl
 ·refine jB1 ?_
  repeat refine nTE ?_
  refine nBE <| nN ?_
  have hke : i = L.length := by simp at h; omega
  subst hke
  rw [zW, ofE] at hq
  have h0 : ofQ L = 0 := hq.symm
  obtain ⟨o1, o2, o3, o4⟩ := zH5 h0
  rw [x6, h0]
  have hol := o4.length_eq
  rcases zK L.length with hz | hz
  ·obtain rfl : L = [] := List.length_eq_zero_iff.1 hz
   obtain ⟨Av, cv, rfl, hAv⟩ := hv.form
   refine jA6 (.own g1 30 [.slice none 0 0] :: rowE (.slice Av 0 cv) 53 2 []) (HLe.sub ((qC _ (lP T _)).trans (x4 _ _))) <| aR fun Z hZ => sM rfl rfl <| sCP0 (wW1 Av cv) ?_
   refine sN (hZ _ _ <| f2K 2 5 rfl <| aR fun Z hZ => sM rfl rfl <| jD4 tyZ30 tyP30 ?_)
   first | refine sS0 0 tyS30 ?_
   refine sAN hZ rfl rfl <| f2K 2 3 rfl <| aE <| jD9 _ rfl (ResOk.cell 0 rfl rfl tyA30 tyS30 rfl) rfl (HLe.drop 1 rfl) ⟨_, rfl, .inl ⟨rfl, hv, rfl⟩⟩
  ·obtain ⟨gv, cv, rfl⟩ := hv.some hz
   refine jA6 ([.ob gv (RowP 53 2 L.length cv (jA2 L))] ++ [.own g1 30 [.slice none 0 0]]) ((HLe.swap _ _).trans (HLe.sub ((qC _ (lP T _)).trans (x4 _ _)))) <| aR fun Z hZ => sM rfl rfl <| jA5 [.ob gv (RowP 53 2 L.length cv (jA2 L))] [.own g1 30 [.slice none 0 0]] (yN5 gv L.length cv L rfl (by omega)) rfl (HLe.refl _) rfl ?_
   rintro v H' ⟨rfl, Ms, hp, hs, rfl⟩
   obtain rfl := wE3 o1 hp hs
   refine jC3 [.ob gv (RowP 53 2 L.length cv (jA2 (jT0 L))), .own g1 30 [.slice none 0 0]] (HLe.refl _) <| sN (hZ _ _ <| f2K 2 5 rfl <| aR fun Z hZ => sM rfl rfl <| jD4 tyZ30 tyP30 ?_)
   refine sS0 1 tyS30 ?_
   refine sAN hZ rfl rfl <| f2K 2 3 rfl <| aE <| jD9 [.ob gv (RowP 53 2 L.length cv (jA2 (jT0 L)))] rfl (ResOk.cell 1 rfl rfl tyA30 tyS30 rfl) rfl (HLe.sub (lS [_] [_])) ⟨_, rfl, .inl ⟨rfl, by rw [hol]; exact RowOk.mk gv _ cv, rfl⟩⟩
end
section
open Go.RowKit
def zLo (L : List It) : Int := if L = [] then 0 else jR9 (itAt L 0).id
def zHi (L : List It) : Int := if L = [] then 0 else jR9 (itAt L (L.length - 1)).id
theorem wS4 (A : Option Addr) (c : Nat) (L : List It) (T : Heap) (hA : jH6 A L.length) (hT : 0 < L.length → T = roE A (jA2 L)) (hro : Ro T) (hL : L.length ≤ 1000000) (hk : yX9 L) :
  Fn Tryz.prog 63 [chV A L.length c] T fun v _ => v = .tuple #[iq (zLo L), iq (zHi L), .bool (!L.isEmpty)] := by
 refine Fn.enter (N := 25) Tryz.func63 rfl (by kernel_rfl) rfl (fun w0 => ?_)
 refine aR (fun Z hZ => jB5 (fun g1 => ?_))
 refine sA rfl rfl <| sA rfl rfl <| sAN hZ rfl rfl <| f1K 1 rfl <| aR (fun Z hZ => sFA0 jO7 ?_)
 first | refine sL0 0 tyA28 tyS28 ?_
 refine jE2 Tryz.underlying28 rfl rfl <| sAN hZ rfl rfl <| f2K 1 5 rfl <| aS <| aR fun Z hZ => sM rfl rfl <| jB0 ?_
 refine sN (hZ _ _ <| f3K 1 5 10 rfl <| aC0 (fun h => ?_) (fun h => ?_))
 ·have h0 : L = [] := List.length_eq_zero_iff.1 (by simpa using h)
  subst h0
  refine aR fun Z hZ => sA rfl rfl <| sA rfl rfl <| sAN hZ rfl rfl <| f3K 2 3 4 rfl <| aE ?_
  repeat refine nTR ?_
  exact jH2 rfl rfl rfl rfl rfl
 have h0 : 0 < L.length := by
  have : ¬ L.length = 0 := by simpa using h
  omega
 have hne : L ≠ [] := List.length_pos_iff.1 h0
 have x1 := jN9 (L := L) (i := 0) h0
 obtain ⟨m, hm⟩ := xZ9 (L.length - 1)
 have x2 := jN9 (L := L) (i := m) (by omega)
 have z1 := kT1 (itAt L 0).id (hk _ (xM x1))
 have z2 := kT1 (itAt L m).id (hk _ (xM x2))
 rw [show zLo L = jR9 (itAt L 0).id by unfold zLo; rw [if_neg hne], show zHi L = jR9 (itAt L m).id by unfold zHi; rw [if_neg hne, hm], show L.isEmpty = false by simpa using hne]
 obtain ⟨g, o, rfl⟩ := hA h0
 obtain rfl := hT h0
 refine aK <| nN <| jC6 mixed (by kernel_rfl) (fun Z hZ => ?_)
 refine qFA0 jO7 ?_
 first | refine jB6 0 tyA28 tyS28 ?_
 refine jG2 (o + 0 * 2) Tryz.underlying28 tyS53 rfl rfl (by omega) (by simp) rfl ?_
 refine qFA0 jZ2 ?_
 refine jG7 1 rfl rfl (0 * 2) rfl tyA25 tyS25 (jO6 x1) rfl <| jH4 z1 rfl rfl <| qFA0 jO7 ?_
 first | refine jB6 0 tyA28 tyS28 ?_
 refine qM rfl rfl <| vC9 rfl rfl ((m : Nat) : Int) (by rw [lT _ (by omega)]; omega) rfl ?_
 refine jG2 (o + m * 2) Tryz.underlying28 tyS53 rfl rfl (by omega) (by simp) rfl ?_
 refine qFA0 jZ2 ?_
 refine jG7 1 rfl rfl (m * 2) rfl tyA25 tyS25 (jO6 x2) rfl <| jH4 z2 rfl rfl <| jC8 rfl rfl <| jC8 rfl rfl <| jC8 rfl rfl <| jF0 (hZ _ _ <| f3K 2 3 4 rfl <| aE <| jH2 rfl rfl rfl rfl rfl)
end
section
open Go.RowKit
def putE (k : Nat) (s : List UInt8) (L : List It) : Nat := jE1 k s (kG5 k L)
def putQ (k : Nat) (s : List UInt8) (L : List It) : List It := if putE k s L = 0 then cPut k s L else L
theorem wW8 {L : List It} (hr : Rise L) (k : Nat) : jS1 k L = kG5 k L := by
 unfold jS1 kG5
 rw [(zE2 hr k).1]
theorem wW5 (A : Option Addr) (c : Nat) (L : List It) (T : Heap) (hA : jH6 A L.length) (hT : 0 < L.length → T = roE A (jA2 L)) (hro : Ro T) (hL : L.length ≤ 100000) (hr : Rise L) (k : Nat) (s : List UInt8) :
  Fn Tryz.prog 19 [.slice A L.length c, uq k, .string (str s)] T fun v H' => ∃ u, v = .tuple #[u, iq (putE k s L)] ∧ ((putE k s L = 0 ∧ RowOk u (cPut k s L).length ∧ H' = rowE u 51 2 (jA2 (cPut k s L))) ∨ (¬ putE k s L = 0 ∧ u = .slice A L.length c ∧ H' = [])) := by
 have h := yO3 A c L T hA hT hro hL k s
 rw [wW8 hr, ← zB7 hr] at h
 exact h
theorem yP2 (A : Option Addr) (c : Nat) (L : List It) (T : Heap) (hA : SlIn A L.length c) (hT : 0 < L.length → T = roE A (jA2 L)) (hro : Ro T) (hL : L.length ≤ 100000) (hr : Rise L) (k : Nat) (s : List UInt8) :
  Fn Tryz.prog 18 [chV A L.length c, uq k, .string (str s)] T fun v H' => ∃ u, v = .tuple #[.agg #[u], iq (putE k s L)] ∧ ((putE k s L = 0 ∧ RowOk u (cPut k s L).length ∧ H' = rowE u 53 2 (jA2 (cPut k s L))) ∨ (¬ putE k s L = 0 ∧ u = .slice A L.length c ∧ H' = [])) :=
 wG6 A c L T hA hT hro hL hr k s
theorem wX4 {k : Nat} {s : List UInt8} {L : List It} (h : putE k s L = 0) : putQ k s L = cPut k s L := by unfold putQ; rw [if_pos h]
theorem wX3 {k : Nat} {s : List UInt8} {L : List It} (h : ¬ putE k s L = 0) : putQ k s L = L := by unfold putQ; rw [if_neg h]
theorem ChOk.putQ {L : List It} (h : ChOk L) (k : Nat) (s : List UInt8) : ChOk (putQ k s L) := by
 unfold Go.Proofs.YtfeopecgedbfpaaGreatDoor.putQ
 split
 ·rename_i h1; exact h.put h1
 ·exact h
end
section
open Go.RowKit
section
variable {P : Program} {N : Frm} {w0 w : World} {Wr : List Nat} {ops : Array Oper} {rest : List Oper} {fr : Fr} {H : Heap} {Z : Fr → Heap → Prop} {d ty : Nat} {pos : String} {after : Array Edge}
theorem kK1 {A : Option Addr} {n c : Nat} (hv : RowOk (.slice A n c) n) : A = none → c = 0 := fun ha => by
 rcases hv with ⟨h1, _⟩ | ⟨g, c', h1⟩
 ·injection h1
 ·injection h1 with h2 _ _; rw [ha] at h2; cases h2
theorem jZ4 {f : FuncId} {xs : List Operand} {vs : List Value} {ts : Array TypeId} {e : TypeId} {size n n1 n2 c : Nat} {A : Option Addr} {xs0 ys zs : List Value} {p : Prop} (mk : Value → Value) (X : Heap) (hv : RowOk (.slice A n1 c) n1) (hH : HLe (X ++ rowE (.slice A n1 c) e size xs0) H)
  (hc : SlIn A n1 c → Fn P f vs (roE A xs0) fun v H' => ∃ u, v = mk u ∧ ((p ∧ RowOk u n ∧ H' = rowE u e size ys) ∨ (¬ p ∧ u = .slice A n1 c ∧ H' = []))) (hx : evs fr xs = some vs) (hN : Nat.ble (d + 1) N.n = true)
  (hnew : p → n = n2 ∧ ys = zs) (hold : ¬ p → n1 = n2 ∧ xs0 = zs)
  (h : ∀ u, RowOk u n2 → (¬ p → u = .slice A n1 c) → sx P N w0 Wr ops rest ((d, mk u) :: fr) (X ++ rowE u e size zs) Z) :
  sx P N w0 Wr ops (⟨some d, .call { callee := .value (.func f), args := xs.toArray, argTypes := ts }, ty, pos, after, none⟩ :: rest) fr H Z := by
 refine jC3 _ hH <| kF6 (fun w hw => row_cap hv (fun x hx => x0 _ hx) hw) (fun hcap => ?_)
 obtain ⟨A2, c2, he, hA, hle⟩ := hv.ro
 injection he with e1 _ e3
 subst e1 e3
 refine jU6 (roE A xs0) (hc ⟨hA, hcap.1, kK1 hv⟩) hx (kK0 hle X _ _ _) (Ro.roE _ _) hN ?_
 rintro v H' ⟨u, rfl, ⟨hp, hu, rfl⟩ | ⟨hp, rfl, rfl⟩⟩
 ·obtain ⟨rfl, rfl⟩ := hnew hp
  rw [jF1]
  exact jC3 (X ++ rowE u e size ys) ((HLe.swap _ _).trans (HLe.sub (zS (lS _ _) _))) (h u hu (fun hn => absurd hp hn))
 ·obtain ⟨rfl, rfl⟩ := hold hp
  exact h _ hv (fun _ => rfl)
end
theorem yA9 (A : Option Addr) (c : Nat) (L : List It) (T : Heap) (hA : jH6 A L.length) (hT : 0 < L.length → T = roE A (jA2 L)) (hro : Ro T) (hL : L.length ≤ 100000) :
  Fn Tryz.prog 14 [.slice A L.length c] T fun v H' => RowOk v L.length ∧ H' = rowE v 51 2 (jA2 L) := by
 refine Fn.enter (N := 19) Tryz.func14 rfl (by kernel_rfl) rfl (fun w0 => ?_)
 refine aA rfl rfl <| f1K 0 rfl <| aA rfl rfl <| f2K 0 3 rfl <| aS <| aA rfl rfl <| f3K 0 3 4 rfl <| aB ?_
 refine jB9 (ι := Nat × Value) (fun i => [(0, .slice A L.length c), (3, i.2), (4, iq (i.1 : Nat))]) (fun i => T ++ rowE i.2 51 2 (jA2 (L.take i.1)))
  (fun i => i.1 ≤ L.length ∧ RowOk i.2 i.1) (fun i => L.length - i.1) (0, .slice none 0 0) ⟨by simp, RowOk.nil⟩ (kR rfl) (by simp [rowE]; exact HLe.refl _) ?_
 rintro ⟨i, v⟩ ⟨hi, hv⟩
 simp only at hi hv
 refine aS <| aR fun Z hZ => sM rfl rfl <| sM rfl rfl <| jE2 Tryz.underlying28 rfl rfl <| jB2 ?_
 refine sN (hZ _ _ <| f4K 0 3 4 8 rfl <| aC0 (fun h => ?_) (fun h => ?_))
 ·have hlt : i < L.length := by simpa using h
  have hx := jN9 hlt
  obtain ⟨x, hxe⟩ := xZ9 (itAt L i)
  rw [hxe] at hx
  obtain ⟨g, o, rfl⟩ := hA (by omega)
  obtain rfl := hT (by omega)
  refine jA6 (.ro g o (jA2 L) :: rowE v 51 2 (jA2 (L.take i))) (HLe.refl _) <| aK <| nN <| aS (aB <| aG (fun Z hZ => sM rfl rfl <| sM rfl rfl <| sM rfl rfl <| jB3 (o + i * 2) Tryz.underlying28 tyS53 rfl rfl (by omega) (by simp) rfl ?_))
  refine jB4 0 rfl rfl (i * 2) rfl tyA53 tyS53 (jK9 hx) rfl <| sBS0 Tryz.underlying22 tyS51 tyZ51 (fun g1 => ?_)
  refine jC9 [_, _] kO6 rfl hv (by rw [jG1, xS]; omega) rfl (fun w hw => jJ3 (i := 0) (xs := x.cells) rfl rfl hw) rfl (by show _ ≤ 9223372036854775807; omega) (by omega) (HLe.refl _) rfl (fun v2 hv2 => ?_)
  refine sAN hZ rfl rfl <| nF [(0, _), (3, _), (4, _)] (kR rfl) ?_
  repeat refine nBN ?_
  refine nN ?_
  refine aG (fun Z hZ => ?_)
  refine sM rfl rfl ?_
  refine jC2 rfl rfl ((i + 1 : Nat) : Int) (by rw [lT _ (by omega)]; omega) rfl ?_
  refine sAN hZ rfl rfl <| nF [(0, _), (3, _), (4, _)] (kR rfl) <| jB8 (i + 1, v2) ⟨by show i + 1 ≤ _; omega, hv2⟩ (by simp; omega) (kR rfl) ?_
  simp only
  rw [kN9 hx]
  exact HLe.drop 1 rfl
 ·refine jB1 ?_
  repeat refine nTE ?_
  refine nBE <| nN ?_
  have hke : i = L.length := by simp at h; omega
  subst hke
  rw [x6]
  refine aR fun Z hZ => sM rfl rfl <| sAN hZ rfl rfl <| f1K 2 rfl <| aE <| jC1 _ rfl rfl (HLe.sub (lP _ _)) ⟨hv, rfl⟩
def yX8 (L : List It) : Prop := ∀ e ∈ L, e.id < 18446744073709551616 ∧ e.tx.length ≤ maxLen
theorem yQ2 (A : Option Addr) (c : Nat) (L : List It) (T : Heap) (hA : jH6 A L.length) (hT : 0 < L.length → T = roE A (jA2 L)) (hro : Ro T) (hL : L.length ≤ maxLen) (hE : yX8 L) (m b : Nat) (hm : m ≤ maxLen) (hb : b ≤ maxLen) :
  Fn Tryz.prog 4 [.slice A L.length c, iq m, iq b] T fun v _ => v = .bool (decide (b < jF2 L ∨ m < L.length)) := by
 have hL' : L.length ≤ 9223372036854775807 := hL
 have hm' : m ≤ 9223372036854775807 := hm
 have hb' : b ≤ 9223372036854775807 := hb
 refine Fn.enter (N := 28) Tryz.func4 rfl (by kernel_rfl) rfl (fun w0 => ?_)
 refine aA rfl rfl <| f3K 0 1 2 rfl <| aS <| aA rfl rfl <| f4K 0 1 2 7 rfl <| aB ?_
 refine jB9 (ι := Nat) (fun k => [(0, .slice A L.length c), (1, iq (m : Nat)), (2, iq ((b - jF2 (L.take k) : Nat) : Nat)), (7, iq (k : Nat))]) (fun _ => T)
  (fun k => k ≤ L.length ∧ jF2 (L.take k) ≤ b) (fun k => L.length - k) 0 ⟨by simp, by simp [jF2]⟩ (Kn.cons rfl (Kn.cons rfl (Kn.cons (by simp [jF2, lk, Nat.beq]) (Kn.cons rfl Kn.nil)))) (HLe.refl _) ?_
 rintro k ⟨hk, hq⟩
 refine aS <| aR fun Z hZ => sM rfl rfl <| sM rfl rfl <| jE2 Tryz.underlying22 rfl rfl <| jB2 ?_
 refine sN (hZ _ _ <| f5K 0 1 2 7 11 rfl <| aC0 (fun h => ?_) (fun h => ?_))
 ·have hlt : k < L.length := by simpa using h
  have hx := jN9 hlt
  have hs := vN7 hx
  have hl := wQ0 L (k + 1)
  obtain ⟨x, hxe⟩ := xZ9 (itAt L k)
  rw [hxe] at hx hs
  have htl : x.tx.length ≤ 9223372036854775807 := (hE x (xM hx)).2
  obtain ⟨g, o, rfl⟩ := hA (by omega)
  obtain rfl := hT (by omega)
  refine aK <| nN <| aS (aB <| aR fun Z hZ => sM rfl rfl <| sM rfl rfl <| sM rfl rfl <| jB3 (o + k * 2) Tryz.underlying22 tyS51 rfl rfl (by omega) (by simp) rfl ?_)
  refine sFA0 kL8 ?_
  refine jB4 0 rfl rfl (k * 2 + 1) rfl tyA9 tyS9 (jV8 hx) rfl <| jD6 Tryz.underlying9 rfl rfl <| jN3 rfl rfl (((b - jF2 (L.take k) : Nat) : Int) - (x.tx.length : Nat)) (by rw [lT _ (by omega)]) rfl ?_
  refine sAN hZ rfl rfl <| f4K 0 1 2 7 rfl <| aR fun Z hZ => sM rfl rfl <| jB2 ?_
  refine sN (hZ _ _ <| f5K 0 1 2 7 23 rfl <| aC0 (fun h2 => ?_) (fun h2 => ?_))
  ·have h2' : b < jF2 L := by simp at h2; omega
   rw [decide_eq_true (p := b < jF2 L ∨ m < L.length) (.inl h2')]
   refine aA rfl rfl <| f1K 6 rfl <| aE ?_
   repeat (with_reducible (first | refine nTR ?_ | refine nBR ?_))
   exact nR10 rfl
  have h2' : jF2 (L.take (k + 1)) ≤ b := by simp at h2; omega
  have h3 : ((b - jF2 (L.take k) : Nat) : Int) - (x.tx.length : Nat) = ((b - jF2 (L.take (k + 1)) : Nat) : Int) := by omega
  rw [h3]
  refine aK ?_
  repeat refine nBN ?_
  refine nN ?_
  refine aG (fun Z hZ => ?_)
  refine sM rfl rfl ?_
  refine jC2 rfl rfl ((k + 1 : Nat) : Int) (by rw [lT _ (by omega)]; omega) rfl ?_
  refine sAN hZ rfl rfl <| nF [(0, _), (1, _), (2, _), (7, _)] (kR rfl) <| jB8 (k + 1) ⟨by omega, h2'⟩ (by omega) (kR rfl) (HLe.refl _)
 ·refine jB1 ?_
  repeat refine nTE ?_
  refine nBE <| nN ?_
  have hke : k = L.length := by simp at h; omega
  subst hke
  rw [x6] at hq
  have hd : decide (b < jF2 L ∨ m < L.length) = decide ((m : Int) < (L.length : Int)) := by
   rw [lR]
   simp
   omega
  rw [hd]
  refine aR fun Z hZ => sM rfl rfl <| jE2 Tryz.underlying22 rfl rfl <| sM rfl rfl <| jC4 ?_
  refine sAN hZ rfl rfl <| f1K 6 rfl <| aE <| nR10 rfl
def ownQ (L : List It) : List It := L.foldl (fun acc e => putQ e.id e.tx acc) []
theorem wI0 (L : List It) (x : It) : ownQ (L ++ [x]) = putQ x.id x.tx (ownQ L) := by simp [ownQ]
theorem wI1 (L : List It) : ChOk (ownQ L) := by
 have h : ∀ (L acc : List It), ChOk acc → ChOk (L.foldl (fun acc e => putQ e.id e.tx acc) acc) := by
  intro L
  induction L with
  | nil => exact fun _ h => h
  | cons e r ih => exact fun acc h => ih _ (h.putQ _ _)
 exact h L [] ChOk.nil
theorem zC2 (A : Option Addr) (c : Nat) (L : List It) (T : Heap) (hA : jH6 A L.length) (hT : 0 < L.length → T = roE A (jA2 L)) (hro : Ro T) (hL : L.length ≤ 100000) :
  Fn Tryz.prog 6 [.slice A L.length c] T fun v H' => ∃ u1 u2, v = .tuple #[.agg #[u1], u2] ∧ RowOk u1 (ownQ L).length ∧ RowOk u2 (ownQ L).length ∧ H' = rowE u1 53 2 (jA2 (ownQ L)) ++ rowE u2 51 2 (jA2 (ownQ L)) := by
 refine Fn.enter (N := 55) Tryz.func6 rfl (by kernel_rfl) rfl (fun w0 => ?_)
 refine aR (fun Z hZ => sAl tyZ30 rfl (fun g1 => sAN hZ rfl rfl <| f2K 0 2 rfl <| aR (fun Z hZ => sAl tyZ30 rfl (fun g2 => sN (hZ _ _ <| f3K 0 2 4 rfl <| aA rfl rfl <| f4K 0 2 4 5 rfl ?_)))))
 refine aS <| aA rfl rfl <| f5K 0 2 4 5 6 rfl <| aB ?_
 refine jB9 (ι := Nat × Value × Value) (fun i => [(0, .slice A L.length c), (2, ptr g1 0), (4, ptr g2 0), (5, i.2.2), (6, iq (i.1 : Nat))])
  (fun i => .own g2 30 [i.2.1] :: .own g1 30 [.slice none 0 0] :: (T ++ (rowE i.2.1 53 2 (jA2 (ownQ (L.take i.1))) ++ rowE i.2.2 51 2 (jA2 (ownQ (L.take i.1))))))
  (fun i => i.1 ≤ L.length ∧ RowOk i.2.1 (ownQ (L.take i.1)).length ∧ RowOk i.2.2 (ownQ (L.take i.1)).length) (fun i => L.length - i.1) (0, .slice none 0 0, .slice none 0 0) ⟨by simp, RowOk.nil, RowOk.nil⟩ (kR rfl) (by simp [rowE]; exact HLe.refl _) ?_
 rintro ⟨i, u1, u2⟩ ⟨hi, hu1, hu2⟩
 simp only at hi hu1 hu2
 refine aS <| aR fun Z hZ => sM rfl rfl <| sM rfl rfl <| jE2 Tryz.underlying22 rfl rfl <| jB2 ?_
 refine sN (hZ _ _ <| f6K 0 2 4 5 6 14 rfl <| aC0 (fun h => ?_) (fun h => ?_))
 ·have hlt : i < L.length := by simpa using h
  have hx := jN9 hlt
  obtain ⟨x, hxe⟩ := xZ9 (itAt L i)
  rw [hxe] at hx
  have htk : L.take (i + 1) = L.take i ++ [x] := by rw [List.take_add_one, hx]; rfl
  have hok := wI1 (L.take i)
  have hsn := wI0 (L.take i) x
  rw [← htk] at hsn
  obtain ⟨O, hO⟩ := xZ9 (ownQ (L.take i))
  obtain ⟨e, he⟩ := xZ9 (putE x.id x.tx O)
  have hll := hok.len
  rw [hO] at hok hsn hu1 hu2 hll ⊢
  have hput := fun A c (hA : SlIn A O.length c) => yP2 A c O (roE A (jA2 O)) hA (fun _ => rfl) (Ro.roE _ _) (by omega) hok.rise x.id x.tx
  have hputR := fun A c (hA : SlIn A O.length c) => wW5 A c O (roE A (jA2 O)) hA.arg (fun _ => rfl) (Ro.roE _ _) (by omega) hok.rise x.id x.tx
  have hq1 : putE x.id x.tx O = 0 → (cPut x.id x.tx O).length = (putQ x.id x.tx O).length ∧ jA2 (cPut x.id x.tx O) = jA2 (putQ x.id x.tx O) := fun hp => by rw [wX4 hp]; exact ⟨rfl, rfl⟩
  have hq2 : ¬ putE x.id x.tx O = 0 → O.length = (putQ x.id x.tx O).length ∧ jA2 O = jA2 (putQ x.id x.tx O) := fun hp => by rw [wX3 hp]; exact ⟨rfl, rfl⟩
  rw [he] at hput hputR hq1 hq2
  rw [← hsn] at hq1 hq2
  obtain ⟨g, o, rfl⟩ := hA (by omega)
  obtain rfl := hT (by omega)
  obtain ⟨A1, c1, rfl, hA1⟩ := hu1.form
  obtain ⟨A2, c2, rfl, hA2⟩ := hu2.form
  refine jA6 (.own g2 30 [.slice A1 O.length c1] :: .ro g o (jA2 L) :: .own g1 30 [.slice none 0 0] :: (rowE (.slice A1 O.length c1) 53 2 (jA2 O) ++ rowE (.slice A2 O.length c2) 51 2 (jA2 O))) (fun _ _ _ hw => hw.perm (z8 _ (uO _ _ _))) <| aK <| nN <| aS (aB ?_)
  refine kP9 (fun j : Value × Nat => [(0, .slice (some ⟨g, o, none⟩) L.length c), (2, ptr g1 0), (4, ptr g2 0), (5, .slice A2 O.length c2), (6, iq (i : Nat)), (7, ptr j.2 0), (8, iq (e : Nat))]) (fun j => .own j.2 30 [j.1] :: .ro g o (jA2 L) :: .own g2 30 [.slice A1 O.length c1] :: .own g1 30 [.slice none 0 0] :: (rowE j.1 53 2 (jA2 (ownQ (L.take (i + 1)))) ++ rowE (.slice A2 O.length c2) 51 2 (jA2 O))) (fun j => RowOk j.1 (ownQ (L.take (i + 1))).length ∧ (¬ e = 0 → j.1 = .slice A1 O.length c1)) _ [11, 15, 16] [(0, true), (1, true), (2, true), (3, true), (4, true), (5, true), (6, true), (7, true), (8, true), (9, true), (10, true), (11, false), (12, true), (13, true), (14, true), (15, false), (16, false), (17, true)] [(0, true), (1, true), (2, true), (3, true), (4, true), (5, true), (6, true), (7, true), (8, true), (9, true), (10, true), (15, false), (11, false), (12, true), (13, true), (14, true), (16, false), (17, true)] mixed (by kernel_rfl) (HLe.pick [0, 1] (by simp) (by simp only [pick, l7, qS]; rfl)) ?_ ?_ ?_
  ·refine tw_p rfl <| jM3 0 rfl rfl tyA30 tyS30 rfl (by simp only [qS]; rfl) rfl ?_
   refine vN <| tw_p rfl <| jA8 ?_
   refine vN <| tw_p rfl <| jA8 ?_
   refine vN <| tw_p rfl <| jJ8 (o + i * 2) Tryz.underlying22 tyS51 rfl rfl (by omega) (by simp) rfl ?_
   refine vN <| tw_p rfl <| jA7 kF4 ?_
   refine vN <| tw_p rfl <| jM1 1 rfl rfl (i * 2) rfl tyA25 tyS25 (jO6 hx) rfl <| vN <| tw_p rfl <| jA8 ?_
   refine vN <| tw_p rfl <| jA8 ?_
   refine vN <| tw_p rfl <| jJ8 (o + i * 2) Tryz.underlying22 tyS51 rfl rfl (by omega) (by simp) rfl ?_
   refine vN <| tw_p rfl <| jA7 kL8 ?_
   refine vN <| tw_p rfl <| jM1 1 rfl rfl (i * 2 + 1) rfl tyA9 tyS9 (jV8 hx) rfl <| vN <| tw_g rfl <| jZ4 (fun u => .tuple #[.agg #[u], iq e]) _ hu1 (HLe.toEnd [_, _, _] _ _) (hput A1 c1) rfl rfl hq1 hq2 (fun u3 hu3 hs3 => ?_)
   obtain ⟨A3, c3, rfl, _⟩ := hu3.form
   refine sN ⟨HLe.pick [0, 1] (by simp) rfl, ?_⟩
   refine tw_p rfl <| jA8 ?_
   refine vN <| tw_p rfl <| jF7 rfl rfl rfl <| vN <| tw_p rfl <| jF7 rfl rfl rfl <| vN <| tw_g rfl <| sAl tyZ30 rfl (fun g3 => sN ⟨HLe.pick [1, 2] (by simp) rfl, ?_⟩)
   refine tw_g rfl <| sS0 0 tyS30 ?_
   refine sN ⟨HLe.pick [1, 2] (by simp) rfl, ?_⟩
   refine tw_p rfl <| jE7 rfl rfl <| vN <| jI7 <| ⟨(_, g3), ⟨hu3, hs3⟩, kR rfl, fun _ _ _ hw => hw.perm (.cons _ ((uO _ _ _).trans (.cons _ (.cons _ (.cons _ qX)))))⟩
  ·refine tw_p rfl <| jM3 0 rfl rfl tyA30 tyS30 rfl (by simp only [qS]; rfl) rfl ?_
   refine vN <| tw_p rfl <| jA8 ?_
   refine vN <| tw_p rfl <| jA8 ?_
   refine vN <| tw_p rfl <| jJ8 (o + i * 2) Tryz.underlying22 tyS51 rfl rfl (by omega) (by simp) rfl ?_
   refine vN <| tw_p rfl <| jA7 kF4 ?_
   refine vN <| tw_p rfl <| jM1 1 rfl rfl (i * 2) rfl tyA25 tyS25 (jO6 hx) rfl <| vN <| tw_p rfl <| jA8 ?_
   refine vN <| tw_p rfl <| jA8 ?_
   refine vN <| tw_p rfl <| jJ8 (o + i * 2) Tryz.underlying22 tyS51 rfl rfl (by omega) (by simp) rfl ?_
   refine vN <| tw_p rfl <| jA7 kL8 ?_
   refine vN <| tw_p rfl <| jM1 1 rfl rfl (i * 2 + 1) rfl tyA9 tyS9 (jV8 hx) rfl <| vN <| tw_g rfl <| sAl tyZ30 rfl (fun g3 => sN ⟨HLe.pick [1, 2] (by simp) rfl, ?_⟩)
   refine tw_g rfl <| jZ4 (fun u => .tuple #[.agg #[u], iq e]) _ hu1 (HLe.toEnd [_, _, _, _] _ _) (hput A1 c1) rfl rfl hq1 hq2 (fun u3 hu3 hs3 => ?_)
   obtain ⟨A3, c3, rfl, _⟩ := hu3.form
   refine sN ⟨HLe.pick [1, 2] (by simp) rfl, ?_⟩
   refine tw_p rfl <| jA8 ?_
   refine vN <| tw_p rfl <| jF7 rfl rfl rfl <| vN <| tw_p rfl <| jF7 rfl rfl rfl <| vN <| tw_g rfl <| sS0 0 tyS30 ?_
   refine sN ⟨HLe.pick [1, 2] (by simp) rfl, ?_⟩
   refine tw_p rfl <| jE7 rfl rfl <| vN <| jI7 <| ⟨(_, g3), ⟨hu3, hs3⟩, kR rfl, fun _ _ _ hw => hw.perm (.cons _ ((uO _ _ _).trans (.cons _ (.cons _ (.cons _ qX)))))⟩
  rintro ⟨u3, g7⟩ ⟨hu3, hs3⟩
  simp only at hu3 hs3
  obtain ⟨A3, c3, rfl, _⟩ := hu3.form
  refine jA6 (.own g7 30 [.slice A3 (ownQ (L.take (i + 1))).length c3] :: .ro g o (jA2 L) :: .own g2 30 [.slice A1 O.length c1] :: .own g1 30 [.slice none 0 0] :: (rowE (.slice A3 (ownQ (L.take (i + 1))).length c3) 53 2 (jA2 (ownQ (L.take (i + 1)))) ++ rowE (.slice A2 O.length c2) 51 2 (jA2 O))) (HLe.refl _) <| jJ7 (ι := Value) (fun u => [(0, .slice (some ⟨g, o, none⟩) L.length c), (2, ptr g1 0), (4, ptr g2 0), (5, .slice A2 O.length c2), (6, iq (i : Nat))]) (fun u => .ro g o (jA2 L) :: .own g2 30 [u] :: .own g1 30 [.slice none 0 0] :: (rowE u 53 2 (jA2 (ownQ (L.take (i + 1)))) ++ rowE (.slice A2 O.length c2) 51 2 (jA2 O))) (fun u => RowOk u (ownQ (L.take (i + 1))).length) ?_ ?_
  ·refine aR (fun Z hZ => sM rfl rfl <| jB0 ?_)
   refine sN (hZ _ _ <| f7K 0 2 4 5 6 7 33 rfl <| aC0 (fun h2 => ?_) (fun h2 => ?_))
   ·refine aG (fun Z hZ => sLA0 0 tyA30 tyS30 ?_)
    refine sS0 2 tyS30 ?_
    refine sN (hZ _ _ <| nF [(0, _), (2, _), (4, _), (5, _), (6, _)] (kR rfl) <| jE4 _ hu3 (kR rfl) <| HLe.drop 1 rfl)
   ·have he0 : ¬ e = 0 := by simp at h2; omega
    have hs4 := hs3 he0
    rw [hs4] at hu3 ⊢
    refine aK <| jE4 _ hu3 (kR rfl) <| HLe.drop 1 rfl
  rintro u4 hu4
  refine jA6 (.ro g o (jA2 L) :: .own g2 30 [u4] :: .own g1 30 [.slice none 0 0] :: (rowE u4 53 2 (jA2 (ownQ (L.take (i + 1)))) ++ rowE (.slice A2 O.length c2) 51 2 (jA2 O))) (HLe.refl _) <| jD3 _ [(0, true), (1, true), (2, true), (3, true), (4, true), (5, true), (6, true), (7, true), (8, true), (9, true), (10, true), (11, false), (12, true), (13, true), (14, true), (15, true), (16, true)] mixed (by kernel_rfl) (HLe.pick [0] (by simp) (by simp only [pick, l7, qS]; rfl)) (fun Z hZ => ?_)
  refine tw_p rfl <| jA8 ?_
  refine vN <| tw_p rfl <| jA8 ?_
  refine vN <| tw_p rfl <| jA8 ?_
  refine vN <| tw_p rfl <| jJ8 (o + i * 2) Tryz.underlying22 tyS51 rfl rfl (by omega) (by simp) rfl ?_
  refine vN <| tw_p rfl <| jA7 kF4 ?_
  refine vN <| tw_p rfl <| jM1 0 rfl rfl (i * 2) rfl tyA25 tyS25 (jO6 hx) rfl <| vN <| tw_p rfl <| jA8 ?_
  refine vN <| tw_p rfl <| jA8 ?_
  refine vN <| tw_p rfl <| jJ8 (o + i * 2) Tryz.underlying22 tyS51 rfl rfl (by omega) (by simp) rfl ?_
  refine vN <| tw_p rfl <| jA7 kL8 ?_
  refine vN <| tw_p rfl <| jM1 0 rfl rfl (i * 2 + 1) rfl tyA9 tyS9 (jV8 hx) rfl <| vN <| tw_g rfl <| jZ4 (fun u => .tuple #[u, iq e]) (.ro g o (jA2 L) :: .own g2 30 [u4] :: .own g1 30 [.slice none 0 0] :: rowE u4 53 2 (jA2 (ownQ (L.take (i + 1))))) hu2 (HLe.refl _) (hputR A2 c2) rfl rfl hq1 hq2 (fun u5 hu5 hs5 => sN ⟨HLe.pick [0] (by simp) rfl, ?_⟩)
  refine tw_p rfl <| jA8 ?_
  refine vN <| tw_p rfl <| jF7 rfl rfl rfl <| vN <| tw_p rfl <| jF7 rfl rfl rfl <| vN <| tw_p rfl <| jE7 rfl rfl <| vN ?_
  refine tw_p rfl <| jE7 rfl rfl <| vN <| jI7 (hZ _ _ <| f7K 0 2 4 5 6 9 10 rfl <| aR fun Z hZ => sM rfl rfl <| jB0 ?_)
  refine sN (hZ _ _ <| f7K 0 2 4 5 6 9 51 rfl <| aC0 (fun h2 => ?_) (fun h2 => ?_))
  ·refine aG (fun Z hZ => sM rfl rfl <| sAN hZ rfl rfl <| nF [(0, _), (2, _), (4, _), (5, _), (6, _)] (kR rfl) ?_)
   repeat refine nBN ?_
   refine nN ?_
   refine aG (fun Z hZ => ?_)
   refine sM rfl rfl ?_
   refine jC2 rfl rfl ((i + 1 : Nat) : Int) (by rw [lT _ (by omega)]; omega) rfl ?_
   refine sAN hZ rfl rfl <| nF [(0, _), (2, _), (4, _), (5, _), (6, _)] (kR rfl) <| jB8 (i + 1, u4, u5) ⟨by show i + 1 ≤ _; omega, hu4, hu5⟩ (by simp; omega) (kR rfl) (fun _ _ _ hw => hw.perm ((uO _ _ _).trans (.cons _ (uO _ _ _))))
  ·have he0 : ¬ e = 0 := by simp at h2; omega
   obtain rfl := hs5 he0
   refine aK ?_
   repeat refine nBN ?_
   refine nN ?_
   refine aG (fun Z hZ => ?_)
   refine sM rfl rfl ?_
   refine jC2 rfl rfl ((i + 1 : Nat) : Int) (by rw [lT _ (by omega)]; omega) rfl ?_
   refine sAN hZ rfl rfl <| nF [(0, _), (2, _), (4, _), (5, _), (6, _)] (kR rfl) <| jB8 (i + 1, u4, .slice A2 O.length c2) ⟨by show i + 1 ≤ _; omega, hu4, hu5⟩ (by simp; omega) (kR rfl) (fun _ _ _ hw => hw.perm ((uO _ _ _).trans (.cons _ (uO _ _ _))))
 ·refine jB1 ?_
  repeat refine nTE ?_
  refine nBE <| nN ?_
  have hke : i = L.length := by simp at h; omega
  subst hke
  rw [x6] at hu1 hu2 ⊢
  obtain ⟨A1, c1, rfl, _⟩ := hu1.form
  refine aR (fun Z hZ => sLA0 0 tyA30 tyS30 ?_)
  refine sM rfl rfl <| sS0 1 tyS30 ?_
  refine sAN hZ rfl rfl <| f2K 2 3 rfl <| aE <| jD9 _ rfl (ResOk.cell 1 rfl rfl tyA30 tyS30 rfl) rfl (HLe.sub ((lP T _).trans (lP [_, _] _))) ⟨_, _, rfl, hu1, hu2, rfl⟩
end
section
open Go.RowKit
theorem ChOk.its {L : List It} (h : ChOk L) : yX9 L := fun e he => by have := h.lt e he; omega
end
section
open Go.RowKit
theorem HLe.two {T U H : Heap} (h1 : T.Sublist H) (h2 : U.Sublist H) (hU : Ro U) : HLe (T ++ U) H := (HLe.sub (List.Sublist.append_right h1 U)).trans (HLe.dup h2 hU)
theorem Sat.both {w : World} {T U : Heap} (h : Sat w [] T w) (k : Sat w [] U w) (hT : Ro T) (hU : Ro U) : Sat w [] (T ++ U) w :=
 ⟨h.only, fun e he => by
  rcases List.mem_append.1 he with he | he
  ·exact h.ents e he
  ·exact k.ents e he, List.pairwise_append.2 ⟨h.sep, k.sep, fun a ha b hb hw => by
   rw [hT a ha, hU b hb] at hw
   cases hw⟩⟩
theorem vH6 {L : List TypeDesc} {cs : List Value} (h : Alike (.string :: L) cs) : ∃ (s : List UInt8) (c : List Value), cs = .string (str s) :: c ∧ s.length ≤ maxLen ∧ Alike L c := by
 cases h with
 | cons h1 h2 =>
  obtain ⟨l, rfl, hl⟩ := h1
  exact ⟨l, _, rfl, hl, h2⟩
def ofL (L : List It) : List It := if ofQ L = 0 then jT0 L else []
section
variable {N : Frm} {w0 w : World} {Wr : List Nat} {ops : Array Oper} {rest : List Oper} {fr : Fr} {H : Heap} {Z : Fr → Heap → Prop} {d ty : Nat} {pos : String} {after : Array Edge} {xs : List Operand} {ts : Array TypeId} {A B : Option Addr} {c c2 : Nat}
theorem wC4 (L : List It) (hA : SlIn A L.length c) (hS : (roE A (jA2 L)).Sublist H) (hL : L.length ≤ 100000) (hx : evs fr xs = some [chV A L.length c]) (hN : Nat.ble (d + 1) N.n = true)
  (h : ∀ A' c', SlIn A' L.length c' → sx Tryz.prog N w0 Wr ops rest ((d, .slice A' L.length c') :: fr) (H ++ roE A' (jA2 L)) Z) : sx Tryz.prog N w0 Wr ops ((⟨some d, .call { callee := .value (.func 15), args := xs.toArray, argTypes := ts }, ty, pos, after, none⟩ : Oper) :: rest) fr H Z :=
 kV9 (roE A (jA2 L)) (yA7 A c L _ hA.arg (fun _ => rfl) hA.nil (Ro.roE _ _) hL) hx hS (Ro.roE _ _) hN fun A' c' hA' => jC3 _ (HLe.swap _ _) (h A' c' hA')
theorem wC5 (L : List It) (hA : SlIn A L.length c) (hS : (roE A (jA2 L)).Sublist H) (hL : L.length ≤ 100000) (hx : evs fr xs = some [.slice A L.length c]) (hN : Nat.ble (d + 1) N.n = true)
  (h : ∀ A' c', SlIn A' L.length c' → sx Tryz.prog N w0 Wr ops rest ((d, .slice A' L.length c') :: fr) (H ++ roE A' (jA2 L)) Z) : sx Tryz.prog N w0 Wr ops ((⟨some d, .call { callee := .value (.func 14), args := xs.toArray, argTypes := ts }, ty, pos, after, none⟩ : Oper) :: rest) fr H Z :=
 kV9 (roE A (jA2 L)) (yA9 A c L _ hA.arg (fun _ => rfl) (Ro.roE _ _) hL) hx hS (Ro.roE _ _) hN fun A' c' hA' => jC3 _ (HLe.swap _ _) (h A' c' hA')
theorem yL9 (L : List It) (T : Heap) (hA : jH6 A L.length) (hT : 0 < L.length → T = roE A (jA2 L)) (hro : Ro T) (hS : T.Sublist H) (hL : L.length ≤ 100000) (hx : evs fr xs = some [.slice A L.length c]) (hN : Nat.ble (d + 1) N.n = true)
  (h : ∀ A1 c1 A2 c2, SlIn A1 (ownQ L).length c1 → SlIn A2 (ownQ L).length c2 → sx Tryz.prog N w0 Wr ops rest ((d, .tuple #[chV A1 (ownQ L).length c1, .slice A2 (ownQ L).length c2]) :: fr) ((H ++ roE A1 (jA2 (ownQ L))) ++ roE A2 (jA2 (ownQ L))) Z) : sx Tryz.prog N w0 Wr ops ((⟨some d, .call { callee := .value (.func 6), args := xs.toArray, argTypes := ts }, ty, pos, after, none⟩ : Oper) :: rest) fr H Z :=
 kV8 T (zC2 A c L T hA hT hro hL) hx hS hro hN (by
  rintro v H' ⟨u1, u2, rfl, hu1, hu2, rfl⟩
  rw [((jI9 _ _ _ _).append (jI9 _ _ _ _)).filter]
  obtain ⟨A1, c1, rfl, hA1, hle1⟩ := hu1.ro
  obtain ⟨A2, c2, rfl, hA2, hle2⟩ := hu2.ro
  refine kF6 (fun w hw => row_cap hu1 (fun x hx => xI _ (xI _ hx)) hw) (fun hc1 => kF6 (fun w hw => row_cap hu2 (fun x hx => xI _ (x0 _ hx)) hw) (fun hc2 => jC3 _ ?_ (h A1 c1 A2 c2 ⟨hA1, hc1.1, kK1 hu1⟩ ⟨hA2, hc2.1, kK1 hu2⟩)))
  rw [xF]
  refine (HLe.swap _ _).trans <| HLe.trans ?_ (by rw [xF]; exact hle1 [] _ _ _ _)
  rw [xF]
  exact hle2 _ _ _ _ _)
theorem wC1 (L M : List It) (hA : SlIn A L.length c) (hB : SlIn B M.length c2) (h1 : (roE A (jA2 L)).Sublist H) (h2 : (roE B (jA2 M)).Sublist H) (hL : L.length ≤ maxLen) (hM : M.length ≤ maxLen) (hx : evs fr xs = some [.slice A L.length c, .slice B M.length c2]) (hN : Nat.ble (d + 1) N.n = true)
  (h : sx Tryz.prog N w0 Wr ops rest ((d, .bool (jP0 L M)) :: fr) H Z) : sx Tryz.prog N w0 Wr ops ((⟨some d, .call { callee := .value (.func 13), args := xs.toArray, argTypes := ts }, ty, pos, after, none⟩ : Oper) :: rest) fr H Z :=
 jO2 (roE A (jA2 L) ++ roE B (jA2 M)) (wF4 A c L _ hA.arg (fun _ => rfl) hL B c2 M _ hB.arg (fun _ => rfl) hM) hx (HLe.two h1 h2 (Ro.roE _ _)) ((Ro.roE _ _).append (Ro.roE _ _)) hN h
end
set_option maxRecDepth 100000
theorem wJ6 : leaves Tryz.prog 5 51 = some [.int .u64, .string] := by kernel_rfl
def It.ok (e : It) : Prop := e.id < 18446744073709551616 ∧ e.tx.length ≤ maxLen
theorem zI2 (r : List Value) (h : Alike [.int .u64, .string] r) : ∃ x : It, x.ok ∧ r = x.cells := by
 obtain ⟨a, c, rfl, ha, a1⟩ := wR2 h
 obtain ⟨s, c, rfl, hs, a2⟩ := vH6 a1
 cases a2
 exact ⟨⟨a, s⟩, ⟨ha, hs⟩, rfl⟩
theorem wY9 {H : Type} {enc : TypeId × Value → H} {w : World} {b0 : Nat} {r : Reach} {v : Value} {d : DataW H} {p : List MemPlace}
  (hv : Value.okWide Tryz.prog w r b0 22 v) (h : DataW.Trod enc Tryz.prog w 0 (fun _ => true) true 22 v d p) :
  ∃ A c, ∃ L : List It, ∃ T : Heap, v = .slice A L.length c ∧ jH6 A L.length ∧ L.length ≤ maxLen ∧ yX8 L ∧ (0 < L.length → T = roE A (jA2 L)) ∧ Ro T ∧ Sat w [] T w ∧ L.length ≤ c := by
 obtain ⟨A, n, c, rows, hv2, h1, h2, h3, h4⟩ := wI2 5 Tryz.underlying22 wJ6 (by kernel_rfl) (Nat.succ_pos _) hv h
 have hcap : n ≤ c := by
  obtain ⟨a0, len0, cap0, rfl⟩ := Go.WideShapes.okWide_slice Tryz.underlying22 hv
  injection hv2 with e1 e2 e3
  obtain ⟨fuel, hf⟩ := h
  rcases Go.Deep.open_slice Tryz.underlying22 hf with ⟨hcs, _⟩ | ⟨a, len, cap, m', n', D, Pl, hcs, _, hl, hm, hmm, _, hi⟩
  ·simp [Value.cells] at hcs
   omega
  ·simp [Value.cells] at hcs
   omega
 subst hv2
 obtain ⟨L, h5, h6, h7⟩ := wF0 (f := It.cells) (ok := It.ok) zI2 rows h3
 have hn : L.length = n := by omega
 subst hn
 rw [h5] at h4
 by_cases h0 : 0 < L.length
 ·exact ⟨A, c, L, roE A (jA2 L), rfl, yJ5 h4, h2, h7, fun _ => rfl, Ro.roE _ _, yX6 h4 h0, hcap⟩
 ·exact ⟨A, c, L, [], rfl, yJ5 h4, h2, h7, fun h => absurd h h0, Ro.nil, Sat.nil w, hcap⟩
end
section
open Go.RowKit
theorem vR7 : ∀ (M : List It) (seen : List Nat), (seen ++ idsI M).Nodup → seen.length + M.length ≤ 2048 → (∀ e ∈ M, e.id < 6004799503160661 ∧ e.tx ≠ [] ∧ e.tx.length ≤ 65536) → ofE seen M = 0
 | [], _, _, _, _ => rfl
 | e :: r, seen, hn, hl, hg => by
  have h1 := hg e lO
  have h2 : e.id ∉ seen := fun hm => by
   have := List.nodup_append.1 hn
   exact this.2.2 e.id hm e.id (by simp [idsI]) rfl
  have h3 : ¬ 2048 ≤ seen.length := by simp at hl; omega
  have hw : jE1 e.id e.tx (decide (2048 ≤ seen.length)) = 0 := by
   unfold jE1
   rw [if_neg (by omega), if_neg h1.2.1, if_neg (by omega), decide_eq_false h3]
   rfl
  rw [ofE, if_neg h2, hw, if_neg (by simp)]
  refine vR7 r (seen ++ [e.id]) (by simpa [idsI] using hn) (by simp at hl ⊢; omega) fun x hx => hg x (lW _ hx)
theorem yQ7 {O M : List It} (hO : ChOk O) (hp : M.Perm O) : ofQ M = 0 ∧ ofL M = O := by
 have hn : (idsI O).Nodup := by
  unfold idsI
  have := hO.rise
  exact (List.pairwise_map.2 (this.imp fun h => Nat.ne_of_lt h))
 have hnM : (idsI M).Nodup := (hp.map fun e : It => e.id).nodup_iff.2 hn
 have h0 : ofQ M = 0 := vR7 M [] (by simpa using hnM) (by have := hp.length_eq; have := hO.len; simp; omega) fun e he => by
  have hm := hp.mem_iff.1 he
  exact ⟨hO.lt e hm, hO.tx e hm⟩
 refine ⟨h0, ?_⟩
 unfold ofL
 rw [if_pos h0]
 exact (wE3 hnM hp.symm (hO.rise.imp fun h => uF h)).symm
end
namespace V
open Go.RowKit
def mwrQ (e : En) (many : Nat) (data : List UInt8) : Nat := if e.run = 0 then 14 else if data.length < e.off + e.len then 8 else if 2048 < many then 21 else if 65536 < e.len then 5 else 0
def txOf (x : En) (data : List UInt8) : List UInt8 := (data.drop x.off).take x.len
def jU3 (x : En) (data : List UInt8) : List It := (List.range x.run).map fun k => ⟨x.id + k, txOf x data⟩
def mbR (data : List UInt8) : Nat → List It → List En → Nat × List It
 | _, out, [] => (0, out)
 | many, out, x :: r => if mwrQ x (many + x.run) data = 0 then mbR data (many + x.run) (out ++ jU3 x data) r else (mwrQ x (many + x.run) data, [])
def mbQ (L : List En) (data : List UInt8) : Nat × List It := if rowC L = 0 then mbR data 0 [] L else (rowC L, [])
theorem vS5 {e : En} {many : Nat} {data : List UInt8} (h : mwrQ e many data = 0) : e.run ≠ 0 ∧ e.off + e.len ≤ data.length ∧ many ≤ 2048 ∧ e.len ≤ 65536 := by
 unfold mwrQ at h
 repeat' split at h
 all_goals first | omega | skip
 all_goals exact ⟨by assumption, by omega, by omega, by omega⟩
theorem wK0 (x : En) (data : List UInt8) : (jU3 x data).length = x.run := by simp [jU3]
theorem yA6 {x : En} {data : List UInt8} {k : Nat} (h : k < x.run) : (jU3 x data).take (k + 1) = (jU3 x data).take k ++ [⟨x.id + k, txOf x data⟩] := by
 rw [List.take_add_one]
 congr 1
 simp [jU3, h]
theorem yH8 (data : List UInt8) : ∀ (L : List En) (free many : Nat) (out : List It), jF4 L → rowQ free L = 0 → Rise out → (∀ e ∈ out, e.id < free ∧ e.id < 6004799503160661 ∧ e.tx ≠ [] ∧ e.tx.length ≤ 65536) → out.length = many → many ≤ 2048 → ∀ O, mbR data many out L = (0, O) → ChOk O
 | [], _, _, out, _, _, hr, ho, hl, hm, O, h => by
  rw [mbR] at h
  injection h with _ h
  subst h
  exact ⟨hr, fun e he => (ho e he).2.1, fun e he => (ho e he).2.2, by omega⟩
 | x :: r, free, many, out, hE, hq, hr, ho, hl, hm, O, h => by
  have hx := hE x lO
  rw [rowQ] at hq
  split at hq
  ·rename_i hc
   split at hq
   ·cases hq
   ·rename_i hf
    rw [mbR] at h
    split at h
    ·rename_i hw
     obtain ⟨w1, w2, w3, w4⟩ := vS5 hw
     obtain ⟨c1, c2, c3, c4⟩ := kI6 hx hc
     have hwide : x.wide = x.run := by unfold En.wide; omega
     have hlast : jK7 x + 1 = x.id + x.run := by unfold jK7; rw [if_pos hc, hwide]; omega
     have htx : (txOf x data).length = x.len := by unfold txOf; rw [xS, xY]; omega
     refine yH8 data r (jK7 x + 1) (many + x.run) _ (fun e he => hE e (lW _ he)) hq ?_ (fun e he => ?_) (by rw [lX, wK0, hl]) w3 O h
     ·refine List.pairwise_append.2 ⟨hr, List.pairwise_map.2 (List.pairwise_lt_range.imp fun h => by show x.id + _ < x.id + _; omega), fun a ha b hb => ?_⟩
      obtain ⟨k, _, rfl⟩ := List.mem_map.1 hb
      have := (ho a ha).1
      show a.id < x.id + k
      omega
     ·rcases List.mem_append.1 he with he | he
      ·obtain ⟨h1, h2, h3⟩ := ho e he
       exact ⟨by omega, h2, h3⟩
      ·obtain ⟨k, hk, rfl⟩ := List.mem_map.1 he
       have hk := List.mem_range.1 hk
       refine ⟨by show x.id + k < _; omega, by show x.id + k < _; omega, fun hn => ?_, by show (txOf x data).length ≤ _; omega⟩
       have : (txOf x data).length = 0 := by rw [show txOf x data = [] from hn]; rfl
       omega
    ·rename_i hw
     injection h with h _
     exact absurd h hw
  ·rename_i hc
   exact absurd hq hc
theorem yH7 {data : List UInt8} : ∀ (L : List En) (many : Nat) (out : List It), (mbR data many out L).1 ≠ 0 → (mbR data many out L).2 = []
 | [], _, _, h => absurd rfl h
 | x :: r, many, out, h => by
  rw [mbR] at h ⊢
  split
  ·rename_i hw
   rw [if_pos hw] at h
   exact yH7 r _ _ h
  ·rfl
theorem zH7 {L : List En} (hE : jF4 L) (data : List UInt8) : ChOk (mbQ L data).2 := by
 unfold mbQ
 split
 ·rename_i hr
  have hq : rowQ 0 L = 0 := by
   unfold rowC at hr
   split at hr
   ·cases hr
   ·exact hr
  by_cases h0 : (mbR data 0 [] L).1 = 0
  ·exact yH8 data L 0 0 [] hE hq qH (fun e he => by cases he) rfl (by omega) _ (Prod.ext h0 rfl)
  ·rw [yH7 L 0 [] h0]; exact ChOk.nil
 ·exact ChOk.nil
end V
namespace V
open Go.RowKit
set_option maxRecDepth 100000
theorem vO0 {P : Program} {N : Frm} {w0 : World} {Wr : List Nat} {fr : Fr} {H : Heap} {Q : Exit → Act → World → Prop} {c : Code} {ι : Type} (F : ι → Fr) (HH : ι → Heap) (I : ι → Prop)
  (hx : awp P N w0 Wr c fr H (Exit.then (fun a w => ∃ j, I j ∧ FrOk N (F j) a ∧ Sat w0 Wr (HH j) w) Q)) (hy : ∀ j, I j → nx N w0 Wr (F j) (HH j) Q .normal) : awp P N w0 Wr c fr H Q :=
 fun a w ha hw => kT4 (fun e a w h => by
  cases e <;> first | exact h | (obtain ⟨j, hj, h1, h2⟩ := h; exact hy j hj a w h1 h2)) (hx a w ha hw)
theorem wJ2 (e : En) (he : e.ok) (ho : e.off ≤ 1099511627776) (many : Nat) (hm : many < 18446744073709551616) (data : List UInt8) (hd : data.length ≤ 1000000) :
  Fn Tryz.prog 70 [e.val, uq many, .string (str data)] [] fun v _ => v = iq (mwrQ e many data) := by
 obtain ⟨h1, h2, h3, h4⟩ := he
 refine Fn.enter (N := 29) Tryz.func70 rfl (by kernel_rfl) rfl (fun w0 => ?_)
 refine aR (fun Z hZ => jB5 (fun g1 => ?_))
 refine sAN hZ rfl rfl <| f3K 1 2 3 rfl <| aS (aB <| aR (fun Z hZ => sFA0 jN0 ?_))
 first | refine sL0 0 tyA78 tyS78 ?_
 refine jB0 ?_
 refine sAN hZ rfl rfl <| f4K 1 2 3 7 rfl <| aC0 (fun h => ?_) (fun h => ?_)
 ·have h' : e.run = 0 := by simp at h; omega
  rw [show mwrQ e many data = 14 by unfold mwrQ; rw [if_pos h']]
  refine aA rfl rfl <| f1K 6 rfl <| aE ?_
  repeat (with_reducible (first | refine nTR ?_ | refine nBR ?_))
  exact nR10 rfl
 have h' : ¬ e.run = 0 := by simp at h; omega
 refine aR (fun Z hZ => sFA0 jH7 ?_)
 first | refine sL0 0 tyA25 tyS25 ?_
 refine sFA0 jL8 ?_
 first | refine sL0 0 tyA78 tyS78 ?_
 refine jB7 Tryz.underlying78 Tryz.underlying25 rfl ((e.len : Nat) : Int) (by rw [l6 _ (by omega)]) rfl ?_
 refine jC2 rfl rfl ((e.off + e.len : Nat) : Int) (by rw [l6 _ (by omega)]; omega) rfl ?_
 refine sM rfl rfl <| jD6 Tryz.underlying9 rfl rfl <| jB7 Tryz.underlying3 Tryz.underlying25 rfl ((data.length : Nat) : Int) (by rw [l6 _ (by omega)]) rfl ?_
 refine jC4 ?_
 refine sAN hZ rfl rfl <| f3K 1 3 11 rfl <| aC0 (fun h2' => ?_) (fun h2' => ?_)
 ·have h2' : data.length < e.off + e.len := by simp at h2'; omega
  rw [show mwrQ e many data = 8 by unfold mwrQ; rw [if_neg h', if_pos h2']]
  refine aA rfl rfl <| f1K 6 rfl <| aE ?_
  repeat (with_reducible (first | refine nTR ?_ | refine nBR ?_))
  exact nR10 rfl
 have h2' : ¬ data.length < e.off + e.len := by simp at h2'; omega
 refine aR fun Z hZ => sM rfl rfl <| jC4 ?_
 refine sAN hZ rfl rfl <| f2K 3 22 rfl <| aC0 (fun h5 => ?_) (fun h5 => ?_)
 ·have h5 : 2048 < many := by simp at h5; omega
  rw [show mwrQ e many data = 21 by unfold mwrQ; rw [if_neg h', if_neg h2', if_pos h5]]
  refine aA rfl rfl <| f1K 6 rfl <| aE ?_
  repeat (with_reducible (first | refine nTR ?_ | refine nBR ?_))
  exact nR10 rfl
 have h5 : ¬ 2048 < many := by simp at h5; omega
 refine aR (fun Z hZ => sFA0 jL8 ?_)
 first | refine sL0 0 tyA78 tyS78 ?_
 refine jC4 ?_
 refine sAN hZ rfl rfl <| f1K 25 rfl <| aC0 (fun h6 => ?_) (fun h6 => ?_)
 ·have h6 : 65536 < e.len := by simp at h6; omega
  rw [show mwrQ e many data = 5 by unfold mwrQ; rw [if_neg h', if_neg h2', if_neg h5, if_pos h6]]
  refine aA rfl rfl <| f1K 6 rfl <| aE ?_
  repeat (with_reducible (first | refine nTR ?_ | refine nBR ?_))
  exact nR10 rfl
 have h6 : ¬ 65536 < e.len := by simp at h6; omega
 rw [show mwrQ e many data = 0 by unfold mwrQ; rw [if_neg h', if_neg h2', if_neg h5, if_neg h6]]
 refine aK ?_
 repeat refine nBN ?_
 refine nN <| aA rfl rfl <| f1K 6 rfl <| aE <| nR10 rfl
theorem vY0 {free : Nat} {e : En} {r : List En} (h : rowQ free (e :: r) = 0) : chkE e = 0 ∧ rowQ (jK7 e + 1) r = 0 := by
 rw [rowQ] at h
 split at h
 ·rename_i hc
  split at h
  ·cases h
  ·exact ⟨hc, h⟩
 ·rename_i hc; exact absurd h hc
theorem vS6 : ∀ (L : List En) (free : Nat), rowQ free L = 0 → ∀ e ∈ L, chkE e = 0
 | [], _, _, e, he => by cases he
 | x :: r, free, h, e, he => by
  obtain ⟨h1, h2⟩ := vY0 h
  rcases List.mem_cons.1 he with rfl | he
  ·exact h1
  ·exact vS6 r _ h2 e he
theorem vL5 (X Y : List It) : jA2 (X ++ Y) = jA2 X ++ jA2 Y := by simp [jA2]
theorem wZ5 (A : Option Addr) (c : Nat) (L : List En) (T : Heap) (hA : jH6 A L.length) (hT : 0 < L.length → T = roE A (jA1 L)) (hro : Ro T) (hL : L.length ≤ maxLen) (hE : jF4 L) (data : List UInt8) (hd : data.length ≤ 1000000) :
  Fn Tryz.prog 28 [.slice A L.length c, .string (str data)] T fun v H' => ∃ u, v = .tuple #[.agg #[u], iq (mbQ L data).1] ∧ RowOk u (mbQ L data).2.length ∧ H' = rowE u 53 2 (jA2 (mbQ L data).2) := by
 refine Fn.enter (N := 70) Tryz.func28 rfl (by kernel_rfl) rfl (fun w0 => ?_)
 refine aR (fun Z hZ => sAl tyZ30 rfl (fun g1 => sAN hZ rfl rfl <| f3K 0 1 4 rfl <| aS <| aR fun Z hZ => sM rfl rfl <| jD1 T (kA6 A c L T hA hT hro hL hE) rfl (x4 _ _) hro rfl <| sAN hZ rfl rfl <| f4K 0 1 4 6 rfl <| aR fun Z hZ => sM rfl rfl ?_))
 refine jC7 ?_
 refine sN (hZ _ _ <| f5K 0 1 4 6 17 rfl <| aC0 (fun h => ?_) (fun h => ?_))
 ·have h' : ¬ rowC L = 0 := by simp at h; omega
  rw [show mbQ L data = (rowC L, []) by unfold mbQ; rw [if_neg h']]
  refine aR (fun Z hZ => jD4 tyZ30 tyP30 ?_)
  refine sM rfl rfl ?_
  first | refine sS0 0 tyS30 ?_
  refine sAN hZ rfl rfl <| f2K 4 5 rfl <| aE ?_
  repeat refine nTR ?_
  exact jD9 [] rfl (ResOk.cell 0 rfl rfl tyA30 tyS30 rfl) rfl (HLe.sub (lN _)) ⟨_, rfl, RowOk.nil, rfl⟩
 have h' : rowC L = 0 := by simp at h; omega
 have hq : rowQ 0 L = 0 ∧ L.length ≤ 4096 := by
  unfold rowC at h'
  split at h'
  ·cases h'
  ·exact ⟨h', by omega⟩
 have hat := vS6 L 0 hq.1
 have hmb : mbQ L data = mbR data 0 [] L := by unfold mbQ; rw [if_pos h']
 have hokM := zH7 hE data
 rw [hmb] at hokM ⊢
 refine aK <| nN <| aA rfl rfl <| f4K 0 1 4 7 rfl <| aA rfl rfl <| f5K 0 1 4 7 8 rfl <| aS <| aR fun Z hZ => sM rfl rfl <| jE2 Tryz.underlying58 rfl rfl <| sMN hZ rfl rfl ?_
 refine f7K 1 4 7 8 20 21 22 rfl <| aB ?_
 refine jB9 (ι := Nat × Nat × Value × List It) (fun s => [(1, .string (str data)), (4, ptr g1 0), (7, uq s.2.1), (8, s.2.2.1), (20, .slice A L.length c), (21, iq (L.length : Nat)), (22, iq (s.1 : Nat))]) (fun s => .own g1 30 [.slice none 0 0] :: (T ++ rowE s.2.2.1 53 2 (jA2 s.2.2.2)))
  (fun s => s.1 ≤ L.length ∧ RowOk s.2.2.1 s.2.2.2.length ∧ s.2.2.2.length = s.2.1 ∧ s.2.1 ≤ 2048 ∧ mbR data s.2.1 s.2.2.2 (L.drop s.1) = mbR data 0 [] L) (fun s => L.length - s.1) (0, 0, .slice none 0 0, []) ⟨by simp, RowOk.nil, rfl, xD _, rfl⟩ (kR rfl) (by simp [rowE]; exact HLe.refl _) ?_
 rintro ⟨i, many, v, X⟩ ⟨hi, hv, hXl, hmn, hqq⟩
 simp only at hi hv hXl hmn hqq
 refine aR (fun Z hZ => jB2 ?_)
 refine sN (hZ _ _ <| f8K 1 4 7 8 20 21 22 23 rfl <| aS (aC0 (fun h2 => ?_) (fun h2 => ?_)))
 ·have hlt : i < L.length := by simpa using h2
  obtain ⟨x, hx⟩ : ∃ x, L[i]? = some x := ⟨_, xC hlt⟩
  have hxm := xM hx
  have hxo := hE x hxm
  obtain ⟨c1, c2, c3, c4⟩ := kI6 hxo (hat x hxm)
  obtain ⟨k1, k2, k3, k4⟩ := hxo
  have hdr : L.drop i = x :: L.drop (i + 1) := by rw [qR hlt]; congr 1; exact (List.getElem?_eq_some_iff.1 hx).2
  rw [hdr, mbR] at hqq
  obtain ⟨w, hw⟩ := xZ9 (mwrQ x (many + x.run) data)
  have hwf := wJ2 x (hE x hxm) c3 (many + x.run) (by omega) data hd
  rw [hw] at hqq hwf
  obtain ⟨g, o, rfl⟩ := hA (by omega)
  obtain rfl := hT (by omega)
  refine jA6 (.own g1 30 [.slice none 0 0] :: .ro g o (jA1 L) :: rowE v 53 2 (jA2 X)) (HLe.refl _) <| aK <| nN <| aS (aB <| aR (fun Z hZ => jB3 (o + i * 4) Tryz.underlying58 tyS80 rfl rfl (by first | omega | (simp; omega)) (by simp) rfl ?_))
  refine jB4 1 rfl rfl (i * 4) rfl tyA80 tyS80 (jG4 hx) rfl <| sAl tyZ80 rfl (fun g2 => sS0 0 tyS80 ?_)
  refine sN (hZ _ _ <| f8K 1 4 7 8 10 20 21 22 rfl <| aR fun Z hZ => sM rfl rfl <| sFA0 jN0 ?_)
  refine sL0 0 tyA78 tyS78 ?_
  refine jB7 Tryz.underlying78 Tryz.underlying25 rfl ((x.run : Nat) : Int) (by rw [l6 _ (by omega)]) rfl ?_
  refine jZ5 ((many + x.run : Nat) : Int) (by show IntKind.u64.wrap (((many : Nat) : Int) + ((x.run : Nat) : Int)) = _; rw [l6 _ (by omega)]; omega) ?_
  refine sAN hZ rfl rfl <| f8K 1 4 7 8 10 20 21 22 rfl <| aS <| aR (fun Z hZ => sLA0 0 tyA80 tyS80 ?_)
  refine sM rfl rfl <| sM rfl rfl <| sCP0 hwf ?_
  refine sAN hZ rfl rfl <| f9K 1 4 7 8 10 11 20 21 22 rfl <| aR fun Z hZ => sM rfl rfl <| jC7 ?_
  refine sN (hZ _ _ <| f10K 1 4 7 8 10 11 20 21 22 36 rfl <| aC0 (fun h3 => ?_) (fun h3 => ?_))
  ·have h3' : ¬ w = 0 := by simp at h3; omega
   rw [if_neg h3'] at hqq
   rw [← hqq]
   refine aR (fun Z hZ => jD4 tyZ30 tyP30 ?_)
   refine sM rfl rfl <| sS0 1 tyS30 ?_
   refine sAN hZ rfl rfl <| f2K 4 5 rfl <| aE ?_
   repeat (with_reducible (first | refine nTR ?_ | refine nBR ?_))
   exact jD9 [] rfl (ResOk.cell 1 rfl rfl tyA30 tyS30 rfl) rfl (HLe.sub (lN _)) ⟨_, rfl, RowOk.nil, rfl⟩
  have h3' : w = 0 := by simp at h3; omega
  rw [if_pos h3'] at hqq
  obtain ⟨w1, w2, w3, w4⟩ := vS5 (hw.trans h3')
  obtain ⟨tx, htx⟩ := xZ9 (txOf x data)
  have hil := wK0 x data
  have hitk : ∀ k, k < x.run → jA2 (X ++ (jU3 x data).take (k + 1)) = jA2 (X ++ (jU3 x data).take k) ++ (⟨x.id + k, tx⟩ : It).cells := fun k hk => by
   rw [yA6 hk, htx, ← xF, vL5 (X ++ (jU3 x data).take k)]
   simp [jA2]
  refine aK <| nN <| aR fun Z hZ => sM rfl rfl <| sFA0 jH7 ?_
  refine sL0 0 tyA25 tyS25 ?_
  refine sFA0 jH7 ?_
  refine sL0 0 tyA25 tyS25 ?_
  refine sFA0 jL8 ?_
  refine sL0 0 tyA78 tyS78 ?_
  refine jB7 Tryz.underlying78 Tryz.underlying25 rfl ((x.len : Nat) : Int) (by rw [l6 _ (by omega)]) rfl ?_
  refine jC2 rfl rfl ((x.off + x.len : Nat) : Int) (by rw [l6 _ (by omega)]; omega) rfl ?_
  refine jL9 tx Tryz.underlying9 rfl rfl rfl (by omega) (by omega) (by omega) (by rw [← htx]; unfold txOf; simp only [x9]; rw [Nat.add_sub_cancel_left]) rfl ?_
  refine sAN hZ rfl rfl <| f9K 1 4 7 8 10 12 20 21 22 rfl <| aR (fun Z hZ => sFA0 jN0 ?_)
  refine sL0 0 tyA78 tyS78 ?_
  refine sMN hZ rfl rfl <| f11K 1 4 7 8 10 12 20 21 22 50 51 rfl <| vO0 (ι := Value) (fun u => [(1, .string (str data)), (4, ptr g1 0), (7, uq (many + x.run)), (8, u), (20, .slice (some ⟨g, o, none⟩) L.length c), (21, iq (L.length : Nat)), (22, iq (i : Nat))]) (fun u => .own g2 80 x.cells :: .own g1 30 [.slice none 0 0] :: .ro g o (jA1 L) :: rowE u 53 2 (jA2 (X ++ jU3 x data))) (fun u => RowOk u (X ++ jU3 x data).length) ?_ ?_
  ·refine aB ?_
   refine jB9 (ι := Nat × Value) (fun s => [(1, .string (str data)), (4, ptr g1 0), (7, uq (many + x.run)), (8, s.2), (10, ptr g2 0), (12, .string (str tx)), (20, .slice (some ⟨g, o, none⟩) L.length c), (21, iq (L.length : Nat)), (22, iq (i : Nat)), (50, wq4 x.run), (51, wq4 s.1)]) (fun s => .own g2 80 x.cells :: .own g1 30 [.slice none 0 0] :: .ro g o (jA1 L) :: rowE s.2 53 2 (jA2 (X ++ (jU3 x data).take s.1)))
    (fun s => s.1 ≤ x.run ∧ RowOk s.2 (X.length + s.1)) (fun s => x.run - s.1) (0, v) ⟨by simp, hv⟩ (kR rfl) (by simp; exact HLe.refl _) ?_
   rintro ⟨k, u⟩ ⟨hk, hu⟩
   simp only at hk hu
   refine aR (fun Z hZ => jB2 ?_)
   refine sN (hZ _ _ <| f12K 1 4 7 8 10 12 20 21 22 50 51 52 rfl <| aS (aC0 (fun h4 => ?_) (fun h4 => ?_)))
   ·have hkl : k < x.run := by simp at h4; omega
    have hlenk : (X ++ (jU3 x data).take k).length = X.length + k := by rw [lX, xS, hil]; omega
    refine aK <| nN <| aS (aB <| aR fun Z hZ => sM rfl rfl <| sAN hZ rfl rfl <| f12K 1 4 7 8 10 12 13 20 21 22 50 51 rfl <| aG (fun Z hZ => sM rfl rfl <| sFA0 jK0 ?_))
    refine sL0 0 tyA25 tyS25 ?_
    refine sM rfl rfl <| jB7 Tryz.underlying78 Tryz.underlying25 rfl ((k : Nat) : Int) (by rw [l6 _ (by omega)]) rfl ?_
    refine jC2 rfl rfl ((x.id + k : Nat) : Int) (by rw [l6 _ (by unfold En.wide at c2; omega)]; omega) rfl ?_
    refine sM rfl rfl <| jD4 tyZ53 tyP53 ?_
    refine sBS0 Tryz.underlying28 tyS53 tyZ53 (fun g3 => ?_)
    refine jC9 [_, _, _, _] vG0 rfl hu (by rw [jG1, hlenk]) rfl (fun w hw => jJ3 (i := 0) (xs := (⟨x.id + k, tx⟩ : It).cells) rfl rfl hw) rfl (by show _ ≤ 9223372036854775807; omega) (by omega) (HLe.refl _) rfl (fun v2 hv2 => ?_)
    refine sAN hZ rfl rfl <| nF [(1, _), (4, _), (7, _), (8, _), (10, _), (12, _), (20, _), (21, _), (22, _), (50, _), (51, _)] (kR rfl) ?_
    repeat refine nBN ?_
    refine nN ?_
    refine aG (fun Z hZ => ?_)
    refine jC2 rfl rfl ((k + 1 : Nat) : Int) (by rw [IntWalk.u32_in _ (by omega)]; omega) rfl ?_
    refine sMN hZ rfl rfl <| nF [(1, _), (4, _), (7, _), (8, _), (10, _), (12, _), (20, _), (21, _), (22, _), (50, _), (51, _)] (kR rfl) <| jB8 (k + 1, v2) ⟨hkl, hv2⟩ (by simp; omega) (kR rfl) ?_
    simp only
    rw [hitk k hkl]
    exact HLe.drop 1 rfl
   ·have hke : k = x.run := by simp at h4; omega
    subst hke
    refine jB1 ?_
    repeat refine nTE ?_
    refine nBE <| jE4 u (by rw [lX, hil]; exact hu) (kR rfl) ?_
    simp only
    rw [qZ (Nat.le_of_eq hil)]
    exact HLe.refl _
  intro u hu
  repeat refine nBN ?_
  refine nN ?_
  refine aG (fun Z hZ => ?_)
  refine jC2 rfl rfl ((i + 1 : Nat) : Int) (by rw [lT _ (by omega)]; omega) rfl ?_
  refine sMN hZ rfl rfl <| nF [(1, _), (4, _), (7, _), (8, _), (20, _), (21, _), (22, _)] (kR rfl) <| jB8 (i + 1, many + x.run, u, X ++ jU3 x data) ⟨hlt, hu, by rw [lX, hil, hXl], w3, hqq⟩ (by simp; omega) (kR rfl) (HLe.drop 1 rfl)
 ·refine jB1 ?_
  repeat refine nTE ?_
  refine nBE <| nN ?_
  have hke : i = L.length := by simp at h2; omega
  subst hke
  rw [zW, mbR] at hqq
  rw [← hqq] at hokM ⊢
  simp only at hokM ⊢
  obtain ⟨q1, q2⟩ := yQ7 hokM (List.Perm.refl X)
  have hso : jT0 X = X := by
   unfold ofL at q2
   rw [if_pos q1] at q2
   exact q2
  obtain ⟨AX, cX, rfl, hAX, hleX⟩ := hv.ro
  have hof := yI8 AX cX X (roE AX (jA2 X)) hAX.arg (fun _ => rfl) (Ro.roE _ _) (by omega)
  rw [q1, hso] at hof
  refine aR fun Z hZ => sM rfl rfl <| jU6 (roE AX (jA2 X)) hof rfl ((kK0 hleX (_ :: T) _ _ _).trans (HLe.refl _)) (Ro.roE _ _) rfl ?_
  rintro v H' ⟨u, rfl, ⟨_, hu, rfl⟩ | ⟨hbad, _⟩⟩
  rotate_left
  exact absurd rfl hbad
  rw [jF1]
  refine jC3 _ (HLe.swap _ _) ?_
  obtain ⟨A2, c2, rfl, _⟩ := hu.form
  refine sX rfl rfl rfl <| sX rfl rfl rfl ?_
  first | refine sS0 0 tyS30 ?_
  refine sAN hZ rfl rfl <| f2K 4 5 rfl <| aE <| jD9 (rowE _ 53 2 (jA2 X)) rfl (ResOk.cell 0 rfl rfl tyA30 tyS30 rfl) rfl (HLe.sub (lP (_ :: (T ++ _)) _)) ⟨_, rfl, hu, rfl⟩
end V
namespace V
open Go.RowKit
section
variable {P : Program} {N : Frm} {w0 : World} {Wr : List Nat} {ops : Array Oper} {rest : List Oper} {fr : Fr} {H : Heap} {Z : Fr → Heap → Prop} {d ty : Nat} {pos : String} {after : Array Edge}
theorem yZ8 {t t' : TypeId} {x y : Operand} {k : IntKind} {m n : Int} (hx : ev fr x = some (.int k m)) (hy : ev fr y = some (.int k n)) (r : Int) (hr : k.wrap (BitVec.ofInt k.bits m ^^^ BitVec.ofInt k.bits n).toNat = r) (hN : Nat.ble (d + 1) N.n = true)
  (h : sx P N w0 Wr ops rest ((d, .int k r) :: fr) H Z) : sx P N w0 Wr ops (⟨some d, .binOp .xor t x y t', ty, pos, after, none⟩ :: rest) fr H Z :=
 jO9 _ hx hy (fun w => by subst hr; simp [binOp, Op.intBits]) hN h
end
def fnvI (h : Nat) (b : UInt8) : Int := IntKind.u64.wrap (BitVec.ofInt IntKind.u64.bits ((h : Nat) : Int) ^^^ BitVec.ofInt IntKind.u64.bits ((b.toNat : Nat) : Int)).toNat
def fnvS (h : Nat) (b : UInt8) : Nat := (IntKind.u64.wrap (fnvI h b * 1099511628211)).toNat
theorem yT6 (h : Nat) (b : UInt8) : IntKind.u64.wrap (fnvI h b * 1099511628211) = ((fnvS h b : Nat) : Int) := by
 unfold fnvS
 rw [Int.toNat_of_nonneg]
 simp only [IntKind.wrap, IntKind.bits, IntKind.signed]
 exact Int.emod_nonneg _ (by decide)
def fnvQ (s : List UInt8) : Nat := s.foldl fnvS 14695981039346656037
theorem yB7 (h : Nat) (b : UInt8) : Fn Tryz.prog 191 [uq h, .int .u8 (b.toNat : Nat)] [] fun v _ => v = uq (fnvS h b) := by
 have hb := b.toNat_lt
 refine Fn.enter (N := 10) Tryz.func191 rfl (by kernel_rfl) rfl (fun w0 => ?_)
 refine aA rfl rfl <| f2K 0 1 rfl <| aR fun Z hZ => sM rfl rfl <| sM rfl rfl <| jB7 Tryz.underlying5 Tryz.underlying25 rfl ((b.toNat : Nat) : Int) (by rw [l6 _ (by omega)]) rfl ?_
 refine yZ8 rfl rfl (fnvI h b) rfl rfl <| vB9 rfl rfl ((fnvS h b : Nat) : Int) (yT6 h b) rfl <| sAN hZ rfl rfl <| f1K 4 rfl <| aE <| nR10 rfl
theorem wL5 {s : List UInt8} {i : Nat} {c : UInt8} (h : s[i]? = some c) : fnvQ (s.take (i + 1)) = fnvS (fnvQ (s.take i)) c := by
 obtain ⟨hlt, rfl⟩ := List.getElem?_eq_some_iff.1 h
 unfold fnvQ
 rw [qB hlt, List.foldl_append, zA, List.foldl_nil]
theorem yB9 : fnvQ [] = 14695981039346656037 := rfl
attribute [irreducible] fnvQ fnvS fnvI
theorem yB8 (s : List UInt8) (hs : s.length ≤ 9223372036854775807) : Fn Tryz.prog 192 [.agg #[.int .u64 14695981039346656037, .func (.func 191) #[] #[]], .string (str s)] [] fun v _ => v = uq (fnvQ s) := by
 refine Fn.enter (N := 23) Tryz.func192 rfl (by kernel_rfl) rfl (fun w0 => ?_)
 refine aR (fun Z hZ => jB5 (fun g1 => ?_))
 refine sAN hZ rfl rfl <| f2K 1 2 rfl <| aS <| aR fun Z hZ => sM rfl rfl <| jD6 Tryz.underlying9 rfl rfl <| sMN hZ rfl rfl <| f4K 1 2 7 8 rfl <| aB ?_
 refine jB9 (ι := Nat) (fun i => [(1, .string (str s)), (2, ptr g1 0), (7, iq (s.length : Nat)), (8, iq (i : Nat))]) (fun i => [.own g1 286 [uq (fnvQ (s.take i)), .func (.func 191) #[] #[]]])
  (fun i => i ≤ s.length) (fun i => s.length - i) 0 (by simp) (kR rfl) (by simp only [lB, yB9]; exact HLe.refl _) ?_
 rintro i hi
 refine aR (fun Z hZ => jB2 ?_)
 refine sN (hZ _ _ <| f5K 1 2 7 8 9 rfl <| aS (aC0 (fun h => ?_) (fun h => ?_)))
 ·have hlt : i < s.length := by simpa using h
  obtain ⟨ch, hch⟩ : ∃ c, s[i]? = some c := ⟨_, xC hlt⟩
  have hsn := wL5 hch
  refine aK <| nN <| aS (aB <| aR fun Z hZ => sM rfl rfl <| sAN hZ rfl rfl <| f5K 1 2 5 7 8 rfl <| jS4 _ [(0, true), (1, true), (2, true), (3, true), (4, true), (5, true), (6, true), (7, false), (8, true)] 9 rfl mixed (by kernel_rfl) (HLe.pick [0] (by simp) (by simp only [pick, l7, qS]; rfl)) (fun Z hZ => ?_))
  refine tw_p rfl <| jA7 wT7 ?_
  refine vN <| tw_p rfl ?_
  first | refine jE6 0 rfl rfl tyA284 tyS284 rfl rfl ?_
  refine vN <| tw_p rfl <| jA7 kV0 ?_
  refine vN <| tw_p rfl ?_
  first | refine jE6 0 rfl rfl tyA25 tyS25 rfl rfl ?_
  refine vN <| tw_p rfl <| jA8 ?_
  refine vN <| tw_p rfl <| jA8 ?_
  refine vN <| tw_p rfl <| wD1  Tryz.underlying9 rfl rfl (Int.natCast_nonneg i) (by rw [x9]; exact hch) rfl ?_
  refine vN <| tw_g rfl <| jU7 (caps := []) (vs := [uq (fnvQ (s.take i)), .int .u8 (ch.toNat : Nat)]) [] (yB7 (fnvQ (s.take i)) ch) rfl rfl (HLe.sub (lN _)) Ro.nil rfl <| sN ⟨HLe.pick [0] (by simp) rfl, ?_⟩
  refine tw_p rfl <| jA7 kV0 ?_
  refine vN <| jI7 ?_
  first | refine sS10 0 tyS25 ?_
  refine sN (hZ _ _ <| nF [(1, _), (2, _), (7, _), (8, _)] (kR rfl) ?_)
  repeat refine nBN ?_
  refine nN ?_
  refine aG (fun Z hZ => ?_)
  refine jC2 rfl rfl ((i + 1 : Nat) : Int) (by rw [lT _ (by omega)]; omega) rfl ?_
  refine sMN hZ rfl rfl <| nF [(1, _), (2, _), (7, _), (8, _)] (kR rfl) <| jB8 (i + 1) hlt (by omega) (kR rfl) (by rw [hsn]; exact HLe.refl _)
 ·refine jB1 ?_
  repeat refine nTE ?_
  refine nBE <| nN ?_
  have hke : i = s.length := by simp at h; omega
  subst hke
  rw [x6]
  refine aR (fun Z hZ => sFA0 kV0 ?_)
  first | refine sL0 0 tyA25 tyS25 ?_
  refine sAN hZ rfl rfl <| f1K 4 rfl <| aE <| nR10 rfl
theorem vM3 (s : List UInt8) (hs : s.length ≤ 9223372036854775807) : Fn Tryz.prog 148 [.string (str s)] [] fun v _ => v = uq (fnvQ s) := by
 refine Fn.enter (N := 6) Tryz.func148 rfl (by kernel_rfl) rfl (fun w0 => ?_)
 refine aA rfl rfl <| f1K 0 rfl <| aR (fun Z hZ => jD4 tyZ286 tyP286 ?_)
 refine sM rfl rfl <| sCP0 (yB8 s hs) ?_
 refine sAN hZ rfl rfl <| f1K 2 rfl <| aE <| nR10 rfl
end V
namespace V
open Go.RowKit
set_option maxRecDepth 100000
abbrev Tx := List UInt8
def ctsF : Nat → List Tx → List (Nat × Nat)
 | _, [] => []
 | o, t :: r => (o, t.length) :: ctsF (o + t.length) r
abbrev ctC (c : Nat × Nat) : List Value := [uq c.1, wq4 c.2]
abbrev ctV (c : Nat × Nat) : Value := .agg (ctC c).toArray
abbrev jL1 (L : List (Nat × Nat)) : List Value := L.flatMap ctC
theorem yI7 (c : Nat × Nat) : (ctC c).length = 2 := rfl
theorem vN2 (L : List (Nat × Nat)) : (jL1 L).length = L.length * 2 := kD6 yI7 L
theorem vN4 {L : List (Nat × Nat)} {i : Nat} {x : Nat × Nat} (h : L[i]? = some x) : rdV true 2 (jL1 L) (i * 2) = some (ctV x) := wL7 yI7 h
theorem vN3 (X Y : List (Nat × Nat)) : jL1 (X ++ Y) = jL1 X ++ jL1 Y := by simp [jL1]
theorem zE7 : ElemOk Tryz.prog 190 116 2 16 := ElemOk.mk_ (z := .agg #[uq 0, wq4 0]) Tryz.underlying190 (by kernel_rfl) rfl (by omega)
theorem yU7 : ElemOk Tryz.prog 247 3 1 8 := ElemOk.mk_ (z := iq (0 : Nat)) Tryz.underlying247 (by kernel_rfl) rfl (by omega)
theorem vU1 : ∀ (ts : List Tx) (o : Nat), (ctsF o ts).length = ts.length
 | [], _ => rfl
 | t :: r, o => by rw [ctsF, lE, vU1 r, lE]
theorem wP3 : ∀ (ts : List Tx) (o k : Nat) (t : Tx), ts[k]? = some t → (ctsF o ts)[k]? = some (o + (ts.take k).flatten.length, t.length)
 | [], _, _, _, h => by simp at h
 | x :: r, o, 0, t, h => by
  simp only [xA, x5] at h
  subst h
  simp [ctsF]
 | x :: r, o, k + 1, t, h => by
  rw [xE] at h
  rw [ctsF, xE, wP3 r _ k t h]
  simp only [lJ, z6, lX]
  rw [qI]
theorem vG4 : ∀ (ts : List Tx) (o : Nat) (s : Tx), ctsF o (ts ++ [s]) = ctsF o ts ++ [(o + ts.flatten.length, s.length)]
 | [], o, s => by simp [ctsF]
 | x :: r, o, s => by
  rw [lL, ctsF, vG4 r, ctsF, lL, z6, lX, qI]
theorem vM4 : ∀ (ts : List Tx) (k : Nat) (t : Tx), ts[k]? = some t → (ts.take k).flatten.length + t.length ≤ ts.flatten.length ∧ (ts.flatten.drop (ts.take k).flatten.length).take t.length = t
 | [], _, _, h => by simp at h
 | x :: r, 0, t, h => by
  simp only [xA, x5] at h
  subst h
  simp
 | x :: r, k + 1, t, h => by
  rw [xE] at h
  obtain ⟨h1, h2⟩ := vM4 r k t h
  simp only [lJ, z6, lX]
  refine ⟨by omega, ?_⟩
  rw [← List.drop_drop, List.drop_left]
  exact h2
def fdQ : Nat → List Tx → Tx → Option (Nat × Nat)
 | _, [], _ => none
 | o, t :: r, s => if t = s then some (o, s.length) else fdQ (o + t.length) r s
theorem jY0 : ∀ (ts : List Tx) (o : Nat) (s : Tx), fdQ o ts s = none ↔ s ∉ ts
 | [], _, _ => by simp [fdQ]
 | t :: r, o, s => by
  rw [fdQ]
  split
  ·rename_i h; simp [h]
  ·rename_i h
   rw [jY0 r]
   simp only [lY, not_or]
   exact ⟨fun x => ⟨fun e => h e.symm, x⟩, fun x => x.2⟩
theorem vF6 : ∀ (ts : List Tx) (o k : Nat) (s : Tx), ts.Nodup → ts[k]? = some s → fdQ o ts s = some (o + (ts.take k).flatten.length, s.length)
 | [], _, _, _, _, h => by simp at h
 | x :: r, o, 0, t, _, h => by
  simp only [xA, x5] at h
  subst h
  simp [fdQ]
 | x :: r, o, k + 1, t, hn, h => by
  rw [xE] at h
  have hne : x ≠ t := fun e => (List.nodup_cons.1 hn).1 (e ▸ xM h)
  rw [fdQ, if_neg hne, vF6 r _ k t (List.nodup_cons.1 hn).2 h]
  simp only [lJ, z6, lX]
  rw [qI]
structure Bk where
 key : Nat
 g : Nat
 c : Nat
 ks : List Nat
abbrev Bk.v (b : Bk) : Value := .slice (some ⟨b.g, 0, none⟩) b.ks.length b.c
abbrev iqL (l : List Nat) : List Value := l.map fun k => iq (k : Nat)
abbrev Bk.e (b : Bk) : Ent := .ob b.g (RowP 3 1 b.ks.length b.c (iqL b.ks))
abbrev bkM (B : List Bk) : List (Nat × Value) := B.map fun b => (b.key, b.v)
abbrev bkH (B : List Bk) : Heap := B.map Bk.e
def bkOf (B : List Bk) (key : Nat) : Option Bk := B.find? fun b => b.key == key
theorem yJ3 : ∀ (B : List Bk) (key : Nat), aget (bkM B) key = (bkOf B key).map Bk.v
 | [], _ => rfl
 | b :: r, key => by
  show (if b.key = key then some b.v else aget (bkM r) key) = _
  unfold bkOf
  rw [List.find?_cons]
  by_cases h : b.key = key
  ·rw [if_pos h, beq_iff_eq.2 h]; rfl
  ·rw [if_neg h, yJ3 r key, beq_eq_false_iff_ne.2 h]; rfl
structure BkOk (ts : List Tx) (B : List Bk) : Prop where
 nd : (B.map Bk.key).Nodup
 lt : ∀ b ∈ B, b.ks.length ≤ ts.length ∧ ∀ k ∈ b.ks, k < ts.length
 all : ∀ k t, ts[k]? = some t → ∃ b ∈ B, b.key = fnvQ t ∧ k ∈ b.ks
theorem vG8 : ∀ {B : List Bk} {b : Bk}, (B.map Bk.key).Nodup → b ∈ B → bkOf B b.key = some b
 | [], _, _, h => by cases h
 | x :: r, b, hn, h => by
  unfold bkOf
  rw [List.find?_cons]
  rcases List.mem_cons.1 h with rfl | h
  ·simp
  ·have : x.key ≠ b.key := fun e => (List.nodup_cons.1 hn).1 (e ▸ List.mem_map.2 ⟨b, h, rfl⟩)
   rw [beq_eq_false_iff_ne.2 this]
   exact vG8 (List.nodup_cons.1 hn).2 h
def bkK (B : List Bk) (key : Nat) : List Nat := match bkOf B key with | some b => b.ks | none => []
def bkV (B : List Bk) (key : Nat) : Value := match bkOf B key with | some b => b.v | none => .slice none 0 0
theorem yJ4 (B : List Bk) (key : Nat) : RowOk (bkV B key) (bkK B key).length := by
 unfold bkV bkK
 cases bkOf B key with
 | none => exact RowOk.nil
 | some b => exact RowOk.mk _ _ _
theorem wQ3 (B : List Bk) (key : Nat) : ((aget (bkM B) key).map fun v => v).getD (.slice none 0 0) = bkV B key := by
 rw [yJ3]
 unfold bkV
 cases bkOf B key <;> rfl
theorem wQ5 {ts : List Tx} {B : List Bk} (h : BkOk ts B) (key : Nat) : (bkK B key).length ≤ ts.length ∧ ∀ k ∈ bkK B key, k < ts.length := by
 unfold bkK
 cases hb : bkOf B key with
 | none => exact ⟨xD _, fun k hk => by cases hk⟩
 | some b => exact h.lt b (List.mem_of_find?_eq_some hb)
theorem wQ6 {ts : List Tx} {B : List Bk} (h : BkOk ts B) {k : Nat} {t : Tx} (hk : ts[k]? = some t) : k ∈ bkK B (fnvQ t) := by
 obtain ⟨b, hb, h1, h2⟩ := h.all k t hk
 unfold bkK
 rw [← h1, vG8 h.nd hb]
 exact h2
theorem zB3 {w : World} {g o n off len : Nat} {xs : List Value} (h : Rd w 1 (some ⟨g, o, none⟩) n xs) (hl : off + len ≤ n) : Rd w 1 (some ⟨g, o + off, none⟩) len ((xs.drop off).take len) := by
 obtain ⟨h1, h2, h3⟩ := h
 refine ⟨by rw [xS, xY]; omega, fun h => absurd h (by simp), fun h0 => ?_⟩
 obtain ⟨g', o', he, hlt, hc⟩ := h3 (by omega)
 injection he with he
 injection he with he1 he2 _
 subst he1; subst he2
 refine ⟨g, o + off, rfl, hlt, fun j u hu => ?_⟩
 rw [qU] at hu
 split at hu
 ·rw [zP] at hu
  rw [qI]
  exact hc _ _ hu
 ·cases hu
theorem zI9 {w : World} {gt n o o' len m : Nat} {l : Tx} (h : Rd w 1 (some ⟨gt, 0, none⟩) n (bv l)) (ho' : (o : Int) < ((o + len : Nat) : Int) → o' = 0 + (o : Int).toNat * 1) (hol : o + len ≤ n) (hl : l.length = n) (hm : m = len) : Rd w 1 (some ⟨gt, o', none⟩) m (bv ((l.drop o).take len)) := by
 subst hm
 rcases zK m with h0 | h0
 ·subst h0
  exact ⟨by simp [bv], fun h => absurd h (by simp), fun h => absurd h (by omega)⟩
 ·have := ho' (by omega)
  simp only [x9, zE] at this
  subst this
  have := zB3 h hol
  unfold bv
  rw [List.map_take, List.map_drop]
  exact this
theorem yC8 (o l : Nat) (ho : o ≤ 1000000000) (hl : l ≤ 1000000000) : Fn Tryz.prog 193 [ctV (o, l)] [] fun v _ => v = uq (o + l) := by
 refine Fn.enter (N := 9) Tryz.func193 rfl (by kernel_rfl) rfl (fun w0 => ?_)
 refine aR (fun Z hZ => jB5 (fun g1 => ?_))
 refine sAN hZ rfl rfl <| f1K 1 rfl <| aR (fun Z hZ => sFA0 kV2 ?_)
 first | refine sL0 0 tyA25 tyS25 ?_
 refine sFA0 vP0 ?_
 first | refine sL0 0 tyA78 tyS78 ?_
 refine jB7 Tryz.underlying78 Tryz.underlying25 rfl ((l : Nat) : Int) (by rw [l6 _ (by omega)]) rfl ?_
 refine jC2 rfl rfl ((o + l : Nat) : Int) (by rw [l6 _ (by omega)]; omega) rfl ?_
 refine sAN hZ rfl rfl <| f1K 2 rfl <| aE <| nR10 rfl
theorem zJ1 (gp gt n c : Nat) (pv mv : Value) (l : Tx) (o len : Nat) (hlen : l.length = n) (hnc : n ≤ c) (hn : n ≤ 1000000000) (ho : o + len ≤ n) :
  Fn Tryz.prog 149 [ptr gp 0, ctV (o, len)] [.ro gp 0 [.slice (some ⟨gt, 0, none⟩) n c, pv, mv], .ro gt 0 (bv l)] fun v _ => v = .string (str ((l.drop o).take len)) := by
 refine Fn.enter (N := 15) Tryz.func149 rfl (by kernel_rfl) rfl (fun w0 => ?_)
 refine aR (fun Z hZ => jB5 (fun g1 => ?_))
 refine sAN hZ rfl rfl <| f2K 0 3 rfl <| jC6 mixed (by kernel_rfl) (fun Z hZ => ?_)
 refine qM rfl rfl <| jA9 rfl rfl <| qFA0 kB7 ?_
 refine jG7 1 rfl rfl 0 rfl tyA44 tyS44 rfl rfl <| qFA0 kV2 ?_
 refine jB6 0 tyA25 tyS25 ?_
 refine jP6 0 rfl rfl tyA116 tyS116 rfl (by simp only [qS, Value.cells]; rfl) rfl ?_
 refine jH4 (yC8 o len (by omega) (by omega)) rfl rfl ?_
 refine vP7 (i := (o : Int)) (j := ((o + len : Nat) : Int)) Tryz.underlying44 tyS5 rfl rfl rfl (by omega) (by omega) (by omega) rfl (fun o' ho' => ?_)
 refine yN3 (l := (l.drop o).take len) Tryz.underlying44 Tryz.underlying5 Tryz.underlying9 rfl (fun w hw => zI9 (yO9 (i := 2) rfl (by rw [jH3]; omega) hw) ho' ho hlen (by simp; omega)) rfl ?_
 refine jC8 rfl rfl <| jF0 (hZ _ _ <| f1K 4 rfl <| aE <| nR10 rfl)
theorem yE0 {P : Program} {N : Frm} {w0 : World} {Wr : List Nat} {fr : Fr} {H : Heap} {Q : Exit → Act → World → Prop} {c : Code} {p : Prop} (hp : ∀ w, Sat w0 Wr H w → p) (h : p → awp P N w0 Wr c fr H Q) : awp P N w0 Wr c fr H Q :=
 fun a w ha hw => h (hp w hw) a w ha hw
theorem row_cap {w0 w : World} {Wr : List Nat} {H : Heap} {i g n c size : Nat} {e : TypeId} {xs : List Value} (hH : H[i]? = some (.ob g (RowP e size n c xs))) (hw : Sat w0 Wr H w) : n ≤ c ∧ c ≤ maxLen := by
 obtain ⟨ob, _, cur, _, h2, h3, _⟩ := hw.mem hH
 exact ⟨h2, h3⟩
abbrev bkE (gm : Nat) (B : List Bk) : Ent := mapE (fun k : Nat => uq k) (fun v : Value => v) gm (bkM B)
def fdV : Option (Nat × Nat) → Value
 | some c => .tuple #[ctV c, .bool true]
 | none => .tuple #[ctV (0, 0), .bool false]
theorem wA2 (w : World) : (zeroValue 247).run Tryz.prog w = .ok (.slice none 0 0) w := by kernel_rfl
theorem zE0 {l : List Nat} {i k : Nat} (h : l[i]? = some k) : rdV false 1 (iqL l) (i * 1) = some (iq (k : Nat)) := by
 rw [zE]
 unfold rdV
 simp [h]
theorem yU1 (gp gm : Nat) (ts : List Tx) (B : List Bk) (tv pv : Value) (s : Tx) (hok : BkOk ts B) (hn : ts.Nodup) (hne : ∀ t ∈ ts, t ≠ []) (htv : RowOk tv ts.flatten.length) (hpv : RowOk pv ts.length)
  (hfl : ts.flatten.length ≤ 1000000000) (hts : ts.length ≤ 1000000) (hs : s.length ≤ 9223372036854775807) :
  Fn Tryz.prog 99 [ptr gp 0, .string (str s)] (.own gp 193 [tv, pv, .map (some gm)] :: bkE gm B :: (rowE tv 5 1 (bv ts.flatten) ++ (rowE pv 116 2 (jL1 (ctsF 0 ts)) ++ rowE (bkV B (fnvQ s)) 3 1 (iqL (bkK B (fnvQ s))))))
   fun v H' => v = fdV (fdQ 0 ts s) ∧ H' = .own gp 193 [tv, pv, .map (some gm)] :: bkE gm B :: (rowE tv 5 1 (bv ts.flatten) ++ (rowE pv 116 2 (jL1 (ctsF 0 ts)) ++ rowE (bkV B (fnvQ s)) 3 1 (iqL (bkK B (fnvQ s))))) := by
 have hget := wQ3 B (fnvQ s)
 have hbo := yJ4 B (fnvQ s)
 obtain ⟨hkl, hkt⟩ := wQ5 hok (fnvQ s)
 have hall := fun k => wQ6 (k := k) (t := s) hok
 have hfs := vM3 s hs
 obtain ⟨q, hq⟩ := xZ9 (fnvQ s)
 rw [hq] at hget hbo hkl hkt hall hfs ⊢
 obtain ⟨ks, hks⟩ := xZ9 (bkK B q)
 obtain ⟨vb, hvb⟩ : ∃ v, bkV B q = v := ⟨_, rfl⟩
 rw [hks] at hbo hkl hkt hall
 rw [hvb] at hget hbo
 rw [hks, hvb]
 clear hvb
 obtain ⟨Ab, cb, rfl, hAb⟩ := hbo.form
 refine Fn.enter (N := 39) Tryz.func99 rfl (by kernel_rfl) rfl (fun w0 => ?_)
 refine aR (fun Z hZ => sAl tyZ116 rfl (fun g1 => sAN hZ rfl rfl <| f3K 0 1 4 rfl <| aS <| aR fun Z hZ => sM rfl rfl <| kC0 Tryz.underlying110 rfl rfl <| sN (hZ _ _ <| f4K 0 1 4 10 rfl <| aC0 (fun h => ?_) (fun h => ?_))))
 ·cases h
 refine aK <| nN <| aS <| jD3 _ [(0, true), (1, true), (2, true), (3, true), (4, true), (5, false), (6, true), (7, true), (8, true)] mixed (by kernel_rfl) (HLe.pick [1, 2] (by simp) (by simp only [pick, l7, qS]; rfl)) (fun Z hZ => ?_)
 refine tw_p rfl <| jA8 ?_
 refine vN <| tw_p rfl <| jE0 rfl rfl <| vN <| tw_p rfl <| jA7 jW9 ?_
 refine vN <| tw_p rfl <| jE6 0 rfl rfl tyA191 tyS191 rfl rfl <| vN <| tw_p rfl <| jA8 ?_
 refine vN <| tw_g rfl <| sCP0 hfs ?_
 refine sN ⟨HLe.pick [1, 2] (by simp) rfl, ?_⟩
 refine tw_p rfl <| jV1 1 keyU Tryz.underlying191 wA2 q _ rfl rfl rfl hget rfl <| vN <| tw_p rfl <| vC4 Tryz.underlying247 rfl rfl <| vN <| tw_p rfl <| jA8 ?_
 refine vN <| jI7 (hZ _ _ <| f6K 0 1 4 18 19 20 rfl ?_)
 have hnf : ∀ k, k ∈ ks → ∀ t, ts[k]? = some t → t = s → fdQ 0 ts s = some ((ts.take k).flatten.length, s.length) := fun k _ t ht he => by
  subst he
  rw [vF6 ts 0 k t hn ht, lA]
 refine aB ?_
 refine jB9 (ι := Nat) (fun i => [(0, ptr gp 0), (1, .string (str s)), (4, ptr g1 0), (18, .slice Ab ks.length cb), (19, iq (ks.length : Nat)), (20, iq (i : Nat))])
  (fun _ => .own g1 116 [uq 0, wq4 0] :: .own gp 193 [tv, pv, .map (some gm)] :: bkE gm B :: (rowE tv 5 1 (bv ts.flatten) ++ (rowE pv 116 2 (jL1 (ctsF 0 ts)) ++ rowE (.slice Ab ks.length cb) 3 1 (iqL ks))))
  (fun i => i ≤ ks.length ∧ ∀ j k t, j < i → ks[j]? = some k → ts[k]? = some t → t ≠ s) (fun i => ks.length - i) 0 ⟨by simp, fun j k t hj => by omega⟩ (kR rfl) (HLe.refl _) ?_
 rintro i ⟨hi, hbef⟩
 refine aR (fun Z hZ => jB2 ?_)
 refine sN (hZ _ _ <| f7K 0 1 4 18 19 20 21 rfl <| aS (aC0 (fun h1 => ?_) (fun h1 => ?_)))
 ·have hlt : i < ks.length := by simpa using h1
  obtain ⟨k, hk⟩ : ∃ k, ks[i]? = some k := ⟨_, xC hlt⟩
  have hkm := xM hk
  have hkts := hkt k hkm
  obtain ⟨t, ht⟩ : ∃ t, ts[k]? = some t := ⟨_, xC hkts⟩
  obtain ⟨hf1, hf2⟩ := vM4 ts k t ht
  have htp : 0 < t.length := List.length_pos_iff.2 (hne t (xM ht))
  have hct := wP3 ts 0 k t ht
  rw [lA] at hct
  obtain ⟨o, ho⟩ := xZ9 ((ts.take k).flatten.length)
  have hnf1 := hnf k hkm t ht
  rw [ho] at hf1 hf2 hct hnf1
  obtain ⟨gt, ct, rfl⟩ := htv.some (by omega)
  obtain ⟨gl, cl, rfl⟩ := hpv.some (by omega)
  obtain ⟨gb, cb', heb⟩ := hbo.some (by omega)
  injection heb with he1 _ he2
  subst he1; subst he2
  refine jA6 [.own g1 116 [uq 0, wq4 0], .own gp 193 [.slice (some ⟨gt, 0, none⟩) ts.flatten.length ct, .slice (some ⟨gl, 0, none⟩) ts.length cl, .map (some gm)], bkE gm B, .ob gt (RowP 5 1 ts.flatten.length ct (bv ts.flatten)), .ob gl (RowP 116 2 ts.length cl (jL1 (ctsF 0 ts))), .ob gb (RowP 3 1 ks.length cb (iqL ks))] (HLe.refl _) <| yE0 (fun w hw => row_cap (i := 3) rfl hw) (fun hcap => ?_)
  have hat := zJ1 gp gt ts.flatten.length ct (.slice (some ⟨gl, 0, none⟩) ts.length cl) (.map (some gm)) ts.flatten o t.length rfl hcap.1 hfl hf1
  rw [hf2] at hat
  refine aK <| nN <| aS (aB <| aR (fun Z hZ => jB3 (0 + i * 1) Tryz.underlying247 tyS3 rfl rfl (by omega) (by simp) rfl ?_))
  refine jS0 (i * 1) rfl rfl (fun w hw => jV4 (i := 5) rfl hw) (by omega) tyA3 tyS3 (zE0 hk) rfl ?_
  refine sAN hZ rfl rfl <| f7K 0 1 4 7 18 19 20 rfl <| aR fun Z hZ => sM rfl rfl <| jA0 ?_
  refine sFA0 kB6 ?_
  refine sL0 1 tyA190 tyS190 ?_
  refine sM rfl rfl <| jB3 (0 + k * 2) Tryz.underlying190 tyS116 rfl rfl (by omega) (by simp) rfl ?_
  refine jS0 (k * 2) rfl rfl (fun w hw => jV4 (i := 4) rfl hw) (by omega) tyA116 tyS116 (vN4 hct) rfl ?_
  refine sAl tyZ116 rfl (fun g2 => sS0 0 tyS116 ?_)
  refine sN (hZ _ _ <| f7K 0 1 4 8 18 19 20 rfl <| aR fun Z hZ => sM rfl rfl <| sLA0 0 tyA116 tyS116 ?_)
  refine jO2 [.ro gp 0 _, .ro gt 0 _] hat rfl ((HLe.toRo [] [_]).trans ((HLe.rowRo [_] []).trans (HLe.pick [2, 4] (by simp) rfl))) (by intro x hx; simp at hx; rcases hx with rfl | rfl <;> rfl) rfl ?_
  refine sM rfl rfl <| jU4 rfl rfl rfl <| sN (hZ _ _ <| f8K 0 1 4 8 18 19 20 35 rfl <| aC0 (fun h2 => ?_) (fun h2 => ?_))
  ·have h2' : t = s := by simpa using h2
   rw [hnf1 h2', ← h2']
   refine aR (fun Z hZ => sLA0 0 tyA116 tyS116 ?_)
   refine sS0 1 tyS116 ?_
   refine sAN hZ rfl rfl <| f2K 4 5 rfl <| aE ?_
   repeat (with_reducible (first | refine nTR ?_ | refine nBR ?_))
   exact jD9 _ rfl (ResOk.cell 1 rfl rfl tyA116 tyS116 rfl) rfl (HLe.drop 2 rfl) ⟨rfl, rfl⟩
  have h2' : ¬ t = s := by simpa using h2
  refine aK ?_
  repeat refine nBN ?_
  refine nN ?_
  refine aG (fun Z hZ => ?_)
  refine jC2 rfl rfl ((i + 1 : Nat) : Int) (by rw [lT _ (by omega)]; omega) rfl ?_
  refine sMN hZ rfl rfl <| nF [(0, _), (1, _), (4, _), (18, _), (19, _), (20, _)] (kR rfl) <| jB8 (i + 1) ⟨hlt, fun j k' t' hj hk' ht' => ?_⟩ (by omega) (kR rfl) (HLe.drop 1 rfl)
  rcases xP j i with h5 | h5
  ·exact hbef j k' t' h5 hk' ht'
  ·obtain rfl : j = i := by omega
   rw [hk] at hk'
   injection hk' with hk'
   subst hk'
   rw [ht] at ht'
   injection ht' with ht'
   subst ht'
   exact h2'
 ·refine jB1 ?_
  repeat refine nTE ?_
  refine nBE <| nN ?_
  have hke : i = ks.length := by simp at h1; omega
  subst hke
  have hno : fdQ 0 ts s = none := by
   rw [jY0]
   intro hm
   obtain ⟨k, hkl', hks'⟩ := List.getElem_of_mem hm
   have hk1 : ts[k]? = some s := by rw [xC hkl', hks']
   have := hall k hk1
   obtain ⟨j, hj, hj'⟩ := List.getElem_of_mem this
   exact hbef j k s hj (by rw [xC hj, hj']) hk1 rfl
  rw [hno]
  refine aR (fun Z hZ => jD4 tyZ116 tyP116 ?_)
  refine sS0 0 tyS116 ?_
  refine sAN hZ rfl rfl <| f2K 4 5 rfl <| aE <| jD9 _ rfl (ResOk.cell 0 rfl rfl tyA116 tyS116 rfl) rfl (HLe.drop 1 rfl) ⟨rfl, rfl⟩
end V
section
open Go.RowKit
def yO1 : Go.Shelf.Ren := ⟨fun n => match n with | 25 => 150 | _ => 0, fun n => match n with | 0 => 0 | 3 => 3 | 4 => 4 | 5 => 5 | 9 => 9 | 37 => 44 | 47 => 254 | _ => 0, fun n => match n with | _ => 0⟩
theorem scl0 : LaysPu.n25 Tryz.prog yO1 where
 mixed := by kernel_rfl
 f25 := by kernel_rfl
 t0 := by kernel_rfl
 a0 := fun w => by kernel_rfl
 z0 := fun w => by kernel_rfl
 v0 := fun w => by kernel_rfl
 i0 := by kernel_rfl
 t3 := by kernel_rfl
 a3 := fun w => by kernel_rfl
 z3 := fun w => by kernel_rfl
 v3 := fun w => by kernel_rfl
 i3 := by kernel_rfl
 t4 := by kernel_rfl
 a4 := fun w => by kernel_rfl
 z4 := fun w => by kernel_rfl
 v4 := fun w => by kernel_rfl
 i4 := by kernel_rfl
 t5 := by kernel_rfl
 a5 := fun w => by kernel_rfl
 z5 := fun w => by kernel_rfl
 v5 := fun w => by kernel_rfl
 i5 := by kernel_rfl
 t9 := by kernel_rfl
 a9 := fun w => by kernel_rfl
 z9 := fun w => by kernel_rfl
 v9 := fun w => by kernel_rfl
 i9 := by kernel_rfl
 t37 := by kernel_rfl
 a37 := fun w => by kernel_rfl
 z37 := fun w => by kernel_rfl
 v37 := fun w => by kernel_rfl
 i37 := by kernel_rfl
 t47 := by kernel_rfl
 a47 := fun w => by kernel_rfl
 z47 := fun w => by kernel_rfl
 v47 := fun w => by kernel_rfl
 i47 := by kernel_rfl
theorem wN1 : Enters Tryz.prog 150 := Enters.mk Tryz.func150 (by kernel_rfl) (by kernel_rfl)
theorem zB1 (s : List UInt8) (h : s.length ≤ 281474976710656) : Fn Tryz.prog 150 [.string (str s)] [] fun v _ => v = .string (str s) :=
 Fn.of_bel wN1 fun w => (AnyPu.stringslite_Clone scl0 (str s) w (by rw [str_size]; exact h)).mono fun e w' ⟨he, a, b, c, d, f⟩ => ⟨he, a, b, c, d, f⟩
theorem kL0 (s : List UInt8) (h : s.length ≤ 281474976710656) : Fn Tryz.prog 101 [.string (str s)] [] fun v _ => v = .string (str s) := by
 refine Fn.enter (N := 5) Tryz.func101 rfl (by kernel_rfl) rfl (fun w0 => ?_)
 refine aA rfl rfl <| f1K 0 rfl <| aR fun Z hZ => sM rfl rfl <| sCP0 (zB1 s h) ?_
 refine sAN hZ rfl rfl <| f1K 2 rfl <| aE ?_
 repeat (with_reducible (first | refine nTR ?_ | refine nBR ?_ | refine jF5 ?_))
 exact nR10 rfl
end
namespace V
open Go.RowKit
set_option maxRecDepth 100000
section
variable {P : Program} {N : Frm} {w0 : World} {Wr : List Nat} {ops : Array Oper} {rest : List Oper} {fr : Fr} {H : Heap} {Z : Fr → Heap → Prop} {d ty : Nat} {pos : String} {after : Array Edge}
theorem vC0 {f : FuncId} {xs : List Operand} {vs : List Value} (hx : evs fr xs = some vs) (hN : Nat.ble (d + 1) N.n = true)
  (h : sx P N w0 Wr ops rest ((d, .func (.func f) vs.toArray #[]) :: fr) H Z) : sx P N w0 Wr ops (⟨some d, .makeFunc (.func f) xs.toArray #[], ty, pos, after, none⟩ :: rest) fr H Z :=
 jE9 _ hN (fun a w ha hw => by
  have := ha.evals hx
  subst this
  simp [execOp, Instr.makeFunc, l9]) h
theorem vW8 {f : FuncId} {bs : List Value} {vs : List Value} (hE : Enters P f) {x : Operand} {xs : List Operand} {ts : Array TypeId} {ρ : Operand → Value} (hx : xs.map ρ = vs) (hf : ρ x = .func (.func f) bs.toArray #[]) {dst : Option Nat} {w : World} :
  (execOp ρ ⟨dst, .call { callee := .value x, args := xs.toArray, argTypes := ts }, ty, pos, after, none⟩).run P w = .ok (.enter f (bs ++ vs).toArray) w := by
 obtain ⟨fn, h1, h2, h3⟩ := hE
 subst hx
 have h2' : ¬ (fn.name = "runtime.NumGoroutine") := by simpa using h2
 have h3' : ¬ (fn.body = none) := by intro e; rw [e] at h3; cases h3
 simp [execOp, resolve, hf, Deferred.ofValue, invoke, callFunc, h1, h2', h3', program, lI, l9, Sem.run]
theorem wC8 {f : FuncId} {bs : List Value} {x : Operand} {xs : List Operand} {vs : List Value} {ts : Array TypeId} {dst : Option Nat} {Hc : Heap} {R : Value → Heap → Prop} (K : Heap) (hc : Fn P f (bs ++ vs) Hc R) (hf : ev fr x = some (.func (.func f) bs.toArray #[])) (hx : evs fr xs = some vs) (hH : HLe (Hc ++ K) H) (hN : dstB N dst = true)
  (h : ∀ v H', R v H' → sx P N w0 Wr ops rest (match dst with | some d => (d, v) :: fr | none => fr) (H'.filter Ent.wr ++ K) Z) :
  sx P N w0 Wr ops (⟨dst, .call { callee := .value x, args := xs.toArray, argTypes := ts }, ty, pos, after, none⟩ :: rest) fr H Z :=
 vW0 rfl fun a w K' Q ha hw hK => by
  unfold Oper.wp
  rw [vW8 hc.1 (ha.evals hx) (ha.eval hf)]
  have hw' := hH _ _ _ hw
  have hpre : Sat w (wrs Hc) Hc w := ⟨Only.refl _ _, fun e he => ⟨(hw'.ents e (xI _ he)).1, fun h => .inl (mem_wrs.2 ⟨e, he, h, rfl⟩)⟩, (List.pairwise_append.1 hw'.sep).1⟩
  refine (hc.2 w hpre).mono fun e w' he => ?_
  obtain ⟨v, H', rfl, hR, hS⟩ := he
  have hS' := Sat.callA (U := []) hw' Ro.nil (by rw [lH]; exact hS)
  cases dst with
  | none => exact hK v w' fr _ (h v H' hR) (ha.skip _) hS'
  | some d => exact hK v w' _ _ (h v H' hR) (ha.put hN v) hS'
end
theorem Fn.frame {P : Program} {f : FuncId} {vs : List Value} {x : Value} {Hc K H : Heap} (hc : Fn P f vs Hc fun v H' => v = x ∧ H' = Hc) (hw : Wrs Hc) (hp : H.Perm (Hc ++ K)) : Fn P f vs H fun v H' => v = x ∧ H' = H :=
 ⟨hc.1, fun w hS => by
  have hS2 : Sat w (wrs H) (Hc ++ K) w := hS.perm hp
  have hpre : Sat w (wrs Hc) Hc w := ⟨Only.refl _ _, fun e he => ⟨(hS2.ents e (xI _ he)).1, fun h => .inl (mem_wrs.2 ⟨e, he, h, rfl⟩)⟩, (List.pairwise_append.1 hS2.sep).1⟩
  refine (hc.2 w hpre).mono fun e w' he => ?_
  obtain ⟨v, H', h1, ⟨h2, h3⟩, h4⟩ := he
  subst h3
  have h5 := Sat.callA (U := []) hS2 Ro.nil (by rw [lH]; exact h4)
  rw [hw.filter] at h5
  exact ⟨v, H, h1, ⟨h2, rfl⟩, h5.perm hp.symm⟩⟩
def vG9 : List Bk → Nat → List Bk
 | [], _ => []
 | b :: r, q => if b.key = q then r else b :: vG9 r q
def jP8 : List Bk → Bk → List Bk
 | [], x => [x]
 | b :: r, x => if b.key = x.key then x :: r else b :: jP8 r x
theorem wQ4 : ∀ (B : List Bk) (x : Bk), bkM (jP8 B x) = aput (bkM B) x.key x.v
 | [], _ => rfl
 | b :: r, x => by
  show bkM (if b.key = x.key then x :: r else b :: jP8 r x) = if b.key = x.key then (x.key, x.v) :: bkM r else (b.key, b.v) :: aput (bkM r) x.key x.v
  split
  ·rfl
  ·rw [← wQ4 r x]; rfl
theorem wQ7 : ∀ (B : List Bk) (x : Bk), (bkH (jP8 B x)).Perm (bkH (vG9 B x.key) ++ [x.e])
 | [], x => List.Perm.refl _
 | b :: r, x => by
  unfold jP8 vG9
  split
  ·exact (List.perm_append_singleton x.e (bkH r)).symm
  ·exact z8 _ (wQ7 r x)
theorem vN8 : ∀ (B : List Bk) (q : Nat), (bkH B).Perm (bkH (vG9 B q) ++ rowE (bkV B q) 3 1 (iqL (bkK B q)))
 | [], q => List.Perm.refl _
 | b :: r, q => by
  by_cases h : b.key = q
  ·have hf : bkOf (b :: r) q = some b := by unfold bkOf; rw [List.find?_cons, beq_iff_eq.2 h]
   have h1 : bkV (b :: r) q = b.v := by unfold bkV; rw [hf]
   have h2 : bkK (b :: r) q = b.ks := by unfold bkK; rw [hf]
   rw [h1, h2, vG9, if_pos h]
   exact (List.perm_append_singleton b.e (bkH r)).symm
  ·have hf : bkOf (b :: r) q = bkOf r q := by unfold bkOf; rw [List.find?_cons, beq_eq_false_iff_ne.2 h]
   have h1 : bkV (b :: r) q = bkV r q := by unfold bkV; rw [hf]
   have h2 : bkK (b :: r) q = bkK r q := by unfold bkK; rw [hf]
   rw [h1, h2, vG9, if_neg h]
   exact z8 _ (vN8 r q)
theorem kS7 : ∀ (B : List Bk) (x : Bk), (∀ k, k ∈ (jP8 B x).map Bk.key ↔ k = x.key ∨ k ∈ B.map Bk.key) ∧ ((B.map Bk.key).Nodup → ((jP8 B x).map Bk.key).Nodup) ∧ (∀ b ∈ jP8 B x, b = x ∨ b ∈ B) ∧ (∀ b ∈ B, b.key ≠ x.key → b ∈ jP8 B x) ∧ x ∈ jP8 B x
 | [], x => by simp [jP8]
 | b :: r, x => by
  obtain ⟨h1, h2, h3, h4, h5⟩ := kS7 r x
  unfold jP8
  split
  ·rename_i h
   refine ⟨fun k => by simp [h], fun hn => by simpa [h] using hn, fun y hy => ?_, fun y hy hk => ?_, lO⟩
   ·rcases List.mem_cons.1 hy with rfl | hy
    ·exact .inl rfl
    ·exact .inr (lW _ hy)
   ·rcases List.mem_cons.1 hy with rfl | hy
    ·exact absurd h hk
    ·exact lW _ hy
  ·rename_i h
   refine ⟨fun k => ?_, fun hn => ?_, fun y hy => ?_, fun y hy hk => ?_, lW _ h5⟩
   ·rw [xN, lY, h1, xN, lY]
    constructor
    ·rintro (h | h | h)
     ·exact .inr (.inl h)
     ·exact .inl h
     ·exact .inr (.inr h)
    ·rintro (h | h | h)
     ·exact .inr (.inl h)
     ·exact .inl h
     ·exact .inr (.inr h)
   ·rw [xN, zC] at hn ⊢
    refine ⟨fun hm => ?_, h2 hn.2⟩
    rcases (h1 _).1 hm with hm | hm
    ·exact h hm
    ·exact hn.1 hm
   ·rcases List.mem_cons.1 hy with rfl | hy
    ·exact .inr lO
    ·exact (h3 y hy).imp id (lW _)
   ·rcases List.mem_cons.1 hy with rfl | hy
    ·exact lO
    ·exact lW _ (h4 y hy hk)
theorem BkOk.put {ts : List Tx} {B : List Bk} (h : BkOk ts B) (s : Tx) (g c : Nat) : BkOk (ts ++ [s]) (jP8 B ⟨fnvQ s, g, c, bkK B (fnvQ s) ++ [ts.length]⟩) := by
 obtain ⟨h1, h2, h3, h4, h5⟩ := kS7 B ⟨fnvQ s, g, c, bkK B (fnvQ s) ++ [ts.length]⟩
 obtain ⟨k1, k2⟩ := wQ5 h (fnvQ s)
 refine ⟨h2 h.nd, fun b hb => ?_, fun k t ht => ?_⟩
 ·rw [lX, zD]
  rcases h3 b hb with rfl | hb
  ·refine ⟨by simp only [lX, zD]; omega, fun k hk => ?_⟩
   rcases List.mem_append.1 hk with hk | hk
   ·have := k2 k hk; omega
   ·have := List.mem_singleton.1 hk; omega
  ·obtain ⟨b1, b2⟩ := h.lt b hb
   exact ⟨by omega, fun k hk => by have := b2 k hk; omega⟩
 ·by_cases hk : k < ts.length
  ·rw [qK hk] at ht
   by_cases hq : fnvQ t = fnvQ s
   ·exact ⟨_, h5, hq.symm, xI _ (hq ▸ wQ6 h ht)⟩
   ·obtain ⟨b, hb, b1, b2⟩ := h.all k t ht
    exact ⟨b, h4 b hb (by rw [b1]; exact hq), b1, b2⟩
  ·rw [qQ (by omega)] at ht
   have hlt := (List.getElem?_eq_some_iff.1 ht).1
   simp only [zD] at hlt
   have hk0 : k - ts.length = 0 := by omega
   rw [hk0] at ht
   injection ht with ht
   subst ht
   exact ⟨_, h5, rfl, x0 _ (List.mem_singleton.2 (by omega))⟩
abbrev nilS : Value := .slice none 0 0
abbrev plK (gm : Nat) (ts : List Tx) (B : List Bk) (tv pv : Value) : Heap := bkE gm B :: (rowE tv 5 1 (bv ts.flatten) ++ (rowE pv 116 2 (jL1 (ctsF 0 ts)) ++ bkH B))
def PlOk (gm : Nat) (ts : List Tx) (B : List Bk) (tv pv : Value) : Prop := BkOk ts B ∧ RowOk tv ts.flatten.length ∧ RowOk pv ts.length
def PoolIs (gp : Nat) (ts : List Tx) (H : Heap) : Prop :=
 (ts = [] ∧ H = [.own gp 193 [nilS, nilS, .map none]]) ∨ ∃ gm B tv pv, PlOk gm ts B tv pv ∧ H = .own gp 193 [tv, pv, .map (some gm)] :: plK gm ts B tv pv
theorem yX1 (B : List Bk) : Wrs (bkH B) := fun e he => by
 obtain ⟨b, _, rfl⟩ := List.mem_map.1 he
 rfl
theorem yP8 (gm : Nat) (ts : List Tx) (B : List Bk) (tv pv : Value) : Wrs (plK gm ts B tv pv) := Wrs.cons rfl ((jI9 _ _ _ _).append ((jI9 _ _ _ _).append (yX1 B)))
theorem PoolIs.wrs {gp : Nat} {ts : List Tx} {H : Heap} (h : PoolIs gp ts H) : Wrs H := by
 rcases h with ⟨_, rfl⟩ | ⟨gm, B, tv, pv, _, rfl⟩
 ·exact Wrs.cons rfl Wrs.nil
 ·exact Wrs.cons rfl (yP8 _ _ _ _ _)
theorem yC1 (gp : Nat) (s : Tx) (hs : s.length ≤ 9223372036854775807) :
  Fn Tryz.prog 99 [ptr gp 0, .string (str s)] [.own gp 193 [nilS, nilS, .map none]] fun v H' => v = fdV none ∧ H' = [.own gp 193 [nilS, nilS, .map none]] := by
 have hfs := vM3 s hs
 refine Fn.enter (N := 39) Tryz.func99 rfl (by kernel_rfl) rfl (fun w0 => ?_)
 refine aR (fun Z hZ => sAl tyZ116 rfl (fun g1 => sAN hZ rfl rfl <| f3K 0 1 4 rfl <| aS <| aR fun Z hZ => sM rfl rfl <| kC0 Tryz.underlying110 rfl rfl <| sN (hZ _ _ <| f4K 0 1 4 10 rfl <| aC0 (fun h => ?_) (fun h => ?_))))
 ·cases h
 refine aK <| nN <| aS <| jD3 _ [(0, true), (1, true), (2, true), (3, true), (4, true), (5, false), (6, true), (7, true), (8, true)] mixed (by kernel_rfl) (HLe.pick [1] (by simp) (by simp only [pick, l7, qS]; rfl)) (fun Z hZ => ?_)
 refine tw_p rfl <| jA8 ?_
 refine vN <| tw_p rfl <| jE0 rfl rfl <| vN <| tw_p rfl <| jA7 jW9 ?_
 refine vN <| tw_p rfl ?_
 first | refine jE6 0 rfl rfl tyA191 tyS191 rfl rfl ?_
 refine vN <| tw_p rfl <| jA8 ?_
 refine vN <| tw_g rfl <| sCP0 hfs ?_
 refine sN ⟨HLe.pick [1] (by simp) rfl, ?_⟩
 refine tw_p rfl <| vC3 keyU Tryz.underlying191 wA2 (fnvQ s) _ rfl rfl rfl rfl <| vN <| tw_p rfl <| vC4 Tryz.underlying247 rfl rfl <| vN <| tw_p rfl <| jA8 ?_
 refine vN <| jI7 (hZ _ _ <| f6K 0 1 4 18 19 20 rfl <| aB ?_)
 refine jB9 (ι := Unit) (fun _ => [(0, ptr gp 0), (1, .string (str s)), (4, ptr g1 0), (18, nilS), (19, iq (0 : Nat)), (20, iq (0 : Nat))])
  (fun _ => [.own g1 116 [uq 0, wq4 0], .own gp 193 [nilS, nilS, .map none]]) (fun _ => True) (fun _ => 0) () trivial (kR rfl) (HLe.refl _) ?_
 rintro ⟨⟩ -
 refine aR (fun Z hZ => jB2 ?_)
 refine sN (hZ _ _ <| f7K 0 1 4 18 19 20 21 rfl <| aS (aC0 (fun h1 => ?_) (fun h1 => ?_)))
 ·simp at h1
 ·refine jB1 ?_
  repeat refine nTE ?_
  refine nBE <| nN <| aR (fun Z hZ => jD4 tyZ116 tyP116 ?_)
  refine sS0 0 tyS116 ?_
  refine sAN hZ rfl rfl <| f2K 4 5 rfl <| aE <| jD9 _ rfl (ResOk.cell 0 rfl rfl tyA116 tyS116 rfl) rfl (HLe.drop 1 rfl) ⟨rfl, rfl⟩
theorem yU0 {gp : Nat} {ts : List Tx} {H : Heap} (h : PoolIs gp ts H) (s : Tx) (hn : ts.Nodup) (hne : ∀ t ∈ ts, t ≠ []) (hfl : ts.flatten.length ≤ 1000000000) (hts : ts.length ≤ 1000000) (hs : s.length ≤ 9223372036854775807) :
  Fn Tryz.prog 99 [ptr gp 0, .string (str s)] H fun v H' => v = fdV (fdQ 0 ts s) ∧ H' = H := by
 rcases h with ⟨rfl, rfl⟩ | ⟨gm, B, tv, pv, ⟨h1, h2, h3⟩, rfl⟩
 ·exact yC1 gp s hs
 ·refine Fn.frame (K := bkH (vG9 B (fnvQ s))) (yU1 gp gm ts B tv pv s h1 hn hne h2 h3 hfl hts hs) (Wrs.cons rfl (Wrs.cons rfl ((jI9 _ _ _ _).append ((jI9 _ _ _ _).append (jI9 _ _ _ _))))) <| z8 _ (z8 _ (?_ : List.Perm (_ ++ (_ ++ _)) ((_ ++ (_ ++ _)) ++ _)))
  rw [xF, xF]
  refine qP _ (qP _ <| (vN8 B (fnvQ s)).trans qX)
theorem HLe.perm {A B : Heap} (h : B.Perm A) : HLe A B := fun _ _ _ hw => hw.perm h
theorem yS2 {X T P B D R : Heap} (h : B.Perm (D ++ R)) : HLe ((X ++ (T ++ (P ++ D))) ++ R) (X ++ (T ++ (P ++ B))) := HLe.perm (by
 simp only [xF]
 exact qP X (qP T (qP P h)))
theorem yA1 {X T P B D R : Heap} (h : B.Perm (D ++ R)) : HLe (X ++ (T ++ (P ++ B))) ((X ++ (T ++ (P ++ D))) ++ R) := HLe.perm (by
 simp only [xF]
 exact qP X (qP T (qP P h.symm)))
theorem zD5 {X T P B : Heap} : HLe ((X ++ (T ++ B)) ++ P) (X ++ (T ++ (P ++ B))) := HLe.perm (by
 simp only [xF]
 exact qP X (qP T qX))
theorem yS1 {X T P B : Heap} : HLe (X ++ (T ++ (P ++ B))) ((X ++ (T ++ B)) ++ P) := HLe.perm (by
 simp only [xF]
 exact qP X (qP T qX))
theorem wJ7 {X T B : Heap} : HLe ((X ++ B) ++ T) (X ++ (T ++ B)) := HLe.perm (by
 simp only [xF]
 exact qP X qX)
theorem vL8 {X T B : Heap} : HLe (X ++ (T ++ B)) ((X ++ B) ++ T) := HLe.perm (by
 simp only [xF]
 exact qP X qX)
theorem wG6 {gp : Nat} {ts : List Tx} {H : Heap} (h : PoolIs gp ts H) (s : Tx) (hfl : ts.flatten.length + s.length ≤ 1000000000) (hts : ts.length ≤ 1000000) (hs : s.length ≤ 65536) :
  Fn Tryz.prog 100 [ptr gp 0, .string (str s)] H fun v H' => v = ctV (ts.flatten.length, s.length) ∧ PoolIs gp (ts ++ [s]) H' := by
 have hfs := vM3 s (by omega)
 obtain ⟨q, hq⟩ := xZ9 (fnvQ s)
 rw [hq] at hfs
 obtain ⟨tv, pv, m, K, hH, htv, hpv, hm⟩ : ∃ tv pv m K, H = .own gp 193 [tv, pv, .map m] :: K ∧ RowOk tv ts.flatten.length ∧ RowOk pv ts.length ∧ ((m = none ∧ ts = [] ∧ tv = nilS ∧ pv = nilS ∧ K = []) ∨ ∃ gm B, m = some gm ∧ BkOk ts B ∧ K = plK gm ts B tv pv) := by
  rcases h with ⟨rfl, rfl⟩ | ⟨gm, B, tv, pv, ⟨h1, h2, h3⟩, rfl⟩
  ·exact ⟨nilS, nilS, none, [], rfl, RowOk.nil, RowOk.nil, .inl ⟨rfl, rfl, rfl, rfl, rfl⟩⟩
  ·exact ⟨tv, pv, some gm, _, rfl, h2, h3, .inr ⟨gm, B, rfl, h1, rfl⟩⟩
 subst hH
 obtain ⟨At, ct, rfl, hAt⟩ := htv.form
 obtain ⟨n, hn⟩ := xZ9 (ts.flatten.length)
 have hn' : n ≤ 1000000000 := by omega
 refine Fn.enter (N := 66) Tryz.func100 rfl (by kernel_rfl) rfl (fun w0 => ?_)
 refine aR (fun Z hZ => sAl tyZ116 rfl (fun g1 => sN (hZ _ _ <| f3K 0 1 4 rfl ?_)))
 rw [hn] at htv hfl ⊢
 refine aR fun Z hZ => sM rfl rfl <| jA0 ?_
 refine sFA0 kB7 ?_
 refine sL0 1 tyA44 tyS44 ?_
 refine jE2 Tryz.underlying44 rfl rfl <| jB7 Tryz.underlying3 Tryz.underlying25 rfl ((n : Nat) : Int) (by rw [l6 _ (by omega)]) rfl ?_
 refine sM rfl rfl <| jD6 Tryz.underlying9 rfl rfl <| jB7 Tryz.underlying3 Tryz.underlying78 rfl ((s.length : Nat) : Int) (by rw [IntWalk.u32_in _ (by omega)]) rfl ?_
 refine jD4 tyZ116 tyP116 ?_
 refine sAl tyZ116 rfl (fun g2 => sS0 0 tyS116 ?_)
 refine sN (hZ _ _ <| f4K 0 1 4 5 rfl <| jJ7 (ι := Nat × List Bk) (fun _ => [(0, ptr gp 0), (1, .string (str s)), (4, ptr g1 0), (5, ptr g2 0)]) (fun x => .own g2 116 [uq n, wq4 s.length] :: .own g1 116 [uq 0, wq4 0] :: .own gp 193 [.slice At n ct, pv, .map (some x.1)] :: plK x.1 ts x.2 (.slice At n ct) pv) (fun x => BkOk ts x.2) ?_ ?_)
 ·skip
  refine aR fun Z hZ => sM rfl rfl <| jA0 ?_
  refine sFA0 jW9 ?_
  refine sL0 2 tyA191 tyS191 ?_
  refine wC3 Tryz.underlying191 rfl rfl <| sN (hZ _ _ <| f5K 0 1 4 5 21 rfl <| aC0 (fun h2 => ?_) (fun h2 => ?_))
  ·obtain ⟨rfl, rfl, h3, rfl, rfl⟩ : m = none ∧ ts = [] ∧ Value.slice At n ct = nilS ∧ pv = nilS ∧ K = [] := by
    rcases hm with hm | ⟨gm, B, rfl, _⟩
    ·rw [hn] at hm; exact hm
    ·cases h2
   injection h3 with h4 h5 h6
   subst h4; subst h5; subst h6
   refine aG (fun Z hZ => sM rfl rfl <| jX2 rfl (fun k : Nat => uq k) (fun v : Value => v) (fun gm => jA0 ?_))
   refine sFA0 jW9 ?_
   refine sS10 3 tyS191 ?_
   refine sN (hZ _ _ <| nF [(0, _), (1, _), (4, _), (5, _)] (kR rfl) <| jE4 (gm, []) ⟨uB, fun b hb => absurd hb (by simp), fun k t ht => absurd ht (by simp)⟩ (kR rfl) (HLe.pick [1, 2, 3, 0] (by simp) rfl))
  ·obtain ⟨gm, B, rfl, hok, rfl⟩ : ∃ gm B, m = some gm ∧ BkOk ts B ∧ K = plK gm ts B (.slice At n ct) pv := by
    rcases hm with ⟨rfl, _⟩ | hm
    ·cases h2
    ·rw [hn] at hm; exact hm
   refine aK <| jE4 (gm, B) hok (kR rfl) (HLe.refl _)
 rintro ⟨gm, B⟩ hok
 simp only at hok ⊢
 refine aR fun Z hZ => sM rfl rfl <| sCP0 hfs ?_
 refine sAN hZ rfl rfl <| f5K 0 1 4 5 6 rfl ?_
 have hget := wQ3 B q
 have hbo := yJ4 B q
 have hbd := vN8 B q
 have hokp := fun g c => BkOk.put hok s g c
 have hkl := (wQ5 hok q).1
 rw [hq] at hokp
 obtain ⟨ks, hks⟩ := xZ9 (bkK B q)
 obtain ⟨vb, hvb⟩ : ∃ v, bkV B q = v := ⟨_, rfl⟩
 rw [hks] at hbo hbd hokp hkl
 rw [hvb] at hget hbo hbd
 clear hvb
 obtain ⟨Ab, cb, rfl, hAb⟩ := hbo.form
 obtain ⟨Ap, cp, rfl, hAp⟩ := hpv.form
 refine jY7 _ [(0, true), (1, true), (2, true), (3, true), (4, true), (5, true), (6, true), (7, true), (8, true), (9, true), (10, true), (11, true), (12, true), (13, true), (14, true), (15, true), (16, false), (17, false)] 18 rfl mixed (by kernel_rfl) (HLe.pick [2, 3] (by simp) (by simp only [pick, l7, qS]; rfl)) (fun Z hZ => ?_)
 refine tw_p rfl <| jA8 ?_
 refine vN <| tw_p rfl <| jE0 rfl rfl <| vN <| tw_p rfl <| jA7 jW9 ?_
 refine vN <| tw_p rfl <| jE6 0 rfl rfl tyA191 tyS191 rfl rfl <| vN <| tw_p rfl <| jA8 ?_
 refine vN <| tw_p rfl <| jA8 ?_
 refine vN <| tw_p rfl <| jE0 rfl rfl <| vN <| tw_p rfl <| jA7 jW9 ?_
 refine vN <| tw_p rfl <| jE6 0 rfl rfl tyA191 tyS191 rfl rfl <| vN <| tw_p rfl <| jA8 ?_
 refine vN <| tw_p rfl <| jV1 1 keyU Tryz.underlying191 wA2 q _ rfl rfl rfl hget rfl <| vN <| tw_p rfl <| jA8 ?_
 refine vN <| tw_p rfl <| jE0 rfl rfl <| vN <| tw_p rfl <| jA7 kB6 ?_
 refine vN <| tw_p rfl <| jE6 0 rfl rfl tyA190 tyS190 rfl rfl <| vN <| tw_p rfl <| vC4 Tryz.underlying190 rfl rfl <| vN <| tw_g rfl <| sBS0 Tryz.underlying247 tyS3 tyZ3 (fun g3 => ?_)
 refine sN ⟨HLe.pick [3, 4] (by simp) rfl, ?_⟩
 refine tw_g rfl <| jC9 (xs := iqL ks) (_ :: _ :: _ :: _ :: bkE gm B :: (rowE _ 5 1 (bv ts.flatten) ++ (rowE _ 116 2 (jL1 (ctsF 0 ts)) ++ bkH (vG9 B q)))) yU7 rfl hbo (by simp) rfl (fun w hw => jJ3 (i := 0) (xs := [iq (ts.length : Nat)]) rfl rfl hw) rfl (by show _ ≤ 9223372036854775807; omega) (by omega) (yS2 (X := [_, _, _, _, _]) hbd) rfl (fun vb2 hvb2 => ?_)
 refine sN ⟨HLe.pick [3, 4] (by simp) rfl, ?_⟩
 refine jI7 <| jU5 4 keyU Tryz.underlying191 q vb2 rfl rfl rfl rfl rfl <| sN (hZ _ _ <| f4K 0 1 4 5 rfl ?_)
 obtain ⟨g', c', rfl⟩ := hvb2.some (by omega)
 have hokB := hokp g' c'
 obtain ⟨b', hb'⟩ : ∃ b' : Bk, b' = ⟨q, g', c', ks ++ [ts.length]⟩ := ⟨_, rfl⟩
 have hkey : b'.key = q := by rw [hb']
 have hbv : b'.v = .slice (some ⟨g', 0, none⟩) (ks.length + 1) c' := by rw [hb']; show Value.slice _ (ks ++ [ts.length]).length _ = _; rw [lX]; rfl
 have hbe : b'.e = .ob g' (RowP 3 1 (ks.length + 1) c' (iqL ks ++ [iq (ts.length : Nat)])) := by rw [hb']; show Ent.ob g' (RowP _ 1 (ks ++ [ts.length]).length c' (iqL (ks ++ [ts.length]))) = _; rw [lX, iqL, x8]; rfl
 have hMB : bkM (jP8 B b') = aput (bkM B) q (.slice (some ⟨g', 0, none⟩) (ks.length + 1) c') := by rw [wQ4, hkey, hbv]
 have hHB := wQ7 B b'
 rw [hkey, hbe] at hHB
 rw [← hb'] at hokB
 refine jA6 (.own g2 116 [uq n, wq4 s.length] :: .own g1 116 [uq 0, wq4 0] :: .own gp 193 [.slice At n ct, .slice Ap ts.length cp, .map (some gm)] :: mapE (fun k : Nat => uq k) (fun v : Value => v) gm (aput (bkM B) q (.slice (some ⟨g', 0, none⟩) (ks.length + 1) c')) :: (rowE (.slice At n ct) 5 1 (bv ts.flatten) ++ (rowE (.slice Ap ts.length cp) 116 2 (jL1 (ctsF 0 ts)) ++ bkH (jP8 B b')))) ((HLe.drop 1 rfl).trans (yA1 (X := [_, _, _, _, _]) hHB)) ?_
 rw [← hMB]
 refine jY7 _ [(0, true), (1, true), (2, true), (3, true), (4, true), (5, true), (6, false), (7, false), (8, true), (9, true)] 10 rfl mixed (by kernel_rfl) (HLe.pick [0, 2] (by simp) (by simp only [pick, l7, qS]; rfl)) (fun Z hZ => ?_)
 refine tw_p rfl <| jA8 ?_
 refine vN <| tw_p rfl <| jA8 ?_
 refine vN <| tw_p rfl <| jE0 rfl rfl <| vN <| tw_p rfl <| jA7 kB6 ?_
 refine vN <| tw_p rfl <| jE6 1 rfl rfl tyA190 tyS190 rfl rfl <| vN <| tw_p rfl <| jM3 0 rfl rfl tyA116 tyS116 rfl (by simp only [qS]; rfl) rfl ?_
 refine vN <| tw_g rfl <| sBS0 Tryz.underlying190 tyS116 tyZ116 (fun g4 => ?_)
 refine sN ⟨HLe.pick [1, 3] (by simp) rfl, ?_⟩
 refine tw_g rfl <| jC9 (xs := jL1 (ctsF 0 ts)) (_ :: _ :: _ :: _ :: bkE gm (jP8 B b') :: (rowE _ 5 1 (bv ts.flatten) ++ bkH (jP8 B b'))) zE7 rfl hpv (by rw [vN2, vU1]) rfl (fun w hw => jJ3 (i := 0) (xs := ctC (n, s.length)) rfl rfl hw) rfl (by show _ ≤ 9223372036854775807; omega) (by omega) (zD5 (X := [_, _, _, _, _])) rfl (fun pv2 hpv2 => ?_)
 obtain ⟨gl2, cl2, rfl⟩ := hpv2.some (by omega)
 refine sN ⟨HLe.pick [1, 3] (by simp) rfl, ?_⟩
 refine tw_p rfl <| jE0 rfl rfl <| vN <| tw_p rfl <| jA7 kB6 ?_
 refine vN <| jI7 <| sS10 3 tyS190 ?_
 refine sN (hZ _ _ <| f4K 0 1 4 5 rfl ?_)
 have hcs : ctsF 0 (ts ++ [s]) = ctsF 0 ts ++ [(n, s.length)] := by rw [vG4, hn, lA]
 refine jA6 (.own g2 116 [uq n, wq4 s.length] :: .own g1 116 [uq 0, wq4 0] :: .own gp 193 [.slice At n ct, .slice (some ⟨gl2, 0, none⟩) (ts.length + 1) cl2, .map (some gm)] :: bkE gm (jP8 B b') :: (rowE (.slice At n ct) 5 1 (bv ts.flatten) ++ (rowE (.slice (some ⟨gl2, 0, none⟩) (ts.length + 1) cl2) 116 2 (jL1 (ctsF 0 ts) ++ ctC (n, s.length)) ++ bkH (jP8 B b')))) ((HLe.drop 1 rfl).trans (yS1 (X := [_, _, _, _, _]))) <| aR fun Z hZ => sM rfl rfl <| sM rfl rfl <| jA0 ?_
 refine sFA0 kB7 ?_
 refine sL0 2 tyA44 tyS44 ?_
 refine sM rfl rfl <| kH7 (l := ts.flatten) (m := s) (_ :: _ :: _ :: bkE gm (jP8 B b') :: (rowE _ 116 2 (jL1 (ctsF 0 ts) ++ ctC (n, s.length)) ++ bkH (jP8 B b'))) Tryz.underlying44 Tryz.underlying9 (by kernel_rfl) rfl (by rw [hn]; exact htv) rfl (by omega) (wJ7 (X := [_, _, _, _])) rfl (fun tv2 htv2 => ?_)
 obtain ⟨At2, ct2, rfl, _⟩ := htv2.form
 refine jA0 ?_
 refine sFA0 kB7 ?_
 refine sS10 2 tyS44 ?_
 refine sN (hZ _ _ <| f2K 4 5 rfl <| jA6 (.own g2 116 [uq n, wq4 s.length] :: .own g1 116 [uq 0, wq4 0] :: .own gp 193 [.slice At2 (ts.flatten ++ s).length ct2, .slice (some ⟨gl2, 0, none⟩) (ts.length + 1) cl2, .map (some gm)] :: bkE gm (jP8 B b') :: (rowE (.slice At2 (ts.flatten ++ s).length ct2) 5 1 (bv (ts.flatten ++ s)) ++ (rowE (.slice (some ⟨gl2, 0, none⟩) (ts.length + 1) cl2) 116 2 (jL1 (ctsF 0 ts) ++ ctC (n, s.length)) ++ bkH (jP8 B b')))) (vL8 (X := [_, _, _, _])) <| aR (fun Z hZ => sLA0 0 tyA116 tyS116 ?_))
 refine sS0 1 tyS116 ?_
 refine sN (hZ _ _ <| f1K 4 rfl <| aE ?_)
 have hfl2 : (ts ++ [s]).flatten = ts.flatten ++ s := by simp
 refine jC1 _ rfl (ResOk.cell 1 rfl rfl tyA116 tyS116 rfl) (HLe.drop 2 rfl) ⟨rfl, .inr ⟨gm, jP8 B b', .slice At2 (ts.flatten ++ s).length ct2, .slice (some ⟨gl2, 0, none⟩) (ts.length + 1) cl2, ⟨hokB, ?_, ?_⟩, ?_⟩⟩
 ·rw [hfl2]; exact htv2
 ·rw [lX]; exact hpv2
 ·rw [plK, hfl2, hcs, vN3]
  simp [jL1]
theorem yP6 : Fn Tryz.prog 45 [] [] fun v H' => ∃ g, v = ptr g 0 ∧ PoolIs g [] H' := by
 refine Fn.enter (N := 3) Tryz.func45 rfl (by kernel_rfl) rfl (fun w0 => ?_)
 refine aA rfl rfl <| aF [] (Kn.nil) <| aR (fun Z hZ => jD4 tyZ193 tyP193 ?_)
 refine jB5 (fun g1 => ?_)
 refine sAN hZ rfl rfl <| f1K 0 rfl <| aE <| jC1 _ rfl rfl (HLe.refl _) ⟨_, rfl, .inl ⟨rfl, rfl⟩⟩
structure TsOk (ts : List Tx) : Prop where
 nd : ts.Nodup
 ne : ∀ t ∈ ts, t ≠ []
def addT (ts : List Tx) (s : Tx) : List Tx := if s ∈ ts then ts else ts ++ [s]
def addC (ts : List Tx) (s : Tx) : Nat × Nat := (fdQ 0 ts s).getD (ts.flatten.length, s.length)
theorem wR6 {ts : List Tx} {s : Tx} (h : TsOk ts) (hs : s ≠ []) : TsOk (addT ts s) := by
 unfold addT
 split
 ·exact h
 ·rename_i hn
  exact ⟨List.nodup_append.2 ⟨h.nd, by simp, fun a ha b hb => by rw [List.mem_singleton.1 hb]; exact fun e => hn (e ▸ ha)⟩, fun t ht => (List.mem_append.1 ht).elim (h.ne t) (fun ht => List.mem_singleton.1 ht ▸ hs)⟩
theorem zG5 {gp : Nat} {ts : List Tx} {H : Heap} (h : PoolIs gp ts H) (s : Tx) (hok : TsOk ts) (hfl : ts.flatten.length + s.length ≤ 1000000000) (hts : ts.length < 2048) (hs0 : s ≠ []) (hs : s.length ≤ 65536) :
  Fn Tryz.prog 47 [ptr gp 0, .string (str s)] H fun v H' => (∃ b, v = .tuple #[ctV (addC ts s), .bool b, iq (0 : Nat)]) ∧ PoolIs gp (addT ts s) H' := by
 have hfd := yU0 h s hok.nd hok.ne (by omega) (by omega) (by omega)
 obtain ⟨c, b, hfv, hct, hcf⟩ : ∃ c b, fdV (fdQ 0 ts s) = .tuple #[ctV c, .bool b] ∧ (b = true → fdQ 0 ts s = some c) ∧ (b = false → fdQ 0 ts s = none) := by
  cases fdQ 0 ts s with
  | none => exact ⟨_, false, rfl, fun h => (by cases h), fun _ => rfl⟩
  | some c => exact ⟨c, true, rfl, fun _ => rfl, fun h => by cases h⟩
 rw [hfv] at hfd
 have hput := wG6 h s (by omega) (by omega) hs
 obtain ⟨tv, Ap, cp, m, K, hH⟩ : ∃ tv Ap cp m K, H = .own gp 193 [tv, .slice Ap ts.length cp, .map m] :: K := by
  rcases h with ⟨rfl, rfl⟩ | ⟨gm, B, tv, pv, ⟨h1, h2, h3⟩, rfl⟩
  ·exact ⟨nilS, none, 0, none, [], rfl⟩
  ·obtain ⟨Ap, cp, rfl, _⟩ := h3.form
   exact ⟨tv, Ap, cp, some gm, _, rfl⟩
 have hwr := h.wrs
 have hsl : 0 < s.length := List.length_pos_iff.2 hs0
 refine Fn.enter (N := 43) Tryz.func47 rfl (by kernel_rfl) rfl (fun w0 => ?_)
 refine aR (fun Z hZ => sAl tyZ116 rfl (fun g1 => sA rfl rfl <| sAN hZ rfl rfl <| f3K 0 1 4 rfl <| aS (aB <| aR fun Z hZ => sM rfl rfl <| kC0 Tryz.underlying110 rfl rfl <| sAN hZ rfl rfl <| f4K 0 1 4 10 rfl <| aC0 (fun h1 => ?_) (fun h1 => ?_))))
 ·cases h1
 refine aR fun Z hZ => sM rfl rfl <| jU4 rfl rfl rfl <| sAN hZ rfl rfl <| f4K 0 1 4 14 rfl <| aC0 (fun h2 => ?_) (fun h2 => ?_)
 ·exact absurd (by simpa using h2) hs0
 refine aR fun Z hZ => sM rfl rfl <| jD6 Tryz.underlying9 rfl rfl <| jC4 ?_
 refine sAN hZ rfl rfl <| f4K 0 1 4 18 rfl <| aC0 (fun h3 => ?_) (fun h3 => ?_)
 ·simp at h3; omega
 refine aK ?_
 repeat refine nBN ?_
 refine nN <| aS <| aR fun Z hZ => sM rfl rfl <| sM rfl rfl <| jA5 H [_] hfd rfl (HLe.swap [_] H) rfl ?_
 rintro v H' ⟨rfl, rfl⟩
 rw [hwr.filter]
 refine jC3 _ (HLe.swap H' [_]) <| sM rfl rfl <| sX rfl rfl rfl <| sX rfl rfl rfl <| sAl tyZ116 rfl (fun g2 => sS0 0 tyS116 ?_)
 refine sAN hZ rfl rfl <| f5K 0 1 4 7 8 rfl <| aR fun Z hZ => sMN hZ rfl rfl <| f5K 0 1 4 7 29 rfl <| aC0 (fun h4 => ?_) (fun h4 => ?_)
 ·have hq := hct (by simpa using h4)
  have hm : s ∈ ts := Classical.byContradiction fun hn => by rw [(jY0 ts 0 s).2 hn] at hq; cases hq
  have e1 : addT ts s = ts := by unfold addT; rw [if_pos hm]
  have e2 : addC ts s = c := by unfold addC; rw [hq]; rfl
  rw [e1, e2]
  refine aR (fun Z hZ => sLA0 0 tyA116 tyS116 ?_)
  refine sS0 1 tyS116 ?_
  refine sA rfl rfl <| sAN hZ rfl rfl <| f3K 4 5 6 rfl <| aE ?_
  repeat refine nTR ?_
  exact jF6 _ rfl (ResOk.cell 1 rfl rfl tyA116 tyS116 rfl) rfl rfl (HLe.drop 2 rfl) ⟨⟨_, rfl⟩, h⟩
 have hq := hcf (by simpa using h4)
 have hm : s ∉ ts := (jY0 ts 0 s).1 hq
 have e1 : addT ts s = ts ++ [s] := by unfold addT; rw [if_neg hm]
 have e2 : addC ts s = (ts.flatten.length, s.length) := by unfold addC; rw [hq]; rfl
 rw [e1, e2]
 refine aK <| nN ?_
 subst hH
 refine aS <| aR fun Z hZ => sM rfl rfl <| jA0 ?_
 refine sFA0 kB6 ?_
 refine sL0 2 tyA190 tyS190 ?_
 refine jE2 Tryz.underlying190 rfl rfl <| jO3 rfl rfl rfl <| sN (hZ _ _ <| f4K 0 1 4 36 rfl <| aC0 (fun h5 => ?_) (fun h5 => ?_))
 ·simp at h5; omega
 refine aK <| nN <| aR fun Z hZ => sM rfl rfl <| vC0 (vs := [ptr gp 0]) rfl rfl <| sAN hZ rfl rfl <| f3K 1 4 9 rfl <| aR fun Z hZ => sM rfl rfl <| sM rfl rfl <| wC8 (bs := [ptr gp 0]) (vs := [.string (str s)]) [_, _] hput rfl rfl (HLe.swap [_, _] _) rfl ?_
 rintro v H' ⟨rfl, hP⟩
 rw [hP.wrs.filter]
 refine jC3 _ (HLe.swap H' [_, _]) <| sS0 1 tyS116 ?_
 refine sA rfl rfl <| sAN hZ rfl rfl <| f3K 4 5 6 rfl <| aE <| jF6 _ rfl (ResOk.cell 1 rfl rfl tyA116 tyS116 rfl) rfl rfl (HLe.drop 2 rfl) ⟨⟨_, rfl⟩, hP⟩
theorem yL7 {gp : Nat} {ts : List Tx} {H : Heap} (h : PoolIs gp ts H) (hfl : ts.flatten.length ≤ 1000000000) :
  Fn Tryz.prog 48 [ptr gp 0] H fun v H' => v = .string (str ts.flatten) ∧ H' = H := by
 obtain ⟨At, ct, pv, m, K, hH, hr⟩ : ∃ At ct pv m K, H = .own gp 193 [.slice At ts.flatten.length ct, pv, .map m] :: K ∧ ∀ w0 Wr w, Sat w0 Wr H w → Rd w 1 At ts.flatten.length (bv ts.flatten) := by
  rcases h with ⟨rfl, rfl⟩ | ⟨gm, B, tv, pv, ⟨h1, h2, h3⟩, rfl⟩
  ·exact ⟨none, 0, nilS, none, [], rfl, fun w0 Wr w _ => zB4 rfl⟩
  ·obtain ⟨At, ct, rfl, _⟩ := h2.form
   exact ⟨At, ct, pv, some gm, _, rfl, fun w0 Wr w hw => kX3 h2 (by rw [jH3, zE]) (fun x hx => lW _ (lW _ (xI _ hx))) hw⟩
 subst hH
 refine Fn.enter (N := 11) Tryz.func48 rfl (by kernel_rfl) rfl (fun w0 => ?_)
 refine aA rfl rfl <| f1K 0 rfl <| aS <| aR fun Z hZ => sM rfl rfl <| kC0 Tryz.underlying110 rfl rfl <| sN (hZ _ _ <| f2K 0 4 rfl <| aC0 (fun h1 => ?_) (fun h1 => ?_))
 ·cases h1
 refine aK <| nN <| aR fun Z hZ => sM rfl rfl <| jA0 ?_
 refine sFA0 kB7 ?_
 first | refine sL0 0 tyA44 tyS44 ?_
 refine kM3 (l := ts.flatten) Tryz.underlying44 Tryz.underlying5 Tryz.underlying9 rfl (fun w hw => hr _ _ w hw) rfl <| sCP0 (kL0 ts.flatten (by omega)) ?_
 refine sAN hZ rfl rfl <| f1K 2 rfl <| aE <| jC1 _ rfl rfl (HLe.refl _) ⟨rfl, rfl⟩
end V
section
open Go.RowKit
set_option maxRecDepth 100000
theorem vV9 {P : Program} {N : Frm} {w0 : World} {Wr : List Nat} {ops : Array Oper} {rest : List Oper} {fr : Fr} {H : Heap} {Z : Fr → Heap → Prop} {ty : Nat} {pos : String} {after : Array Edge}
  (i : Nat) {t : TypeId} {x y : Operand} {g o size n c : Nat} {e : TypeId} {xs ys : List Value} {v : Value} (hx : ev fr x = some (ptr g o)) (hy : ev fr y = some v) (hH : H[i]? = some (.ob g (RowP e size n c xs))) (hn : tySize P t = some 1) (h1 : v.oneCell' = true)
  (hlen : o < n * size) (hys : xs.set o v = ys) {H2 : Heap} (hs : H.set i (.ob g (RowP e size n c ys)) = H2)
  (h : sx P N w0 Wr ops rest fr H2 Z) : sx P N w0 Wr ops (⟨none, .store t x y, ty, pos, after, none⟩ :: rest) fr H Z :=
 wV2 (fun a w ha hw => by
  subst hs
  subst hys
  obtain ⟨ob, hg, cur, rfl, h2, h3, h4, h5, h6⟩ := hw.mem hH
  have hnc : n * size ≤ c * size := uN size h2
  have ho : o < cur.size := by omega
  have hc : w.cell? ⟨g, o, none⟩ = some cur[o] := by rw [cell_of_row w g o cur e _ hg]; simp [ho]
  have hf : w.frozen? ⟨g, o, none⟩ = false := by simp [World.frozen?, hg]
  have hst : (store ⟨g, o, none⟩ v).run P w = .ok () (w.setCell ⟨g, o, none⟩ v) := by
   cases v <;> first | (simp [Value.oneCell'] at h1; done) | simp [store, Sem.run, hc, hf]
  refine ⟨w.setCell ⟨g, o, none⟩ v, ?_, hw.turn hH rfl rfl (Only.setCell w g o _) ?_⟩
  ·have hsz : v.cells = #[v] := by cases v <;> first | rfl | (simp [Value.oneCell'] at h1)
   have ha0 : Addr.add ⟨g, o, none⟩ 0 = ⟨g, o, none⟩ := rfl
   simp [execOp, Instr.storeAt, ha.eval hx, ha.eval hy, ptr, Instr.sureAddr, lI, l9, lQ, storeVar, jC0 hn, hsz, storeCells, ha0]
   simp only [store] at hst ⊢
   rw [hst]
   rfl
  ·refine ⟨.cells (cur.set! o v) e (0, 0), ?_, cur.set! o v, rfl, h2, h3, by simpa using h4, ?_, by rw [List.length_set]; exact h6⟩
   ·simp [World.setCell, zX, hg]
   ·have : (cur.set! o v).toList = cur.toList.set o v := by simp
    rw [this, List.take_set, h5]) h
section
variable {P : Program} {N : Frm} {w0 : World} {Wr : List Nat} {ops : Array Oper} {rest : List Oper} {fr : Fr} {H : Heap} {Z : Fr → Heap → Prop} {d ty : Nat} {pos : String} {after : Array Edge}
theorem wE1 {f : FuncId} {x : Operand} {xs : List Operand} {vs : List Value} {ts : Array TypeId} {v : Value} (hc : Fn P f vs [] fun u _ => u = v) (hf : ev fr x = some (.func (.func f) #[] #[])) (hx : evs fr xs = some vs) (hN : Nat.ble (d + 1) N.n = true)
  (h : sq P N w0 Wr ops rest ((d, v) :: fr) H Z) : sq P N w0 Wr ops (⟨some d, .call { callee := .value x, args := xs.toArray, argTypes := ts }, ty, pos, after, none⟩ :: rest) fr H Z :=
 fun Q hQ a ha => wpQuiet_step fun K hK => by
  rw [if_pos (show Region.wanted (⟨some d, .call { callee := .value x, args := xs.toArray, argTypes := ts }, ty, pos, after, none⟩ : Oper) (yielded ops a.tmps) = true from rfl)]
  refine ⟨v, fun w hw => ?_, hK _ (h Q hQ _ (ha.put hN v))⟩
  unfold Oper.quietAt
  rw [vD6 (caps := []) hc.1 (ha.evals hx) (ha.eval hf)]
  refine ⟨rfl, ?_⟩
  rw [lH]
  exact (hc.2 w (Sat.nil w)).mono fun e w' he => by
   obtain ⟨u, H', rfl, rfl, hS⟩ := he
   exact ⟨rfl, hw.bel hS.only.bel⟩
end
section
variable {P : Program} {N : Frm} {w0 : World} {Wr : List Nat} {ops : Array Oper} {rest : List Oper} {fr : Fr} {H : Heap} {Z : Fr → Heap → Prop} {d ty : Nat} {pos : String} {after : Array Edge}
theorem yG4 {t t' : TypeId} {x y : Operand} {k : IntKind} {m n : Int} (hx : ev fr x = some (.int k m)) (hy : ev fr y = some (.int k n)) (r : Int) (hr : min m n = r) (hN : Nat.ble (d + 1) N.n = true)
  (h : sv P N w0 Wr ops rest ((d, .int k r) :: fr) H Z) : sv P N w0 Wr ops (⟨some d, .call { callee := .builtin .min, args := #[x, y], argTypes := #[t, t'] }, ty, pos, after, none⟩ :: rest) fr H Z :=
 jM0 _ hN (fun a w ha _ => by
  subst hr
  have e1 := ha.eval hx
  have e2 := ha.eval hy
  simp [execOp, resolve, invoke, builtin, e1, e2, lI, Builtin.min_, Builtin.min2]
  try (rw [Int.min_def]; split <;> split <;> simp_all <;> omega)) h
end
end
namespace V
open Go.RowKit
set_option maxRecDepth 100000
def oneQ (a b : En) : Bool := decide (b.id = jK7 a + 1 ∧ b.off = a.off ∧ b.len = a.len)
theorem yT4 (a b : En) (ha : a.ok) : Fn Tryz.prog 44 [a.val, b.val] [] fun v _ => v = .bool (oneQ a b) := by
 have hl := kY6 ha
 refine Fn.enter (N := 31) Tryz.func44 rfl (by kernel_rfl) rfl (fun w0 => ?_)
 refine aR (fun Z hZ => jB5 (fun g1 => ?_))
 refine jB5 (fun g2 => ?_)
 refine sAN hZ rfl rfl <| f2K 2 3 rfl <| jE8 [(4, .bool (oneQ a b))] [] mixed (by kernel_rfl) (fun Z hZ => ?_) ?_
 ·refine qFA0 jX1 ?_
  refine qFA0 jK0 ?_
  refine jB6 0 tyA25 tyS25 ?_
  refine qFA0 jX1 ?_
  refine jP6 1 rfl rfl tyA80 tyS80 rfl (by simp only [qS, Value.cells]; rfl) rfl ?_
  refine jH4 (kE2 a ha) rfl rfl <| vQ0 rfl rfl ((jK7 a + 1 : Nat) : Int) (by rw [l6 _ (by omega)]; omega) rfl ?_
  refine jM6 rfl rfl rfl <| qM rfl rfl <| jL6 13 rfl (fun hb8 => ?_) (fun hb8 => ?_)
  ·refine jA4 ?_
   refine qFA0 jX1 ?_
   refine jA4 ?_
   refine qFA0 jH7 ?_
   refine jA4 ?_
   refine jB6 0 tyA25 tyS25 ?_
   refine jA4 ?_
   refine qFA0 jX1 ?_
   refine jA4 ?_
   refine qFA0 jH7 ?_
   refine jA4 ?_
   refine jB6 1 tyA25 tyS25 ?_
   refine jA4 ?_
   refine jM6 rfl rfl rfl <| jE3 rfl rfl rfl <| qM rfl rfl <| jL6 22 rfl (fun hb17 => ?_) (fun hb17 => ?_)
   ·refine jA4 ?_
    refine qFA0 jX1 ?_
    refine jA4 ?_
    refine qFA0 jL8 ?_
    refine jA4 ?_
    refine jB6 0 tyA78 tyS78 ?_
    refine jA4 ?_
    refine qFA0 jX1 ?_
    refine jA4 ?_
    refine qFA0 jL8 ?_
    refine jA4 ?_
    refine jB6 1 tyA78 tyS78 ?_
    refine jA4 ?_
    refine jM6 rfl rfl rfl <| jE3 rfl rfl rfl <| jC8 rfl rfl <| jF0 (hZ _ _ ?_ ?_)
    ·exact Kn.cons (congrArg some (congrArg Value.bool (by unfold oneQ; simp at *; first | omega | (rw [lR]; simp; omega)))) Kn.nil
    ·exact HLe.sub (lN _)
   ·refine qO0 ?_
    refine qO0 ?_
    refine qO0 ?_
    refine qO0 ?_
    refine qO0 ?_
    refine qO0 ?_
    refine qO0 ?_
    refine jE3 rfl rfl rfl <| jC8 rfl rfl <| jF0 (hZ _ _ ?_ ?_)
    ·exact Kn.cons (congrArg some (congrArg Value.bool (by unfold oneQ; simp at *; first | omega | (rw [lR]; simp; omega)))) Kn.nil
    ·exact HLe.sub (lN _)
  ·refine qO0 ?_
   refine qO0 ?_
   refine qO0 ?_
   refine qO0 ?_
   refine qO0 ?_
   refine qO0 ?_
   refine qO0 ?_
   refine jE3 rfl rfl rfl <| qM rfl rfl <| qO0 ?_
   refine qO0 ?_
   refine qO0 ?_
   refine qO0 ?_
   refine qO0 ?_
   refine qO0 ?_
   refine qO0 ?_
   refine jE3 rfl rfl rfl <| jC8 rfl rfl <| jF0 (hZ _ _ ?_ ?_)
   ·exact Kn.cons (congrArg some (congrArg Value.bool (by unfold oneQ; simp at *; first | omega | (rw [lR]; simp; omega)))) Kn.nil
   ·exact HLe.sub (lN _)
 refine aE <| nR10 rfl
theorem vY8 {L : List En} {i : Nat} {x : En} (h : L[i]? = some x) : rdV false 1 (jA1 L) (i * 4 + 3) = some (wq4 x.run) := vF5 (j := 3) jW3 h rfl
theorem wZ3 {M : List En} {k : Nat} {e : En} (h : M[k]? = some e) (y : Nat) : (jA1 M).set (k * 4 + 3) (wq4 y) = jA1 (M.set k { e with run := y }) := kS1 (x := e) (y := { e with run := y }) (j := 3) jW3 rfl (by omega) h
def put1 (out : List En) (e : En) : List En :=
 match out[out.length - 1]? with
 | some a => if oneQ a e then out.set (out.length - 1) { a with run := a.run + 1 } else out ++ [e]
 | none => out ++ [e]
def enOf (ts : List Tx) (x : It) : En := ⟨x.id, (addC ts x.tx).1, (addC ts x.tx).2, 1⟩
def rwS (s : List En × List Tx) (x : It) : List En × List Tx := (put1 s.1 (enOf s.2 x), addT s.2 x.tx)
def jL3 (L : List It) : List En × List Tx := L.foldl rwS ([], [])
theorem kN1 {L : List It} {k : Nat} {x : It} (h : L[k]? = some x) : jL3 (L.take (k + 1)) = rwS (jL3 (L.take k)) x := by
 obtain ⟨hlt, rfl⟩ := List.getElem?_eq_some_iff.1 h
 unfold jL3
 rw [qB hlt, List.foldl_append, zA, List.foldl_nil]
theorem yI4 : ∀ (ts : List Tx) (o : Nat) (s : Tx) (c : Nat × Nat), fdQ o ts s = some c → c.2 = s.length ∧ c.1 + c.2 ≤ o + ts.flatten.length
 | [], _, _, _, h => by cases h
 | t :: r, o, s, c, h => by
  rw [fdQ] at h
  rw [z6, lX]
  split at h
  ·rename_i e
   injection h with h
   subst h
   subst e
   exact ⟨rfl, by simp only; omega⟩
  ·obtain ⟨h1, h2⟩ := yI4 r _ s c h
   exact ⟨h1, by omega⟩
theorem wR8 (ts : List Tx) (s : Tx) : (addC ts s).2 = s.length ∧ (addC ts s).1 + (addC ts s).2 ≤ ts.flatten.length + s.length := by
 unfold addC
 cases h : fdQ 0 ts s with
 | none => exact ⟨rfl, xB _⟩
 | some c =>
  obtain ⟨h1, h2⟩ := yI4 ts 0 s c h
  refine ⟨h1, ?_⟩
  simp only [Option.getD_some]
  omega
structure RsOk (k : Nat) (s : List En × List Tx) : Prop where
 ts : TsOk s.2
 nt : s.2.length ≤ k
 fl : s.2.flatten.length ≤ k * 65536
 no : s.1.length ≤ k
 es : ∀ e ∈ s.1, e.ok ∧ e.run ≤ k
theorem wR7 (ts : List Tx) (s : Tx) : (addT ts s).length ≤ ts.length + 1 ∧ (addT ts s).flatten.length ≤ ts.flatten.length + s.length := by
 unfold addT
 split
 ·exact ⟨by omega, by omega⟩
 ·simp
theorem RsOk.step {k : Nat} {s : List En × List Tx} (h : RsOk k s) (hk : k < 2048) {x : It} (h1 : x.id < 6004799503160661) (h2 : x.tx ≠ []) (h3 : x.tx.length ≤ 65536) : RsOk (k + 1) (rwS s x) := by
 obtain ⟨a1, a2⟩ := wR7 s.2 x.tx
 have h4 := h.nt
 have h5 := h.fl
 have h6 := h.no
 obtain ⟨c1, c2⟩ := wR8 s.2 x.tx
 have heo : (enOf s.2 x).ok ∧ (enOf s.2 x).run ≤ k + 1 := ⟨⟨by show x.id < _; omega, by show (addC s.2 x.tx).1 < _; omega, by show (addC s.2 x.tx).2 < _; omega, by show 1 < _; omega⟩, by show 1 ≤ k + 1; omega⟩
 have happ : ∀ e ∈ s.1 ++ [enOf s.2 x], e.ok ∧ e.run ≤ k + 1 := fun e he => by
  rcases List.mem_append.1 he with he | he
  ·obtain ⟨g1, g2⟩ := h.es e he
   exact ⟨g1, by omega⟩
  ·rw [List.mem_singleton.1 he]; exact heo
 have hpl : (put1 s.1 (enOf s.2 x)).length ≤ k + 1 ∧ ∀ e ∈ put1 s.1 (enOf s.2 x), e.ok ∧ e.run ≤ k + 1 := by
  unfold put1
  split
  ·rename_i a ha
   split
   ·refine ⟨by rw [List.length_set]; omega, fun e he => ?_⟩
    rcases List.mem_or_eq_of_mem_set he with he | rfl
    ·obtain ⟨g1, g2⟩ := h.es e he
     exact ⟨g1, by omega⟩
    ·obtain ⟨⟨g1, g2, g3, g4⟩, g5⟩ := h.es a (xM ha)
     exact ⟨⟨g1, g2, g3, by show a.run + 1 < _; omega⟩, by show a.run + 1 ≤ k + 1; omega⟩
   ·exact ⟨by rw [lX, zD]; omega, happ⟩
  ·exact ⟨by rw [lX, zD]; omega, happ⟩
 exact ⟨wR6 h.ts h2, by show (addT s.2 x.tx).length ≤ _; omega, by show (addT s.2 x.tx).flatten.length ≤ _; omega, hpl.1, hpl.2⟩
theorem kX0 {L : List It} (h : ChOk L) : ∀ k, k ≤ L.length → RsOk k (jL3 (L.take k))
 | 0, _ => by
  rw [lB]
  exact ⟨⟨uB, fun t ht => by cases ht⟩, xB _, by simp [jL3], by simp [jL3], fun e he => by cases he⟩
 | k + 1, hk => by
  have hx := jN9 (show k < L.length by omega)
  have hm := xM hx
  rw [kN1 hx]
  have h4 := h.len
  obtain ⟨h5, h6⟩ := h.tx _ hm
  exact (kX0 h k (by omega)).step (by omega) (h.lt _ hm) h5 h6
end V
end Go.Proofs.YtfeopecgedbfpaaGreatDoor
