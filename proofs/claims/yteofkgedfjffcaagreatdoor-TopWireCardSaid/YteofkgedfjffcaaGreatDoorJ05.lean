/- Walks and plain laws for this claim (texts Mg2, Mg3, Pl1, Pl2, Pl3, LayCl, Pl4, Pl5, Pl6, SxRw, Mg5, Mg6, Mg7, Mg8, Pk1, Mg9, Mg10, Mg11, Mg12, Mg13, Mg14, Mg15, Mp1, Mp2, Mp3, Mp4, Mp6, joined). Each theorem states its own conditions. -/
import Derived.Test.YteofkgedfjffcaaGreatDoorJ04
import Derived.Shelf.Pu.Clone
set_option linter.all false
namespace Go.Proofs.YteofkgedfjffcaaGreatDoor
namespace V
open Go.RowKit
set_option maxRecDepth 100000
theorem vN1 {P : Program} {N : Frm} {w0 : World} {Wr : List Nat} {fr : Fr} {H : Heap} {Q : Exit → Act → World → Prop} {c : Code} {ι : Type} (F : ι → Fr) (HH : ι → Heap) (I : ι → Prop)
  (hx : awp P N w0 Wr c fr H (Exit.then (fun a w => ∃ j, I j ∧ FrOk N (F j) a ∧ Sat w0 Wr (HH j) w) Q)) (hy : ∀ j, I j → nx N w0 Wr (F j) (HH j) Q .normal) : awp P N w0 Wr c fr H Q :=
 fun a w ha hw => kS9 (fun e a w h => by
  cases e <;> first | exact h | (obtain ⟨j, hj, h1, h2⟩ := h; exact hy j hj a w h1 h2)) (hx a w ha hw)
theorem wK3 (e : En) (he : e.ok) (ho : e.off ≤ 1099511627776) (many : Nat) (hm : many < 18446744073709551616) (data : List UInt8) (hd : data.length ≤ 1000000) :
  Fn Tryz.prog 112 [e.val, uq many, .string (str data)] [] fun v _ => v = iq (mwrQ e many data) := by
 obtain ⟨h1, h2, h3, h4⟩ := he
 refine fE 29 Tryz.func112 rfl (fun w0 => aR (fun Z hZ => jB2 (fun g1 => ?_)))
 refine sAN hZ rfl rfl <| f3K 1 2 3 rfl <| aS (aB <| aR (fun Z hZ => sFA0 jM4 ?_))
 first | refine sL0 0 tyA180 tyS180 ?_
 refine jB1 ?_
 refine sAN hZ rfl rfl <| f4K 1 2 3 7 rfl <| aC0 (fun h => ?_) (fun h => ?_)
 ·have h' : e.run = 0 := by simp at h; omega
  rw [show mwrQ e many data = 14 by unfold mwrQ; rw [if_pos h']]
  refine aA rfl rfl ?_
  refine f1K 6 rfl ?_
  refine aE ?_
  repeat (with_reducible (first | refine nTR ?_ | refine nBR ?_))
  exact nR1 rfl rfl rfl
 have h' : ¬ e.run = 0 := by simp at h; omega
 refine aR (fun Z hZ => sFA0 jH0 ?_)
 first | refine sL0 0 tyA61 tyS61 ?_
 refine sFA0 jJ6 ?_
 first | refine sL0 0 tyA180 tyS180 ?_
 refine jD0 Tryz.underlying180 Tryz.underlying61 rfl ((e.len : Nat) : Int) (by rw [xK _ (by omega)]) rfl ?_
 refine jB7 rfl rfl ((e.off + e.len : Nat) : Int) (by rw [xK _ (by omega)]; omega) rfl ?_
 refine sM rfl rfl <| jC8 Tryz.underlying9 rfl rfl <| jD0 Tryz.underlying3 Tryz.underlying61 rfl ((data.length : Nat) : Int) (by rw [xK _ (by omega)]) rfl ?_
 refine jC4 ?_
 refine sAN hZ rfl rfl <| f3K 1 3 11 rfl <| aC0 (fun h2' => ?_) (fun h2' => ?_)
 ·have h2' : data.length < e.off + e.len := by simp at h2'; omega
  rw [show mwrQ e many data = 8 by unfold mwrQ; rw [if_neg h', if_pos h2']]
  refine aA rfl rfl ?_
  refine f1K 6 rfl ?_
  refine aE ?_
  repeat (with_reducible (first | refine nTR ?_ | refine nBR ?_))
  exact nR1 rfl rfl rfl
 have h2' : ¬ data.length < e.off + e.len := by simp at h2'; omega
 refine aR fun Z hZ => sM rfl rfl <| jC4 ?_
 refine sAN hZ rfl rfl <| f2K 3 22 rfl <| aC0 (fun h5 => ?_) (fun h5 => ?_)
 ·have h5 : 2048 < many := by simp at h5; omega
  rw [show mwrQ e many data = 21 by unfold mwrQ; rw [if_neg h', if_neg h2', if_pos h5]]
  refine aA rfl rfl ?_
  refine f1K 6 rfl ?_
  refine aE ?_
  repeat (with_reducible (first | refine nTR ?_ | refine nBR ?_))
  exact nR1 rfl rfl rfl
 have h5 : ¬ 2048 < many := by simp at h5; omega
 refine aR (fun Z hZ => sFA0 jJ6 ?_)
 first | refine sL0 0 tyA180 tyS180 ?_
 refine jC4 ?_
 refine sAN hZ rfl rfl <| f1K 25 rfl <| aC0 (fun h6 => ?_) (fun h6 => ?_)
 ·have h6 : 65536 < e.len := by simp at h6; omega
  rw [show mwrQ e many data = 5 by unfold mwrQ; rw [if_neg h', if_neg h2', if_neg h5, if_pos h6]]
  refine aA rfl rfl ?_
  refine f1K 6 rfl ?_
  refine aE ?_
  repeat (with_reducible (first | refine nTR ?_ | refine nBR ?_))
  exact nR1 rfl rfl rfl
 have h6 : ¬ 65536 < e.len := by simp at h6; omega
 rw [show mwrQ e many data = 0 by unfold mwrQ; rw [if_neg h', if_neg h2', if_neg h5, if_neg h6]]
 refine aK ?_
 repeat (with_reducible refine nBN ?_)
 refine nN ?_
 refine aA rfl rfl ?_
 refine f1K 6 rfl ?_
 refine aE ?_
 exact nR10 rfl
theorem vX9 {free : Nat} {e : En} {r : List En} (h : rowQ free (e :: r) = 0) : chkE e = 0 ∧ rowQ (jK4 e + 1) r = 0 := by
 rw [rowQ] at h
 split at h
 ·rename_i hc
  split at h
  ·cases h
  ·exact ⟨hc, h⟩
 ·rename_i hc; exact absurd h hc
theorem vR7 : ∀ (L : List En) (free : Nat), rowQ free L = 0 → ∀ e ∈ L, chkE e = 0
 | [], _, _, e, he => by cases he
 | x :: r, free, h, e, he => by
  obtain ⟨h1, h2⟩ := vX9 h
  rcases List.mem_cons.1 he with rfl | he
  ·exact h1
  ·exact vR7 r _ h2 e he
theorem vK4 (X Y : List It) : jC9 (X ++ Y) = jC9 X ++ jC9 Y := by simp [jC9]
theorem yC4 (A : Option Addr) (c : Nat) (L : List En) (T : Heap) (hA : jK9 A L.length) (hT : 0 < L.length → T = roE A (jA2 L)) (hro : Ro T) (hL : L.length ≤ maxLen) (hE : jF5 L) (data : List UInt8) (hd : data.length ≤ 1000000) :
  Fn Tryz.prog 50 [.slice A L.length c, .string (str data)] T fun v H' => ∃ u, v = .tuple #[.agg #[u], iq (mbQ L data).1] ∧ RowOk u (mbQ L data).2.length ∧ H' = rowE u 63 2 (jC9 (mbQ L data).2) := by
 refine fE 70 Tryz.func50 rfl (fun w0 => aR (fun Z hZ => sAl tyZ58 rfl (fun g1 => sAN hZ rfl rfl <| f3K 0 1 4 rfl <| aS <| aR fun Z hZ => sM rfl rfl <| jD7 T (jY3 A c L T hA hT hro hL hE) rfl (qX _ _) hro rfl <| sAN hZ rfl rfl <| f4K 0 1 4 6 rfl ?_)))
 refine aR fun Z hZ => sM rfl rfl <| jA6 ?_
 refine sN (hZ _ _ <| f5K 0 1 4 6 17 rfl <| aC0 (fun h => ?_) (fun h => ?_))
 ·have h' : ¬ rowC L = 0 := by simp at h; omega
  rw [show mbQ L data = (rowC L, []) by unfold mbQ; rw [if_neg h']]
  refine aR (fun Z hZ => jB6 tyZ58 tyP58 ?_)
  refine sM rfl rfl ?_
  first | refine sS0 0 tyS58 ?_
  refine sAN hZ rfl rfl ?_
  refine f2K 4 5 rfl ?_
  refine aE ?_
  repeat (with_reducible refine nTR ?_)
  exact jD8 [] rfl (kH 0 rfl rfl tyA58 tyS58 rfl) rfl (kA (lO _)) ⟨_, rfl, kI, rfl⟩
 have h' : rowC L = 0 := by simp at h; omega
 have hq : rowQ 0 L = 0 ∧ L.length ≤ 4096 := by
  unfold rowC at h'
  split at h'
  ·cases h'
  ·exact ⟨h', by omega⟩
 have hat := vR7 L 0 hq.1
 have hmb : mbQ L data = mbR data 0 [] L := by unfold mbQ; rw [if_pos h']
 have hokM := zO1 hE data
 rw [hmb] at hokM ⊢
 refine aK <| nN <| aA rfl rfl <| f4K 0 1 4 7 rfl <| aA rfl rfl <| f5K 0 1 4 7 8 rfl <| aS <| aR fun Z hZ => sM rfl rfl <| jE5 Tryz.underlying114 rfl rfl <| sMN hZ rfl rfl ?_
 refine f7K 1 4 7 8 20 21 22 rfl <| aB ?_
 refine jC3 (ι := Nat × Nat × Value × List It) (fun s => [(1, .string (str data)), (4, ptr g1 0), (7, uq s.2.1), (8, s.2.2.1), (20, .slice A L.length c), (21, iq (L.length : Nat)), (22, iq (s.1 : Nat))]) (fun s => .own g1 58 [.slice none 0 0] :: (T ++ rowE s.2.2.1 63 2 (jC9 s.2.2.2)))
  (fun s => s.1 ≤ L.length ∧ RowOk s.2.2.1 s.2.2.2.length ∧ s.2.2.2.length = s.2.1 ∧ s.2.1 ≤ 2048 ∧ mbR data s.2.1 s.2.2.2 (L.drop s.1) = mbR data 0 [] L) (fun s => L.length - s.1) (0, 0, .slice none 0 0, []) ⟨by simp, kI, rfl, lZ _, rfl⟩ (kR rfl) (by simp [rowE]; exact hV _) ?_
 rintro ⟨i, many, v, X⟩ ⟨hi, hv, hXl, hmn, hqq⟩
 simp only at hi hv hXl hmn hqq
 refine aR (fun Z hZ => jB0 ?_)
 refine sN (hZ _ _ <| f8K 1 4 7 8 20 21 22 23 rfl <| aS (aC0 (fun h2 => ?_) (fun h2 => ?_)))
 ·have hlt : i < L.length := by simpa using h2
  obtain ⟨x, hx⟩ : ∃ x, L[i]? = some x := ⟨_, xF hlt⟩
  have hxm := xN hx
  have hxo := hE x hxm
  obtain ⟨c1, c2, c3, c4⟩ := kG1 hxo (hat x hxm)
  obtain ⟨k1, k2, k3, k4⟩ := hxo
  have hdr : L.drop i = x :: L.drop (i + 1) := by rw [zA hlt]; congr 1; exact (List.getElem?_eq_some_iff.1 hx).2
  rw [hdr, mbR] at hqq
  obtain ⟨w, hw⟩ := xZ9 (mwrQ x (many + x.run) data)
  have hwf := wK3 x (hE x hxm) c3 (many + x.run) (by omega) data hd
  rw [hw] at hqq hwf
  obtain ⟨g, o, rfl⟩ := hA (by omega)
  obtain rfl := hT (by omega)
  refine jA7 (.own g1 58 [.slice none 0 0] :: .ro g o (jA2 L) :: rowE v 63 2 (jC9 X)) (hV _) <| aK <| nN <| aS (aB <| aR (fun Z hZ => jA8 (o + i * 4) Tryz.underlying114 tyS182 rfl rfl (by first | omega | (simp; omega)) (by simp) rfl ?_))
  refine jE0 1 rfl rfl (i * 4) rfl tyA182 tyS182 (jK6 hx) rfl <| sAl tyZ182 rfl (fun g2 => sS0 0 tyS182 ?_)
  refine sN (hZ _ _ <| f8K 1 4 7 8 10 20 21 22 rfl <| aR fun Z hZ => sM rfl rfl <| sFA0 jM4 ?_)
  refine sL0 0 tyA180 tyS180 ?_
  refine jD0 Tryz.underlying180 Tryz.underlying61 rfl ((x.run : Nat) : Int) (by rw [xK _ (by omega)]) rfl ?_
  refine kD6 ((many + x.run : Nat) : Int) (by show IntKind.u64.wrap (((many : Nat) : Int) + ((x.run : Nat) : Int)) = _; rw [xK _ (by omega)]; omega) ?_
  refine sAN hZ rfl rfl <| f8K 1 4 7 8 10 20 21 22 rfl <| aS <| aR (fun Z hZ => sLA0 0 tyA182 tyS182 ?_)
  refine sM rfl rfl <| sM rfl rfl <| sCP0 hwf ?_
  refine sAN hZ rfl rfl <| f9K 1 4 7 8 10 11 20 21 22 rfl <| aR fun Z hZ => sM rfl rfl <| jA6 ?_
  refine sN (hZ _ _ <| f10K 1 4 7 8 10 11 20 21 22 36 rfl <| aC0 (fun h3 => ?_) (fun h3 => ?_))
  ·have h3' : ¬ w = 0 := by simp at h3; omega
   rw [if_neg h3'] at hqq
   rw [← hqq]
   refine aR (fun Z hZ => jB6 tyZ58 tyP58 ?_)
   refine sM rfl rfl <| sS0 1 tyS58 ?_
   refine sAN hZ rfl rfl ?_
   refine f2K 4 5 rfl ?_
   refine aE ?_
   repeat (with_reducible (first | refine nTR ?_ | refine nBR ?_))
   exact jD8 [] rfl (kH 1 rfl rfl tyA58 tyS58 rfl) rfl (kA (lO _)) ⟨_, rfl, kI, rfl⟩
  have h3' : w = 0 := by simp at h3; omega
  rw [if_pos h3'] at hqq
  obtain ⟨w1, w2, w3, w4⟩ := vR6 (hw.trans h3')
  obtain ⟨tx, htx⟩ := xZ9 (txOf x data)
  have hil := wL4 x data
  have hitk : ∀ k, k < x.run → jC9 (X ++ (jT1 x data).take (k + 1)) = jC9 (X ++ (jT1 x data).take k) ++ (⟨x.id + k, tx⟩ : It).cells := fun k hk => by
   rw [yD4 hk, htx, ← xD, vK4 (X ++ (jT1 x data).take k)]
   simp [jC9]
  refine aK <| nN <| aR fun Z hZ => sM rfl rfl <| sFA0 jH0 ?_
  refine sL0 0 tyA61 tyS61 ?_
  refine sFA0 jH0 ?_
  refine sL0 0 tyA61 tyS61 ?_
  refine sFA0 jJ6 ?_
  refine sL0 0 tyA180 tyS180 ?_
  refine jD0 Tryz.underlying180 Tryz.underlying61 rfl ((x.len : Nat) : Int) (by rw [xK _ (by omega)]) rfl ?_
  refine jB7 rfl rfl ((x.off + x.len : Nat) : Int) (by rw [xK _ (by omega)]; omega) rfl ?_
  refine jF7 tx Tryz.underlying9 rfl rfl rfl (by omega) (by omega) (by omega) (by rw [← htx]; unfold txOf; simp only [x4]; rw [uF]) rfl ?_
  refine sAN hZ rfl rfl <| f9K 1 4 7 8 10 12 20 21 22 rfl <| aR (fun Z hZ => sFA0 jM4 ?_)
  refine sL0 0 tyA180 tyS180 ?_
  refine sMN hZ rfl rfl <| f11K 1 4 7 8 10 12 20 21 22 50 51 rfl <| vN1 (ι := Value) (fun u => [(1, .string (str data)), (4, ptr g1 0), (7, uq (many + x.run)), (8, u), (20, .slice (some ⟨g, o, none⟩) L.length c), (21, iq (L.length : Nat)), (22, iq (i : Nat))]) (fun u => .own g2 182 x.cells :: .own g1 58 [.slice none 0 0] :: .ro g o (jA2 L) :: rowE u 63 2 (jC9 (X ++ jT1 x data))) (fun u => RowOk u (X ++ jT1 x data).length) ?_ ?_
  ·refine aB ?_
   refine jC3 (ι := Nat × Value) (fun s => [(1, .string (str data)), (4, ptr g1 0), (7, uq (many + x.run)), (8, s.2), (10, ptr g2 0), (12, .string (str tx)), (20, .slice (some ⟨g, o, none⟩) L.length c), (21, iq (L.length : Nat)), (22, iq (i : Nat)), (50, wq4 x.run), (51, wq4 s.1)]) (fun s => .own g2 182 x.cells :: .own g1 58 [.slice none 0 0] :: .ro g o (jA2 L) :: rowE s.2 63 2 (jC9 (X ++ (jT1 x data).take s.1)))
    (fun s => s.1 ≤ x.run ∧ RowOk s.2 (X.length + s.1)) (fun s => x.run - s.1) (0, v) ⟨by simp, hv⟩ (kR rfl) (by simp; exact hV _) ?_
   rintro ⟨k, u⟩ ⟨hk, hu⟩
   simp only at hk hu
   refine aR (fun Z hZ => jB0 ?_)
   refine sN (hZ _ _ <| f12K 1 4 7 8 10 12 20 21 22 50 51 52 rfl <| aS (aC0 (fun h4 => ?_) (fun h4 => ?_)))
   ·have hkl : k < x.run := by simp at h4; omega
    have hlenk : (X ++ (jT1 x data).take k).length = X.length + k := by rw [lN, xV, hil]; omega
    refine aK <| nN <| aS (aB <| aR fun Z hZ => sM rfl rfl <| sAN hZ rfl rfl <| f12K 1 4 7 8 10 12 13 20 21 22 50 51 rfl <| aG (fun Z hZ => sM rfl rfl <| sFA0 jJ7 ?_))
    refine sL0 0 tyA61 tyS61 ?_
    refine sM rfl rfl <| jD0 Tryz.underlying180 Tryz.underlying61 rfl ((k : Nat) : Int) (by rw [xK _ (by omega)]) rfl ?_
    refine jB7 rfl rfl ((x.id + k : Nat) : Int) (by rw [xK _ (by unfold En.wide at c2; omega)]; omega) rfl ?_
    refine sM rfl rfl <| jB6 tyZ63 tyP63 ?_
    refine sBS0 Tryz.underlying56 tyS63 tyZ63 (fun g3 => ?_)
    refine jD3 [_, _, _, _] yL8 rfl hu (by rw [jR0, hlenk]) rfl (fun w hw => jI0 (i := 0) (xs := (⟨x.id + k, tx⟩ : It).cells) rfl rfl hw) rfl (by show _ ≤ 9223372036854775807; omega) (by omega) (hV _) rfl (fun v2 hv2 => ?_)
    refine sAN hZ rfl rfl ?_
    refine nF [(1, _), (4, _), (7, _), (8, _), (10, _), (12, _), (20, _), (21, _), (22, _), (50, _), (51, _)] (kR rfl) ?_
    repeat (with_reducible refine nBN ?_)
    refine nN ?_
    refine aG (fun Z hZ => ?_)
    refine jB7 rfl rfl ((k + 1 : Nat) : Int) (by rw [uH _ (by omega)]; omega) rfl ?_
    refine sMN hZ rfl rfl <| nF [(1, _), (4, _), (7, _), (8, _), (10, _), (12, _), (20, _), (21, _), (22, _), (50, _), (51, _)] (kR rfl) <| jC2 (k + 1, v2) ⟨hkl, hv2⟩ (by simp; omega) (kR rfl) ?_
    simp only
    rw [hitk k hkl]
    exact kC 1 rfl
   ·have hke : k = x.run := by simp at h4; omega
    subst hke
    refine jB5 ?_
    repeat (with_reducible refine nTE ?_)
    refine nBE ?_
    refine jJ9 u (by rw [lN, hil]; exact hu) (kR rfl) ?_
    simp only
    rw [zN (Nat.le_of_eq hil)]
    exact hV _
  intro u hu
  repeat (with_reducible refine nBN ?_)
  refine nN ?_
  refine aG (fun Z hZ => ?_)
  refine jB7 rfl rfl ((i + 1 : Nat) : Int) (by rw [lT _ (by omega)]; omega) rfl ?_
  refine sMN hZ rfl rfl <| nF [(1, _), (4, _), (7, _), (8, _), (20, _), (21, _), (22, _)] (kR rfl) <| jC2 (i + 1, many + x.run, u, X ++ jT1 x data) ⟨hlt, hu, by rw [lN, hil, hXl], w3, hqq⟩ (by simp; omega) (kR rfl) (kC 1 rfl)
 ·refine jB5 ?_
  repeat (with_reducible refine nTE ?_)
  refine nBE ?_
  refine nN ?_
  have hke : i = L.length := by simp at h2; omega
  subst hke
  rw [uO, mbR] at hqq
  rw [← hqq] at hokM ⊢
  simp only at hokM ⊢
  obtain ⟨q1, q2⟩ := yU6 hokM (List.Perm.refl X)
  have hso : jR8 X = X := by
   unfold ofL at q2
   rw [if_pos q1] at q2
   exact q2
  obtain ⟨AX, cX, rfl, hAX, hleX⟩ := hv.ro
  have hof := yM2 AX cX X (roE AX (jC9 X)) hAX.arg (fun _ => rfl) (kG _ _) (by omega)
  rw [q1, hso] at hof
  refine aR fun Z hZ => sM rfl rfl <| jZ3 (roE AX (jC9 X)) hof rfl ((kW6 hleX (_ :: T) _ _ _).trans (hV _)) (kG _ _) rfl ?_
  rintro v H' ⟨u, rfl, ⟨_, hu, rfl⟩ | ⟨hbad, _⟩⟩
  rotate_left
  exact absurd rfl hbad
  rw [jE2]
  refine jC6 _ (kD _ _) ?_
  obtain ⟨A2, c2, rfl, _⟩ := hu.form
  refine sX rfl rfl rfl <| sX rfl rfl rfl ?_
  first | refine sS0 0 tyS58 ?_
  refine sAN hZ rfl rfl <| f2K 4 5 rfl <| aE <| jD8 (rowE _ 63 2 (jC9 X)) rfl (kH 0 rfl rfl tyA58 tyS58 rfl) rfl (kA (lX (_ :: (T ++ _)) _)) ⟨_, rfl, hu, rfl⟩
end V
namespace V
open Go.RowKit
section
variable {P : Program} {N : Frm} {w0 : World} {Wr : List Nat} {ops : Array Oper} {rest : List Oper} {fr : Fr} {H : Heap} {Z : Fr → Heap → Prop} {d ty : Nat} {pos : String} {after : Array Edge}
theorem zE4 {t t' : TypeId} {x y : Operand} {k : IntKind} {m n : Int} (hx : ev fr x = some (.int k m)) (hy : ev fr y = some (.int k n)) (r : Int) (hr : k.wrap (BitVec.ofInt k.bits m ^^^ BitVec.ofInt k.bits n).toNat = r) (hN : bN d N)
  (h : sx P N w0 Wr ops rest ((d, .int k r) :: fr) H Z) : sx P N w0 Wr ops (⟨some d, .binOp .xor t x y t', ty, pos, after, none⟩ :: rest) fr H Z :=
 jM0 _ hx hy (fun w => by subst hr; simp [binOp, Op.intBits]) hN h
end
def fnvI (h : Nat) (b : UInt8) : Int := IntKind.u64.wrap (BitVec.ofInt IntKind.u64.bits ((h : Nat) : Int) ^^^ BitVec.ofInt IntKind.u64.bits ((b.toNat : Nat) : Int)).toNat
def fnvS (h : Nat) (b : UInt8) : Nat := (IntKind.u64.wrap (fnvI h b * 1099511628211)).toNat
theorem yY0 (h : Nat) (b : UInt8) : IntKind.u64.wrap (fnvI h b * 1099511628211) = ((fnvS h b : Nat) : Int) := by
 unfold fnvS
 rw [Int.toNat_of_nonneg]
 simp only [IntKind.wrap, IntKind.bits, IntKind.signed]
 exact Int.emod_nonneg _ (by decide)
def fnvQ (s : List UInt8) : Nat := s.foldl fnvS 14695981039346656037
theorem yE8 (h : Nat) (b : UInt8) : Fn Tryz.prog 261 [uq h, .int .u8 (b.toNat : Nat)] [] fun v _ => v = uq (fnvS h b) := by
 have hb := b.toNat_lt
 refine fE 10 Tryz.func261 rfl (fun w0 => aA rfl rfl <| f2K 0 1 rfl <| aR fun Z hZ => sM rfl rfl <| sM rfl rfl <| jD0 Tryz.underlying5 Tryz.underlying61 rfl ((b.toNat : Nat) : Int) (by rw [xK _ (by omega)]) rfl ?_)
 refine zE4 rfl rfl (fnvI h b) rfl rfl <| kK3 rfl rfl ((fnvS h b : Nat) : Int) (yY0 h b) rfl <| sAN hZ rfl rfl <| f1K 4 rfl <| aE <| nR10 rfl
theorem wN0 {s : List UInt8} {i : Nat} {c : UInt8} (h : s[i]? = some c) : fnvQ (s.take (i + 1)) = fnvS (fnvQ (s.take i)) c := by
 obtain ⟨hlt, rfl⟩ := List.getElem?_eq_some_iff.1 h
 unfold fnvQ
 rw [qC hlt, List.foldl_append, zU, List.foldl_nil]
theorem yF0 : fnvQ [] = 14695981039346656037 := rfl
attribute [irreducible] fnvQ fnvS fnvI
theorem yE9 (s : List UInt8) (hs : s.length ≤ 9223372036854775807) : Fn Tryz.prog 262 [.agg #[.int .u64 14695981039346656037, .func (.func 261) #[] #[]], .string (str s)] [] fun v _ => v = uq (fnvQ s) := by
 refine fE 23 Tryz.func262 rfl (fun w0 => aR (fun Z hZ => jB2 (fun g1 => ?_)))
 refine sAN hZ rfl rfl <| f2K 1 2 rfl <| aS <| aR fun Z hZ => sM rfl rfl <| jC8 Tryz.underlying9 rfl rfl <| sMN hZ rfl rfl <| f4K 1 2 7 8 rfl <| aB ?_
 refine jC3 (ι := Nat) (fun i => [(1, .string (str s)), (2, ptr g1 0), (7, iq (s.length : Nat)), (8, iq (i : Nat))]) (fun i => [.own g1 385 [uq (fnvQ (s.take i)), .func (.func 261) #[] #[]]])
  (fun i => i ≤ s.length) (fun i => s.length - i) 0 (by simp) (kR rfl) (by simp only [lB, yF0]; exact hV _) ?_
 rintro i hi
 refine aR (fun Z hZ => jB0 ?_)
 refine sN (hZ _ _ <| f5K 1 2 7 8 9 rfl <| aS (aC0 (fun h => ?_) (fun h => ?_)))
 ·have hlt : i < s.length := by simpa using h
  obtain ⟨ch, hch⟩ : ∃ c, s[i]? = some c := ⟨_, xF hlt⟩
  have hsn := wN0 hch
  refine aK <| nN <| aS (aB <| aR fun Z hZ => sM rfl rfl <| sAN hZ rfl rfl <| f5K 1 2 5 7 8 rfl <| jR2 _ [(0, true), (1, true), (2, true), (3, true), (4, true), (5, true), (6, true), (7, false), (8, true)] 9 rfl jF1 (by kernel_rfl) (HLe.pick [0] (by simp) (by simp only [pick, l8, qS]; rfl)) (fun Z hZ => ?_))
  refine tw_p rfl <| jA3 wX1 ?_
  refine vN <| tw_p rfl ?_
  first | refine jD6 0 rfl rfl tyA383 tyS383 rfl rfl ?_
  refine vN <| tw_p rfl <| jA3 kU0 ?_
  refine vN <| tw_p rfl ?_
  first | refine jD6 0 rfl rfl tyA61 tyS61 rfl rfl ?_
  refine vN <| tw_p rfl <| jA5 ?_
  refine vN <| tw_p rfl <| jA5 ?_
  refine vN <| tw_p rfl <| kK9  Tryz.underlying9 rfl rfl (Int.natCast_nonneg i) (by rw [x4]; exact hch) rfl ?_
  refine vN <| tw_g rfl <| jZ5 (caps := []) (vs := [uq (fnvQ (s.take i)), .int .u8 (ch.toNat : Nat)]) [] (yE8 (fnvQ (s.take i)) ch) rfl rfl (kA (lO _)) Ro.nil rfl <| sN ⟨pH [0] rfl, ?_⟩
  refine tw_p rfl <| jA3 kU0 ?_
  refine vN <| jH1 ?_
  first | refine sS10 0 tyS61 ?_
  refine sN (hZ _ _ ?_)
  refine nF [(1, _), (2, _), (7, _), (8, _)] (kR rfl) ?_
  repeat (with_reducible refine nBN ?_)
  refine nN ?_
  refine aG (fun Z hZ => ?_)
  refine jB7 rfl rfl ((i + 1 : Nat) : Int) (by rw [lT _ (by omega)]; omega) rfl ?_
  refine sMN hZ rfl rfl <| nF [(1, _), (2, _), (7, _), (8, _)] (kR rfl) <| jC2 (i + 1) hlt (by omega) (kR rfl) (by rw [hsn]; exact hV _)
 ·refine jB5 ?_
  repeat (with_reducible refine nTE ?_)
  refine nBE ?_
  refine nN ?_
  have hke : i = s.length := by simp at h; omega
  subst hke
  rw [xY]
  refine aR (fun Z hZ => sFA0 kU0 ?_)
  first | refine sL0 0 tyA61 tyS61 ?_
  refine sAN hZ rfl rfl <| f1K 4 rfl <| aE <| nR10 rfl
theorem vL3 (s : List UInt8) (hs : s.length ≤ 9223372036854775807) : Fn Tryz.prog 220 [.string (str s)] [] fun v _ => v = uq (fnvQ s) := by
 refine fE 6 Tryz.func220 rfl (fun w0 => aA rfl rfl <| f1K 0 rfl <| aR (fun Z hZ => jB6 tyZ385 tyP385 ?_))
 refine sM rfl rfl <| sCP0 (yE9 s hs) ?_
 refine sAN hZ rfl rfl <| f1K 2 rfl <| aE <| nR10 rfl
end V
namespace V
open Go.RowKit
set_option maxRecDepth 100000
abbrev Tx := List UInt8
def ctsF : Nat → List Tx → List (Nat × Nat)
 | _, [] => []
 | o, t :: r => (o, t.length) :: ctsF (o + t.length) r
abbrev ctC (c : Nat × Nat) : List Value := [uq c.1, wq4 c.2]
abbrev ctV (c : Nat × Nat) : Value := .agg (ctC c).toArray
abbrev jI9 (L : List (Nat × Nat)) : List Value := L.flatMap ctC
theorem yM0 (c : Nat × Nat) : (ctC c).length = 2 := rfl
theorem vM5 (L : List (Nat × Nat)) : (jI9 L).length = L.length * 2 := kM8 yM0 L
theorem vM7 {L : List (Nat × Nat)} {i : Nat} {x : Nat × Nat} (h : L[i]? = some x) : rdV true 2 (jI9 L) (i * 2) = some (ctV x) := vL5 yM0 h
theorem vM6 (X Y : List (Nat × Nat)) : jI9 (X ++ Y) = jI9 X ++ jI9 Y := by simp [jI9]
theorem zK2 : ElemOk Tryz.prog 291 191 2 16 := ElemOk.mk_ (z := .agg #[uq 0, wq4 0]) Tryz.underlying291 (by kernel_rfl) rfl (by omega)
theorem yZ8 : ElemOk Tryz.prog 257 3 1 8 := ElemOk.mk_ (z := iq (0 : Nat)) Tryz.underlying257 (by kernel_rfl) rfl (by omega)
theorem vT7 : ∀ (ts : List Tx) (o : Nat), (ctsF o ts).length = ts.length
 | [], _ => rfl
 | t :: r, o => by rw [ctsF, lD, vT7 r, lD]
theorem wR7 : ∀ (ts : List Tx) (o k : Nat) (t : Tx), ts[k]? = some t → (ctsF o ts)[k]? = some (o + (ts.take k).flatten.length, t.length)
 | [], _, _, _, h => by simp at h
 | x :: r, o, 0, t, h => by
  simp only [xA, qD] at h
  subst h
  simp [ctsF]
 | x :: r, o, k + 1, t, h => by
  rw [xC] at h
  rw [ctsF, xC, wR7 r _ k t h]
  simp only [lK, zW, lN]
  rw [qP]
theorem vF8 : ∀ (ts : List Tx) (o : Nat) (s : Tx), ctsF o (ts ++ [s]) = ctsF o ts ++ [(o + ts.flatten.length, s.length)]
 | [], o, s => by simp [ctsF]
 | x :: r, o, s => by
  rw [lL, ctsF, vF8 r, ctsF, lL, zW, lN, qP]
theorem vL7 : ∀ (ts : List Tx) (k : Nat) (t : Tx), ts[k]? = some t → (ts.take k).flatten.length + t.length ≤ ts.flatten.length ∧ (ts.flatten.drop (ts.take k).flatten.length).take t.length = t
 | [], _, _, h => by simp at h
 | x :: r, 0, t, h => by
  simp only [xA, qD] at h
  subst h
  simp
 | x :: r, k + 1, t, h => by
  rw [xC] at h
  obtain ⟨h1, h2⟩ := vL7 r k t h
  simp only [lK, zW, lN]
  refine ⟨by omega, ?_⟩
  rw [← List.drop_drop, uC]
  exact h2
def fdQ : Nat → List Tx → Tx → Option (Nat × Nat)
 | _, [], _ => none
 | o, t :: r, s => if t = s then some (o, s.length) else fdQ (o + t.length) r s
theorem jW3 : ∀ (ts : List Tx) (o : Nat) (s : Tx), fdQ o ts s = none ↔ s ∉ ts
 | [], _, _ => by simp [fdQ]
 | t :: r, o, s => by
  rw [fdQ]
  split
  ·rename_i h; simp [h]
  ·rename_i h
   rw [jW3 r]
   simp only [lW, not_or]
   exact ⟨fun x => ⟨fun e => h e.symm, x⟩, fun x => x.2⟩
theorem vT1 : ∀ (ts : List Tx) (o k : Nat) (s : Tx), ts.Nodup → ts[k]? = some s → fdQ o ts s = some (o + (ts.take k).flatten.length, s.length)
 | [], _, _, _, _, h => by simp at h
 | x :: r, o, 0, t, _, h => by
  simp only [xA, qD] at h
  subst h
  simp [fdQ]
 | x :: r, o, k + 1, t, hn, h => by
  rw [xC] at h
  have hne : x ≠ t := fun e => (List.nodup_cons.1 hn).1 (e ▸ xN h)
  rw [fdQ, if_neg hne, vT1 r _ k t (List.nodup_cons.1 hn).2 h]
  simp only [lK, zW, lN]
  rw [qP]
structure Bk where
 key : Nat
 g : Nat
 c : Nat
 ks : List Nat
abbrev Bk.v (b : Bk) : Value := .slice (some ⟨b.g, 0, none⟩) b.ks.length b.c
abbrev iqL (l : List Nat) : List Value := l.map fun k => iq (k : Nat)
abbrev Bk.e (b : Bk) : Ent := .ob b.g (RowP 3 1 b.ks.length b.c (iqL b.ks))
abbrev bkM (B : List Bk) : List (Nat × Value) := B.map fun b => (b.key, b.v)
abbrev bkH (B : List Bk) : Heap := B.map Bk.e
def bkOf (B : List Bk) (key : Nat) : Option Bk := B.find? fun b => b.key == key
theorem yM6 : ∀ (B : List Bk) (key : Nat), aget (bkM B) key = (bkOf B key).map Bk.v
 | [], _ => rfl
 | b :: r, key => by
  show (if b.key = key then some b.v else aget (bkM r) key) = _
  unfold bkOf
  rw [List.find?_cons]
  by_cases h : b.key = key
  ·rw [if_pos h, beq_iff_eq.2 h]; rfl
  ·rw [if_neg h, yM6 r key, beq_eq_false_iff_ne.2 h]; rfl
structure BkOk (ts : List Tx) (B : List Bk) : Prop where
 nd : (B.map Bk.key).Nodup
 lt : ∀ b ∈ B, b.ks.length ≤ ts.length ∧ ∀ k ∈ b.ks, k < ts.length
 all : ∀ k t, ts[k]? = some t → ∃ b ∈ B, b.key = fnvQ t ∧ k ∈ b.ks
theorem vG2 : ∀ {B : List Bk} {b : Bk}, (B.map Bk.key).Nodup → b ∈ B → bkOf B b.key = some b
 | [], _, _, h => by cases h
 | x :: r, b, hn, h => by
  unfold bkOf
  rw [List.find?_cons]
  rcases List.mem_cons.1 h with rfl | h
  ·simp
  ·have : x.key ≠ b.key := fun e => (List.nodup_cons.1 hn).1 (e ▸ List.mem_map.2 ⟨b, h, rfl⟩)
   rw [beq_eq_false_iff_ne.2 this]
   exact vG2 (List.nodup_cons.1 hn).2 h
def bkK (B : List Bk) (key : Nat) : List Nat := match bkOf B key with | some b => b.ks | none => []
def bkV (B : List Bk) (key : Nat) : Value := match bkOf B key with | some b => b.v | none => .slice none 0 0
theorem yM7 (B : List Bk) (key : Nat) : RowOk (bkV B key) (bkK B key).length := by
 unfold bkV bkK
 cases bkOf B key with
 | none => exact kI
 | some b => exact RowOk.mk _ _ _
theorem wT1 (B : List Bk) (key : Nat) : ((aget (bkM B) key).map fun v => v).getD (.slice none 0 0) = bkV B key := by
 rw [yM6]
 unfold bkV
 cases bkOf B key <;> rfl
theorem wT3 {ts : List Tx} {B : List Bk} (h : BkOk ts B) (key : Nat) : (bkK B key).length ≤ ts.length ∧ ∀ k ∈ bkK B key, k < ts.length := by
 unfold bkK
 cases hb : bkOf B key with
 | none => exact ⟨lZ _, fun k hk => by cases hk⟩
 | some b => exact h.lt b (List.mem_of_find?_eq_some hb)
theorem wT4 {ts : List Tx} {B : List Bk} (h : BkOk ts B) {k : Nat} {t : Tx} (hk : ts[k]? = some t) : k ∈ bkK B (fnvQ t) := by
 obtain ⟨b, hb, h1, h2⟩ := h.all k t hk
 unfold bkK
 rw [← h1, vG2 h.nd hb]
 exact h2
theorem zG4 {w : World} {g o n off len : Nat} {xs : List Value} (h : Rd w 1 (some ⟨g, o, none⟩) n xs) (hl : off + len ≤ n) : Rd w 1 (some ⟨g, o + off, none⟩) len ((xs.drop off).take len) := by
 obtain ⟨h1, h2, h3⟩ := h
 refine ⟨by rw [xV, qF]; omega, fun h => absurd h (by simp), fun h0 => ?_⟩
 obtain ⟨g', o', he, hlt, hc⟩ := h3 (by omega)
 injection he with he
 injection he with he1 he2 _
 subst he1; subst he2
 refine ⟨g, o + off, rfl, hlt, fun j u hu => ?_⟩
 rw [zS] at hu
 split at hu
 ·rw [zJ] at hu
  rw [qP]
  exact hc _ _ hu
 ·cases hu
theorem zQ6 {w : World} {gt n o o' len m : Nat} {l : Tx} (h : Rd w 1 (some ⟨gt, 0, none⟩) n (bv l)) (ho' : (o : Int) < ((o + len : Nat) : Int) → o' = 0 + (o : Int).toNat * 1) (hol : o + len ≤ n) (hl : l.length = n) (hm : m = len) : Rd w 1 (some ⟨gt, o', none⟩) m (bv ((l.drop o).take len)) := by
 subst hm
 rcases zM m with h0 | h0
 ·subst h0
  exact ⟨by simp [bv], fun h => absurd h (by simp), fun h => absurd h (by omega)⟩
 ·have := ho' (by omega)
  simp only [x4, qN] at this
  subst this
  have := zG4 h hol
  unfold bv
  rw [List.map_take, List.map_drop]
  exact this
theorem yF6 (o l : Nat) (ho : o ≤ 1000000000) (hl : l ≤ 1000000000) : Fn Tryz.prog 263 [ctV (o, l)] [] fun v _ => v = uq (o + l) := by
 refine fE 9 Tryz.func263 rfl (fun w0 => aR (fun Z hZ => jB2 (fun g1 => ?_)))
 refine sAN hZ rfl rfl <| f1K 1 rfl <| aR (fun Z hZ => sFA0 kU3 ?_)
 first | refine sL0 0 tyA61 tyS61 ?_
 refine sFA0 vO3 ?_
 first | refine sL0 0 tyA180 tyS180 ?_
 refine jD0 Tryz.underlying180 Tryz.underlying61 rfl ((l : Nat) : Int) (by rw [xK _ (by omega)]) rfl ?_
 refine jB7 rfl rfl ((o + l : Nat) : Int) (by rw [xK _ (by omega)]; omega) rfl ?_
 refine sAN hZ rfl rfl <| f1K 2 rfl <| aE <| nR10 rfl
theorem zQ8 (gp gt n c : Nat) (pv mv : Value) (l : Tx) (o len : Nat) (hlen : l.length = n) (hnc : n ≤ c) (hn : n ≤ 1000000000) (ho : o + len ≤ n) :
  Fn Tryz.prog 221 [ptr gp 0, ctV (o, len)] [.ro gp 0 [.slice (some ⟨gt, 0, none⟩) n c, pv, mv], .ro gt 0 (bv l)] fun v _ => v = .string (str ((l.drop o).take len)) := by
 refine fE 15 Tryz.func221 rfl (fun w0 => aR (fun Z hZ => jB2 (fun g1 => ?_)))
 refine sAN hZ rfl rfl <| f2K 0 3 rfl <| jC1 jF1 (by kernel_rfl) (fun Z hZ => ?_)
 refine qM rfl rfl <| jC7 rfl rfl <| qFA0 jY9 ?_
 refine jK1 1 rfl rfl 0 rfl tyA72 tyS72 rfl rfl <| qFA0 kU3 ?_
 refine jA9 0 tyA61 tyS61 ?_
 refine jM6 0 rfl rfl tyA191 tyS191 rfl (by simp only [qS, Value.cells]; rfl) rfl ?_
 refine jG2 (yF6 o len (by omega) (by omega)) rfl rfl ?_
 refine jV8 (i := (o : Int)) (j := ((o + len : Nat) : Int)) Tryz.underlying72 tyS5 rfl rfl rfl (by omega) (by omega) (by omega) rfl (fun o' ho' => ?_)
 refine yR2 (l := (l.drop o).take len) Tryz.underlying72 Tryz.underlying5 Tryz.underlying9 rfl (fun w hw => zQ6 (yA3 (i := 2) rfl (by rw [jF9]; omega) hw) ho' ho hlen (by simp; omega)) rfl ?_
 refine jB8 rfl rfl <| jE9 (hZ _ _ <| f1K 4 rfl <| aE <| nR10 rfl)
theorem yG7 {P : Program} {N : Frm} {w0 : World} {Wr : List Nat} {fr : Fr} {H : Heap} {Q : Exit → Act → World → Prop} {c : Code} {p : Prop} (hp : ∀ w, Sat w0 Wr H w → p) (h : p → awp P N w0 Wr c fr H Q) : awp P N w0 Wr c fr H Q :=
 fun a w ha hw => h (hp w hw) a w ha hw
theorem row_cap {w0 w : World} {Wr : List Nat} {H : Heap} {i g n c size : Nat} {e : TypeId} {xs : List Value} (hH : H[i]? = some (.ob g (RowP e size n c xs))) (hw : Sat w0 Wr H w) : n ≤ c ∧ c ≤ maxLen := by
 obtain ⟨ob, _, cur, _, h2, h3, _⟩ := hw.mem hH
 exact ⟨h2, h3⟩
abbrev bkE (gm : Nat) (B : List Bk) : Ent := mapE (fun k : Nat => uq k) (fun v : Value => v) gm (bkM B)
def fdV : Option (Nat × Nat) → Value
 | some c => .tuple #[ctV c, .bool true]
 | none => .tuple #[ctV (0, 0), .bool false]
theorem wA3 (w : World) : (zeroValue 257).run Tryz.prog w = .ok (.slice none 0 0) w := by kernel_rfl
theorem zI9 {l : List Nat} {i k : Nat} (h : l[i]? = some k) : rdV false 1 (iqL l) (i * 1) = some (iq (k : Nat)) := by
 rw [qN]
 unfold rdV
 simp [h]
theorem yY8 (gp gm : Nat) (ts : List Tx) (B : List Bk) (tv pv : Value) (s : Tx) (hok : BkOk ts B) (hn : ts.Nodup) (hne : ∀ t ∈ ts, t ≠ []) (htv : RowOk tv ts.flatten.length) (hpv : RowOk pv ts.length)
  (hfl : ts.flatten.length ≤ 1000000000) (hts : ts.length ≤ 1000000) (hs : s.length ≤ 9223372036854775807) :
  Fn Tryz.prog 161 [ptr gp 0, .string (str s)] (.own gp 294 [tv, pv, .map (some gm)] :: bkE gm B :: (rowE tv 5 1 (bv ts.flatten) ++ (rowE pv 191 2 (jI9 (ctsF 0 ts)) ++ rowE (bkV B (fnvQ s)) 3 1 (iqL (bkK B (fnvQ s))))))
   fun v H' => v = fdV (fdQ 0 ts s) ∧ H' = .own gp 294 [tv, pv, .map (some gm)] :: bkE gm B :: (rowE tv 5 1 (bv ts.flatten) ++ (rowE pv 191 2 (jI9 (ctsF 0 ts)) ++ rowE (bkV B (fnvQ s)) 3 1 (iqL (bkK B (fnvQ s))))) := by
 have hget := wT1 B (fnvQ s)
 have hbo := yM7 B (fnvQ s)
 obtain ⟨hkl, hkt⟩ := wT3 hok (fnvQ s)
 have hall := fun k => wT4 (k := k) (t := s) hok
 have hfs := vL3 s hs
 obtain ⟨q, hq⟩ := xZ9 (fnvQ s)
 rw [hq] at hget hbo hkl hkt hall hfs ⊢
 obtain ⟨ks, hks⟩ := xZ9 (bkK B q)
 obtain ⟨vb, hvb⟩ : ∃ v, bkV B q = v := ⟨_, rfl⟩
 rw [hks] at hbo hkl hkt hall
 rw [hvb] at hget hbo
 rw [hks, hvb]
 clear hvb
 obtain ⟨Ab, cb, rfl, hAb⟩ := hbo.form
 refine fE 39 Tryz.func161 rfl (fun w0 => aR (fun Z hZ => sAl tyZ191 rfl (fun g1 => sAN hZ rfl rfl <| f3K 0 1 4 rfl <| aS <| aR fun Z hZ => sM rfl rfl <| jN1 Tryz.underlying185 rfl rfl <| sN (hZ _ _ <| f4K 0 1 4 10 rfl ?_))))
 refine aC0 (fun h => ?_) (fun h => ?_)
 ·cases h
 refine aK <| nN <| aS <| jD5 _ [(0, true), (1, true), (2, true), (3, true), (4, true), (5, false), (6, true), (7, true), (8, true)] jF1 (by kernel_rfl) (HLe.pick [1, 2] (by simp) (by simp only [pick, l8, qS]; rfl)) (fun Z hZ => ?_)
 refine tw_p rfl <| jA5 ?_
 refine vN <| tw_p rfl <| jC0 rfl rfl <| vN <| tw_p rfl <| jA3 jV5 ?_
 refine vN <| tw_p rfl <| jD6 0 rfl rfl tyA292 tyS292 rfl rfl <| vN <| tw_p rfl <| jA5 ?_
 refine vN <| tw_g rfl <| sCP0 hfs ?_
 refine sN ⟨pH [1, 2] rfl, ?_⟩
 refine tw_p rfl <| vC1 1 keyU Tryz.underlying292 wA3 q _ rfl rfl rfl hget rfl <| vN <| tw_p rfl <| jZ6 Tryz.underlying257 rfl rfl <| vN <| tw_p rfl <| jA5 ?_
 refine vN <| jH1 (hZ _ _ <| f6K 0 1 4 18 19 20 rfl ?_)
 have hnf : ∀ k, k ∈ ks → ∀ t, ts[k]? = some t → t = s → fdQ 0 ts s = some ((ts.take k).flatten.length, s.length) := fun k _ t ht he => by
  subst he
  rw [vT1 ts 0 k t hn ht, lA]
 refine aB ?_
 refine jC3 (ι := Nat) (fun i => [(0, ptr gp 0), (1, .string (str s)), (4, ptr g1 0), (18, .slice Ab ks.length cb), (19, iq (ks.length : Nat)), (20, iq (i : Nat))])
  (fun _ => .own g1 191 [uq 0, wq4 0] :: .own gp 294 [tv, pv, .map (some gm)] :: bkE gm B :: (rowE tv 5 1 (bv ts.flatten) ++ (rowE pv 191 2 (jI9 (ctsF 0 ts)) ++ rowE (.slice Ab ks.length cb) 3 1 (iqL ks))))
  (fun i => i ≤ ks.length ∧ ∀ j k t, j < i → ks[j]? = some k → ts[k]? = some t → t ≠ s) (fun i => ks.length - i) 0 ⟨by simp, fun j k t hj => by omega⟩ (kR rfl) (hV _) ?_
 rintro i ⟨hi, hbef⟩
 refine aR (fun Z hZ => jB0 ?_)
 refine sN (hZ _ _ <| f7K 0 1 4 18 19 20 21 rfl <| aS (aC0 (fun h1 => ?_) (fun h1 => ?_)))
 ·have hlt : i < ks.length := by simpa using h1
  obtain ⟨k, hk⟩ : ∃ k, ks[i]? = some k := ⟨_, xF hlt⟩
  have hkm := xN hk
  have hkts := hkt k hkm
  obtain ⟨t, ht⟩ : ∃ t, ts[k]? = some t := ⟨_, xF hkts⟩
  obtain ⟨hf1, hf2⟩ := vL7 ts k t ht
  have htp : 0 < t.length := List.length_pos_iff.2 (hne t (xN ht))
  have hct := wR7 ts 0 k t ht
  rw [lA] at hct
  obtain ⟨o, ho⟩ := xZ9 ((ts.take k).flatten.length)
  have hnf1 := hnf k hkm t ht
  rw [ho] at hf1 hf2 hct hnf1
  obtain ⟨gt, ct, rfl⟩ := htv.some (by omega)
  obtain ⟨gl, cl, rfl⟩ := hpv.some (by omega)
  obtain ⟨gb, cb', heb⟩ := hbo.some (by omega)
  injection heb with he1 _ he2
  subst he1; subst he2
  refine jA7 [.own g1 191 [uq 0, wq4 0], .own gp 294 [.slice (some ⟨gt, 0, none⟩) ts.flatten.length ct, .slice (some ⟨gl, 0, none⟩) ts.length cl, .map (some gm)], bkE gm B, .ob gt (RowP 5 1 ts.flatten.length ct (bv ts.flatten)), .ob gl (RowP 191 2 ts.length cl (jI9 (ctsF 0 ts))), .ob gb (RowP 3 1 ks.length cb (iqL ks))] (hV _) <| yG7 (fun w hw => row_cap (i := 3) rfl hw) (fun hcap => ?_)
  have hat := zQ8 gp gt ts.flatten.length ct (.slice (some ⟨gl, 0, none⟩) ts.length cl) (.map (some gm)) ts.flatten o t.length rfl hcap.1 hfl hf1
  rw [hf2] at hat
  refine aK <| nN <| aS (aB <| aR (fun Z hZ => jA8 (0 + i * 1) Tryz.underlying257 tyS3 rfl rfl (by omega) (by simp) rfl ?_))
  refine jN2 (i * 1) rfl rfl (fun w hw => jS6 (i := 5) rfl hw) (by omega) tyA3 tyS3 (zI9 hk) rfl ?_
  refine sAN hZ rfl rfl <| f7K 0 1 4 7 18 19 20 rfl <| aR fun Z hZ => sM rfl rfl <| jA1 ?_
  refine sFA0 jY8 ?_
  refine sL0 1 tyA291 tyS291 ?_
  refine sM rfl rfl <| jA8 (0 + k * 2) Tryz.underlying291 tyS191 rfl rfl (by omega) (by simp) rfl ?_
  refine jN2 (k * 2) rfl rfl (fun w hw => jS6 (i := 4) rfl hw) (by omega) tyA191 tyS191 (vM7 hct) rfl ?_
  refine sAl tyZ191 rfl (fun g2 => sS0 0 tyS191 ?_)
  refine sN (hZ _ _ <| f7K 0 1 4 8 18 19 20 rfl <| aR fun Z hZ => sM rfl rfl <| sLA0 0 tyA191 tyS191 ?_)
  refine jO0 [.ro gp 0 _, .ro gt 0 _] hat rfl ((HLe.toRo [] [_]).trans ((HLe.rowRo [_] []).trans (pH [2, 4] rfl))) (by intro x hx; simp at hx; rcases hx with rfl | rfl <;> rfl) rfl ?_
  refine sM rfl rfl <| jQ1 rfl rfl rfl <| sN (hZ _ _ <| f8K 0 1 4 8 18 19 20 35 rfl <| aC0 (fun h2 => ?_) (fun h2 => ?_))
  ·have h2' : t = s := by simpa using h2
   rw [hnf1 h2', ← h2']
   refine aR (fun Z hZ => sLA0 0 tyA191 tyS191 ?_)
   refine sS0 1 tyS191 ?_
   refine sAN hZ rfl rfl ?_
   refine f2K 4 5 rfl ?_
   refine aE ?_
   repeat (with_reducible (first | refine nTR ?_ | refine nBR ?_))
   exact jD8 _ rfl (kH 1 rfl rfl tyA191 tyS191 rfl) rfl (kC 2 rfl) ⟨rfl, rfl⟩
  have h2' : ¬ t = s := by simpa using h2
  refine aK ?_
  repeat (with_reducible refine nBN ?_)
  refine nN ?_
  refine aG (fun Z hZ => ?_)
  refine jB7 rfl rfl ((i + 1 : Nat) : Int) (by rw [lT _ (by omega)]; omega) rfl ?_
  refine sMN hZ rfl rfl <| nF [(0, _), (1, _), (4, _), (18, _), (19, _), (20, _)] (kR rfl) <| jC2 (i + 1) ⟨hlt, fun j k' t' hj hk' ht' => ?_⟩ (by omega) (kR rfl) (kC 1 rfl)
  rcases xX j i with h5 | h5
  ·exact hbef j k' t' h5 hk' ht'
  ·obtain rfl : j = i := by omega
   rw [hk] at hk'
   injection hk' with hk'
   subst hk'
   rw [ht] at ht'
   injection ht' with ht'
   subst ht'
   exact h2'
 ·refine jB5 ?_
  repeat (with_reducible refine nTE ?_)
  refine nBE ?_
  refine nN ?_
  have hke : i = ks.length := by simp at h1; omega
  subst hke
  have hno : fdQ 0 ts s = none := by
   rw [jW3]
   intro hm
   obtain ⟨k, hkl', hks'⟩ := List.getElem_of_mem hm
   have hk1 : ts[k]? = some s := by rw [xF hkl', hks']
   have := hall k hk1
   obtain ⟨j, hj, hj'⟩ := List.getElem_of_mem this
   exact hbef j k s hj (by rw [xF hj, hj']) hk1 rfl
  rw [hno]
  refine aR (fun Z hZ => jB6 tyZ191 tyP191 ?_)
  refine sS0 0 tyS191 ?_
  refine sAN hZ rfl rfl <| f2K 4 5 rfl <| aE <| jD8 _ rfl (kH 0 rfl rfl tyA191 tyS191 rfl) rfl (kC 1 rfl) ⟨rfl, rfl⟩
end V
section
open Go.RowKit
def yS2 : Go.Shelf.Ren := ⟨fun n => match n with | 25 => 222 | _ => 0, fun n => match n with | 0 => 0 | 3 => 3 | 4 => 4 | 5 => 5 | 9 => 9 | 37 => 72 | 47 => 143 | _ => 0, fun n => match n with | _ => 0⟩
theorem scl0 : LaysPu.n25 Tryz.prog yS2 := by constructor <;> first | kernel_rfl | (intro w; kernel_rfl)
theorem wP0 : Enters Tryz.prog 222 := Enters.mk Tryz.func222 (by kernel_rfl) (by kernel_rfl)
theorem zG2 (s : List UInt8) (h : s.length ≤ 281474976710656) : Fn Tryz.prog 222 [.string (str s)] [] fun v _ => v = .string (str s) :=
 Fn.of_bel wP0 fun w => (AnyPu.stringslite_Clone scl0 (str s) w (by rw [str_size]; exact h)).mono fun e w' ⟨he, a, b, c, d, f⟩ => ⟨he, a, b, c, d, f⟩
theorem wG7 (s : List UInt8) (h : s.length ≤ 281474976710656) : Fn Tryz.prog 163 [.string (str s)] [] fun v _ => v = .string (str s) := by
 refine fE 5 Tryz.func163 rfl (fun w0 => aA rfl rfl <| f1K 0 rfl <| aR fun Z hZ => sM rfl rfl <| sCP0 (zG2 s h) ?_)
 refine sAN hZ rfl rfl <| f1K 2 rfl <| aE ?_
 repeat (with_reducible (first | refine nTR ?_ | refine nBR ?_ | refine jD4 ?_))
 exact nR10 rfl
end
namespace V
open Go.RowKit
set_option maxRecDepth 100000
section
variable {P : Program} {N : Frm} {w0 : World} {Wr : List Nat} {ops : Array Oper} {rest : List Oper} {fr : Fr} {H : Heap} {Z : Fr → Heap → Prop} {d ty : Nat} {pos : String} {after : Array Edge}
theorem vB6 {f : FuncId} {xs : List Operand} {vs : List Value} (hx : evs fr xs = some vs) (hN : bN d N)
  (h : sx P N w0 Wr ops rest ((d, .func (.func f) vs.toArray #[]) :: fr) H Z) : sx P N w0 Wr ops (⟨some d, .makeFunc (.func f) xs.toArray #[], ty, pos, after, none⟩ :: rest) fr H Z :=
 jE4 _ hN (fun a w ha hw => by
  have := ha.evals hx
  subst this
  simp [execOp, Instr.makeFunc, l7]) h
theorem vX2 {f : FuncId} {bs : List Value} {vs : List Value} (hE : Enters P f) {x : Operand} {xs : List Operand} {ts : Array TypeId} {ρ : Operand → Value} (hx : xs.map ρ = vs) (hf : ρ x = .func (.func f) bs.toArray #[]) {dst : Option Nat} {w : World} :
  (execOp ρ ⟨dst, .call { callee := .value x, args := xs.toArray, argTypes := ts }, ty, pos, after, none⟩).run P w = .ok (.enter f (bs ++ vs).toArray) w := by
 obtain ⟨fn, h1, h2, h3⟩ := hE
 subst hx
 have h2' : ¬ (fn.name = "runtime.NumGoroutine") := by simpa using h2
 have h3' : ¬ (fn.body = none) := by intro e; rw [e] at h3; cases h3
 simp [execOp, resolve, hf, Deferred.ofValue, invoke, callFunc, h1, h2', h3', program, lJ, l7, Sem.run]
theorem wE1 {f : FuncId} {bs : List Value} {x : Operand} {xs : List Operand} {vs : List Value} {ts : Array TypeId} {dst : Option Nat} {Hc : Heap} {R : Value → Heap → Prop} (K : Heap) (hc : Fn P f (bs ++ vs) Hc R) (hf : ev fr x = some (.func (.func f) bs.toArray #[])) (hx : evs fr xs = some vs) (hH : HLe (Hc ++ K) H) (hN : dstB N dst = true)
  (h : ∀ v H', R v H' → sx P N w0 Wr ops rest (match dst with | some d => (d, v) :: fr | none => fr) (H'.filter Ent.wr ++ K) Z) :
  sx P N w0 Wr ops (⟨dst, .call { callee := .value x, args := xs.toArray, argTypes := ts }, ty, pos, after, none⟩ :: rest) fr H Z :=
 vB3 rfl fun a w K' Q ha hw hK => by
  unfold Oper.wp
  rw [vX2 hc.1 (ha.evals hx) (ha.eval hf)]
  have hw' := hH _ _ _ hw
  have hpre : Sat w (wrs Hc) Hc w := ⟨Only.refl _ _, fun e he => ⟨(hw'.ents e (xI _ he)).1, fun h => .inl (mem_wrs.2 ⟨e, he, h, rfl⟩)⟩, (List.pairwise_append.1 hw'.sep).1⟩
  refine (hc.2 w hpre).mono fun e w' he => ?_
  obtain ⟨v, H', rfl, hR, hS⟩ := he
  have hS' := Sat.callA (U := []) hw' Ro.nil (by rw [lH]; exact hS)
  cases dst with
  | none => exact hK v w' fr _ (h v H' hR) (ha.skip _) hS'
  | some d => exact hK v w' _ _ (h v H' hR) (ha.put hN v) hS'
end
theorem Fn.frame {P : Program} {f : FuncId} {vs : List Value} {x : Value} {Hc K H : Heap} (hc : Fn P f vs Hc fun v H' => v = x ∧ H' = Hc) (hw : Wrs Hc) (hp : H.Perm (Hc ++ K)) : Fn P f vs H fun v H' => v = x ∧ H' = H :=
 ⟨hc.1, fun w hS => by
  have hS2 : Sat w (wrs H) (Hc ++ K) w := hS.perm hp
  have hpre : Sat w (wrs Hc) Hc w := ⟨Only.refl _ _, fun e he => ⟨(hS2.ents e (xI _ he)).1, fun h => .inl (mem_wrs.2 ⟨e, he, h, rfl⟩)⟩, (List.pairwise_append.1 hS2.sep).1⟩
  refine (hc.2 w hpre).mono fun e w' he => ?_
  obtain ⟨v, H', h1, ⟨h2, h3⟩, h4⟩ := he
  subst h3
  have h5 := Sat.callA (U := []) hS2 Ro.nil (by rw [lH]; exact h4)
  rw [hw.filter] at h5
  exact ⟨v, H, h1, ⟨h2, rfl⟩, h5.perm hp.symm⟩⟩
def vG3 : List Bk → Nat → List Bk
 | [], _ => []
 | b :: r, q => if b.key = q then r else b :: vG3 r q
def jO4 : List Bk → Bk → List Bk
 | [], x => [x]
 | b :: r, x => if b.key = x.key then x :: r else b :: jO4 r x
theorem wT2 : ∀ (B : List Bk) (x : Bk), bkM (jO4 B x) = aput (bkM B) x.key x.v
 | [], _ => rfl
 | b :: r, x => by
  show bkM (if b.key = x.key then x :: r else b :: jO4 r x) = if b.key = x.key then (x.key, x.v) :: bkM r else (b.key, b.v) :: aput (bkM r) x.key x.v
  split
  ·rfl
  ·rw [← wT2 r x]; rfl
theorem wT5 : ∀ (B : List Bk) (x : Bk), (bkH (jO4 B x)).Perm (bkH (vG3 B x.key) ++ [x.e])
 | [], x => List.Perm.refl _
 | b :: r, x => by
  unfold jO4 vG3
  split
  ·exact (List.perm_append_singleton x.e (bkH r)).symm
  ·exact List.Perm.cons _ (wT5 r x)
theorem vM9 : ∀ (B : List Bk) (q : Nat), (bkH B).Perm (bkH (vG3 B q) ++ rowE (bkV B q) 3 1 (iqL (bkK B q)))
 | [], q => List.Perm.refl _
 | b :: r, q => by
  by_cases h : b.key = q
  ·have hf : bkOf (b :: r) q = some b := by unfold bkOf; rw [List.find?_cons, beq_iff_eq.2 h]
   have h1 : bkV (b :: r) q = b.v := by unfold bkV; rw [hf]
   have h2 : bkK (b :: r) q = b.ks := by unfold bkK; rw [hf]
   rw [h1, h2, vG3, if_pos h]
   exact (List.perm_append_singleton b.e (bkH r)).symm
  ·have hf : bkOf (b :: r) q = bkOf r q := by unfold bkOf; rw [List.find?_cons, beq_eq_false_iff_ne.2 h]
   have h1 : bkV (b :: r) q = bkV r q := by unfold bkV; rw [hf]
   have h2 : bkK (b :: r) q = bkK r q := by unfold bkK; rw [hf]
   rw [h1, h2, vG3, if_neg h]
   exact List.Perm.cons _ (vM9 r q)
theorem kR9 : ∀ (B : List Bk) (x : Bk), (∀ k, k ∈ (jO4 B x).map Bk.key ↔ k = x.key ∨ k ∈ B.map Bk.key) ∧ ((B.map Bk.key).Nodup → ((jO4 B x).map Bk.key).Nodup) ∧ (∀ b ∈ jO4 B x, b = x ∨ b ∈ B) ∧ (∀ b ∈ B, b.key ≠ x.key → b ∈ jO4 B x) ∧ x ∈ jO4 B x
 | [], x => by simp [jO4]
 | b :: r, x => by
  obtain ⟨h1, h2, h3, h4, h5⟩ := kR9 r x
  unfold jO4
  split
  ·rename_i h
   refine ⟨fun k => by simp [h], fun hn => by simpa [h] using hn, fun y hy => ?_, fun y hy hk => ?_, lP⟩
   ·rcases List.mem_cons.1 hy with rfl | hy
    ·exact .inl rfl
    ·exact .inr (lU _ hy)
   ·rcases List.mem_cons.1 hy with rfl | hy
    ·exact absurd h hk
    ·exact lU _ hy
  ·rename_i h
   refine ⟨fun k => ?_, fun hn => ?_, fun y hy => ?_, fun y hy hk => ?_, lU _ h5⟩
   ·rw [xR, lW, h1, xR, lW]
    constructor
    ·rintro (h | h | h)
     ·exact .inr (.inl h)
     ·exact .inl h
     ·exact .inr (.inr h)
    ·rintro (h | h | h)
     ·exact .inr (.inl h)
     ·exact .inl h
     ·exact .inr (.inr h)
   ·rw [xR, qZ] at hn ⊢
    refine ⟨fun hm => ?_, h2 hn.2⟩
    rcases (h1 _).1 hm with hm | hm
    ·exact h hm
    ·exact hn.1 hm
   ·rcases List.mem_cons.1 hy with rfl | hy
    ·exact .inr lP
    ·exact (h3 y hy).imp id (lU _)
   ·rcases List.mem_cons.1 hy with rfl | hy
    ·exact lP
    ·exact lU _ (h4 y hy hk)
theorem BkOk.put {ts : List Tx} {B : List Bk} (h : BkOk ts B) (s : Tx) (g c : Nat) : BkOk (ts ++ [s]) (jO4 B ⟨fnvQ s, g, c, bkK B (fnvQ s) ++ [ts.length]⟩) := by
 obtain ⟨h1, h2, h3, h4, h5⟩ := kR9 B ⟨fnvQ s, g, c, bkK B (fnvQ s) ++ [ts.length]⟩
 obtain ⟨k1, k2⟩ := wT3 h (fnvQ s)
 refine ⟨h2 h.nd, fun b hb => ?_, fun k t ht => ?_⟩
 ·rw [lN, zY]
  rcases h3 b hb with rfl | hb
  ·refine ⟨by simp only [lN, zY]; omega, fun k hk => ?_⟩
   rcases List.mem_append.1 hk with hk | hk
   ·have := k2 k hk; omega
   ·have := List.mem_singleton.1 hk; omega
  ·obtain ⟨b1, b2⟩ := h.lt b hb
   exact ⟨by omega, fun k hk => by have := b2 k hk; omega⟩
 ·by_cases hk : k < ts.length
  ·rw [qE hk] at ht
   by_cases hq : fnvQ t = fnvQ s
   ·exact ⟨_, h5, hq.symm, xI _ (hq ▸ wT4 h ht)⟩
   ·obtain ⟨b, hb, b1, b2⟩ := h.all k t ht
    exact ⟨b, h4 b hb (by rw [b1]; exact hq), b1, b2⟩
  ·rw [qH (by omega)] at ht
   have hlt := (List.getElem?_eq_some_iff.1 ht).1
   simp only [zY] at hlt
   have hk0 : k - ts.length = 0 := by omega
   rw [hk0] at ht
   injection ht with ht
   subst ht
   exact ⟨_, h5, rfl, x7 _ (List.mem_singleton.2 (by omega))⟩
abbrev nilS : Value := .slice none 0 0
abbrev plK (gm : Nat) (ts : List Tx) (B : List Bk) (tv pv : Value) : Heap := bkE gm B :: (rowE tv 5 1 (bv ts.flatten) ++ (rowE pv 191 2 (jI9 (ctsF 0 ts)) ++ bkH B))
def PlOk (gm : Nat) (ts : List Tx) (B : List Bk) (tv pv : Value) : Prop := BkOk ts B ∧ RowOk tv ts.flatten.length ∧ RowOk pv ts.length
def PoolIs (gp : Nat) (ts : List Tx) (H : Heap) : Prop :=
 (ts = [] ∧ H = [.own gp 294 [nilS, nilS, .map none]]) ∨ ∃ gm B tv pv, PlOk gm ts B tv pv ∧ H = .own gp 294 [tv, pv, .map (some gm)] :: plK gm ts B tv pv
theorem zC0 (B : List Bk) : Wrs (bkH B) := fun e he => by
 obtain ⟨b, _, rfl⟩ := List.mem_map.1 he
 rfl
theorem yT9 (gm : Nat) (ts : List Tx) (B : List Bk) (tv pv : Value) : Wrs (plK gm ts B tv pv) := Wrs.cons rfl ((jL2 _ _ _ _).append ((jL2 _ _ _ _).append (zC0 B)))
theorem PoolIs.wrs {gp : Nat} {ts : List Tx} {H : Heap} (h : PoolIs gp ts H) : Wrs H := by
 rcases h with ⟨_, rfl⟩ | ⟨gm, B, tv, pv, _, rfl⟩
 ·exact Wrs.cons rfl Wrs.nil
 ·exact Wrs.cons rfl (yT9 _ _ _ _ _)
theorem yF2 (gp : Nat) (s : Tx) (hs : s.length ≤ 9223372036854775807) :
  Fn Tryz.prog 161 [ptr gp 0, .string (str s)] [.own gp 294 [nilS, nilS, .map none]] fun v H' => v = fdV none ∧ H' = [.own gp 294 [nilS, nilS, .map none]] := by
 have hfs := vL3 s hs
 refine fE 39 Tryz.func161 rfl (fun w0 => aR (fun Z hZ => sAl tyZ191 rfl (fun g1 => sAN hZ rfl rfl <| f3K 0 1 4 rfl <| aS <| aR fun Z hZ => sM rfl rfl <| jN1 Tryz.underlying185 rfl rfl <| sN (hZ _ _ <| f4K 0 1 4 10 rfl ?_))))
 refine aC0 (fun h => ?_) (fun h => ?_)
 ·cases h
 refine aK <| nN <| aS <| jD5 _ [(0, true), (1, true), (2, true), (3, true), (4, true), (5, false), (6, true), (7, true), (8, true)] jF1 (by kernel_rfl) (HLe.pick [1] (by simp) (by simp only [pick, l8, qS]; rfl)) (fun Z hZ => ?_)
 refine tw_p rfl <| jA5 ?_
 refine vN <| tw_p rfl <| jC0 rfl rfl <| vN <| tw_p rfl <| jA3 jV5 ?_
 refine vN <| tw_p rfl ?_
 first | refine jD6 0 rfl rfl tyA292 tyS292 rfl rfl ?_
 refine vN <| tw_p rfl <| jA5 ?_
 refine vN <| tw_g rfl <| sCP0 hfs ?_
 refine sN ⟨pH [1] rfl, ?_⟩
 refine tw_p rfl <| vC0 keyU Tryz.underlying292 wA3 (fnvQ s) _ rfl rfl rfl rfl <| vN <| tw_p rfl <| jZ6 Tryz.underlying257 rfl rfl <| vN <| tw_p rfl <| jA5 ?_
 refine vN <| jH1 (hZ _ _ <| f6K 0 1 4 18 19 20 rfl <| aB ?_)
 refine jC3 (ι := Unit) (fun _ => [(0, ptr gp 0), (1, .string (str s)), (4, ptr g1 0), (18, nilS), (19, iq (0 : Nat)), (20, iq (0 : Nat))])
  (fun _ => [.own g1 191 [uq 0, wq4 0], .own gp 294 [nilS, nilS, .map none]]) (fun _ => True) (fun _ => 0) () trivial (kR rfl) (hV _) ?_
 rintro ⟨⟩ -
 refine aR (fun Z hZ => jB0 ?_)
 refine sN (hZ _ _ <| f7K 0 1 4 18 19 20 21 rfl <| aS (aC0 (fun h1 => ?_) (fun h1 => ?_)))
 ·simp at h1
 ·refine jB5 ?_
  repeat (with_reducible refine nTE ?_)
  refine nBE ?_
  refine nN ?_
  refine aR (fun Z hZ => ?_)
  refine jB6 tyZ191 tyP191 ?_
  refine sS0 0 tyS191 ?_
  refine sAN hZ rfl rfl <| f2K 4 5 rfl <| aE <| jD8 _ rfl (kH 0 rfl rfl tyA191 tyS191 rfl) rfl (kC 1 rfl) ⟨rfl, rfl⟩
theorem yY7 {gp : Nat} {ts : List Tx} {H : Heap} (h : PoolIs gp ts H) (s : Tx) (hn : ts.Nodup) (hne : ∀ t ∈ ts, t ≠ []) (hfl : ts.flatten.length ≤ 1000000000) (hts : ts.length ≤ 1000000) (hs : s.length ≤ 9223372036854775807) :
  Fn Tryz.prog 161 [ptr gp 0, .string (str s)] H fun v H' => v = fdV (fdQ 0 ts s) ∧ H' = H := by
 rcases h with ⟨rfl, rfl⟩ | ⟨gm, B, tv, pv, ⟨h1, h2, h3⟩, rfl⟩
 ·exact yF2 gp s hs
 ·refine Fn.frame (K := bkH (vG3 B (fnvQ s))) (yY8 gp gm ts B tv pv s h1 hn hne h2 h3 hfl hts hs) (Wrs.cons rfl (Wrs.cons rfl ((jL2 _ _ _ _).append ((jL2 _ _ _ _).append (jL2 _ _ _ _))))) <| List.Perm.cons _ (List.Perm.cons _ (?_ : List.Perm (_ ++ (_ ++ _)) ((_ ++ (_ ++ _)) ++ _)))
  rw [xD, xD]
  refine qK _ (qK _ <| (vM9 B (fnvQ s)).trans qQ)
theorem HLe.perm {A B : Heap} (h : B.Perm A) : HLe A B := fun _ _ _ hw => hw.perm h
theorem yV8 {X T P B D R : Heap} (h : B.Perm (D ++ R)) : HLe ((X ++ (T ++ (P ++ D))) ++ R) (X ++ (T ++ (P ++ B))) := HLe.perm (by
 simp only [xD]
 exact qK X (qK T (qK P h)))
theorem yC8 {X T P B D R : Heap} (h : B.Perm (D ++ R)) : HLe (X ++ (T ++ (P ++ B))) ((X ++ (T ++ (P ++ D))) ++ R) := HLe.perm (by
 simp only [xD]
 exact qK X (qK T (qK P h.symm)))
theorem zI1 {X T P B : Heap} : HLe ((X ++ (T ++ B)) ++ P) (X ++ (T ++ (P ++ B))) := HLe.perm (by
 simp only [xD]
 exact qK X (qK T qQ))
theorem yV7 {X T P B : Heap} : HLe (X ++ (T ++ (P ++ B))) ((X ++ (T ++ B)) ++ P) := HLe.perm (by
 simp only [xD]
 exact qK X (qK T qQ))
theorem wK8 {X T B : Heap} : HLe ((X ++ B) ++ T) (X ++ (T ++ B)) := HLe.perm (by
 simp only [xD]
 exact qK X qQ)
theorem vK6 {X T B : Heap} : HLe (X ++ (T ++ B)) ((X ++ B) ++ T) := HLe.perm (by
 simp only [xD]
 exact qK X qQ)
theorem vD9 {gp : Nat} {ts : List Tx} {H : Heap} (h : PoolIs gp ts H) (s : Tx) (hfl : ts.flatten.length + s.length ≤ 1000000000) (hts : ts.length ≤ 1000000) (hs : s.length ≤ 65536) :
  Fn Tryz.prog 162 [ptr gp 0, .string (str s)] H fun v H' => v = ctV (ts.flatten.length, s.length) ∧ PoolIs gp (ts ++ [s]) H' := by
 have hfs := vL3 s (by omega)
 obtain ⟨q, hq⟩ := xZ9 (fnvQ s)
 rw [hq] at hfs
 obtain ⟨tv, pv, m, K, hH, htv, hpv, hm⟩ : ∃ tv pv m K, H = .own gp 294 [tv, pv, .map m] :: K ∧ RowOk tv ts.flatten.length ∧ RowOk pv ts.length ∧ ((m = none ∧ ts = [] ∧ tv = nilS ∧ pv = nilS ∧ K = []) ∨ ∃ gm B, m = some gm ∧ BkOk ts B ∧ K = plK gm ts B tv pv) := by
  rcases h with ⟨rfl, rfl⟩ | ⟨gm, B, tv, pv, ⟨h1, h2, h3⟩, rfl⟩
  ·exact ⟨nilS, nilS, none, [], rfl, kI, kI, .inl ⟨rfl, rfl, rfl, rfl, rfl⟩⟩
  ·exact ⟨tv, pv, some gm, _, rfl, h2, h3, .inr ⟨gm, B, rfl, h1, rfl⟩⟩
 subst hH
 obtain ⟨At, ct, rfl, hAt⟩ := htv.form
 obtain ⟨n, hn⟩ := xZ9 (ts.flatten.length)
 have hn' : n ≤ 1000000000 := by omega
 refine fE 66 Tryz.func162 rfl (fun w0 => aR (fun Z hZ => sAl tyZ191 rfl (fun g1 => sN (hZ _ _ <| f3K 0 1 4 rfl ?_))))
 rw [hn] at htv hfl ⊢
 refine aR fun Z hZ => sM rfl rfl <| jA1 ?_
 refine sFA0 jY9 ?_
 refine sL0 1 tyA72 tyS72 ?_
 refine jE5 Tryz.underlying72 rfl rfl <| jD0 Tryz.underlying3 Tryz.underlying61 rfl ((n : Nat) : Int) (by rw [xK _ (by omega)]) rfl ?_
 refine sM rfl rfl <| jC8 Tryz.underlying9 rfl rfl <| jD0 Tryz.underlying3 Tryz.underlying180 rfl ((s.length : Nat) : Int) (by rw [uH _ (by omega)]) rfl ?_
 refine jB6 tyZ191 tyP191 ?_
 refine sAl tyZ191 rfl (fun g2 => sS0 0 tyS191 ?_)
 refine sN (hZ _ _ <| f4K 0 1 4 5 rfl <| kN5 (ι := Nat × List Bk) (fun _ => [(0, ptr gp 0), (1, .string (str s)), (4, ptr g1 0), (5, ptr g2 0)]) (fun x => .own g2 191 [uq n, wq4 s.length] :: .own g1 191 [uq 0, wq4 0] :: .own gp 294 [.slice At n ct, pv, .map (some x.1)] :: plK x.1 ts x.2 (.slice At n ct) pv) (fun x => BkOk ts x.2) ?_ ?_)
 ·skip
  refine aR fun Z hZ => sM rfl rfl <| jA1 ?_
  refine sFA0 jV5 ?_
  refine sL0 2 tyA292 tyS292 ?_
  refine wD5 Tryz.underlying292 rfl rfl <| sN (hZ _ _ <| f5K 0 1 4 5 21 rfl <| aC0 (fun h2 => ?_) (fun h2 => ?_))
  ·obtain ⟨rfl, rfl, h3, rfl, rfl⟩ : m = none ∧ ts = [] ∧ Value.slice At n ct = nilS ∧ pv = nilS ∧ K = [] := by
    rcases hm with hm | ⟨gm, B, rfl, _⟩
    ·rw [hn] at hm; exact hm
    ·cases h2
   injection h3 with h4 h5 h6
   subst h4; subst h5; subst h6
   refine aG (fun Z hZ => sM rfl rfl <| kP2 rfl (fun k : Nat => uq k) (fun v : Value => v) (fun gm => jA1 ?_))
   refine sFA0 jV5 ?_
   refine sS10 3 tyS292 ?_
   refine sN (hZ _ _ <| nF [(0, _), (1, _), (4, _), (5, _)] (kR rfl) <| jJ9 (gm, []) ⟨List.nodup_nil, fun b hb => absurd hb (by simp), fun k t ht => absurd ht (by simp)⟩ (kR rfl) (pH [1, 2, 3, 0] rfl))
  ·obtain ⟨gm, B, rfl, hok, rfl⟩ : ∃ gm B, m = some gm ∧ BkOk ts B ∧ K = plK gm ts B (.slice At n ct) pv := by
    rcases hm with ⟨rfl, _⟩ | hm
    ·cases h2
    ·rw [hn] at hm; exact hm
   refine aK <| jJ9 (gm, B) hok (kR rfl) (hV _)
 rintro ⟨gm, B⟩ hok
 simp only at hok ⊢
 refine aR fun Z hZ => sM rfl rfl <| sCP0 hfs ?_
 refine sAN hZ rfl rfl <| f5K 0 1 4 5 6 rfl ?_
 have hget := wT1 B q
 have hbo := yM7 B q
 have hbd := vM9 B q
 have hokp := fun g c => BkOk.put hok s g c
 have hkl := (wT3 hok q).1
 rw [hq] at hokp
 obtain ⟨ks, hks⟩ := xZ9 (bkK B q)
 obtain ⟨vb, hvb⟩ : ∃ v, bkV B q = v := ⟨_, rfl⟩
 rw [hks] at hbo hbd hokp hkl
 rw [hvb] at hget hbo hbd
 clear hvb
 obtain ⟨Ab, cb, rfl, hAb⟩ := hbo.form
 obtain ⟨Ap, cp, rfl, hAp⟩ := hpv.form
 refine jX2 _ [(0, true), (1, true), (2, true), (3, true), (4, true), (5, true), (6, true), (7, true), (8, true), (9, true), (10, true), (11, true), (12, true), (13, true), (14, true), (15, true), (16, false), (17, false)] 18 rfl jF1 (by kernel_rfl) (HLe.pick [2, 3] (by simp) (by simp only [pick, l8, qS]; rfl)) (fun Z hZ => ?_)
 refine tw_p rfl <| jA5 ?_
 refine vN <| tw_p rfl <| jC0 rfl rfl <| vN <| tw_p rfl <| jA3 jV5 ?_
 refine vN <| tw_p rfl <| jD6 0 rfl rfl tyA292 tyS292 rfl rfl <| vN <| tw_p rfl <| jA5 ?_
 refine vN <| tw_p rfl <| jA5 ?_
 refine vN <| tw_p rfl <| jC0 rfl rfl <| vN <| tw_p rfl <| jA3 jV5 ?_
 refine vN <| tw_p rfl <| jD6 0 rfl rfl tyA292 tyS292 rfl rfl <| vN <| tw_p rfl <| jA5 ?_
 refine vN <| tw_p rfl <| vC1 1 keyU Tryz.underlying292 wA3 q _ rfl rfl rfl hget rfl <| vN <| tw_p rfl <| jA5 ?_
 refine vN <| tw_p rfl <| jC0 rfl rfl <| vN <| tw_p rfl <| jA3 jY8 ?_
 refine vN <| tw_p rfl <| jD6 0 rfl rfl tyA291 tyS291 rfl rfl <| vN <| tw_p rfl <| jZ6 Tryz.underlying291 rfl rfl <| vN <| tw_g rfl <| sBS0 Tryz.underlying257 tyS3 tyZ3 (fun g3 => ?_)
 refine sN ⟨pH [3, 4] rfl, ?_⟩
 refine tw_g rfl <| jD3 (xs := iqL ks) (_ :: _ :: _ :: _ :: bkE gm B :: (rowE _ 5 1 (bv ts.flatten) ++ (rowE _ 191 2 (jI9 (ctsF 0 ts)) ++ bkH (vG3 B q)))) yZ8 rfl hbo (by simp) rfl (fun w hw => jI0 (i := 0) (xs := [iq (ts.length : Nat)]) rfl rfl hw) rfl (by show _ ≤ 9223372036854775807; omega) (by omega) (yV8 (X := [_, _, _, _, _]) hbd) rfl (fun vb2 hvb2 => ?_)
 refine sN ⟨pH [3, 4] rfl, ?_⟩
 refine jH1 <| kF0 4 keyU Tryz.underlying292 q vb2 rfl rfl rfl rfl rfl <| sN (hZ _ _ <| f4K 0 1 4 5 rfl ?_)
 obtain ⟨g', c', rfl⟩ := hvb2.some (by omega)
 have hokB := hokp g' c'
 obtain ⟨b', hb'⟩ : ∃ b' : Bk, b' = ⟨q, g', c', ks ++ [ts.length]⟩ := ⟨_, rfl⟩
 have hkey : b'.key = q := by rw [hb']
 have hbv : b'.v = .slice (some ⟨g', 0, none⟩) (ks.length + 1) c' := by rw [hb']; show Value.slice _ (ks ++ [ts.length]).length _ = _; rw [lN]; rfl
 have hbe : b'.e = .ob g' (RowP 3 1 (ks.length + 1) c' (iqL ks ++ [iq (ts.length : Nat)])) := by rw [hb']; show Ent.ob g' (RowP _ 1 (ks ++ [ts.length]).length c' (iqL (ks ++ [ts.length]))) = _; rw [lN, iqL, x0]; rfl
 have hMB : bkM (jO4 B b') = aput (bkM B) q (.slice (some ⟨g', 0, none⟩) (ks.length + 1) c') := by rw [wT2, hkey, hbv]
 have hHB := wT5 B b'
 rw [hkey, hbe] at hHB
 rw [← hb'] at hokB
 refine jA7 (.own g2 191 [uq n, wq4 s.length] :: .own g1 191 [uq 0, wq4 0] :: .own gp 294 [.slice At n ct, .slice Ap ts.length cp, .map (some gm)] :: mapE (fun k : Nat => uq k) (fun v : Value => v) gm (aput (bkM B) q (.slice (some ⟨g', 0, none⟩) (ks.length + 1) c')) :: (rowE (.slice At n ct) 5 1 (bv ts.flatten) ++ (rowE (.slice Ap ts.length cp) 191 2 (jI9 (ctsF 0 ts)) ++ bkH (jO4 B b')))) ((kC 1 rfl).trans (yC8 (X := [_, _, _, _, _]) hHB)) ?_
 rw [← hMB]
 refine jX2 _ [(0, true), (1, true), (2, true), (3, true), (4, true), (5, true), (6, false), (7, false), (8, true), (9, true)] 10 rfl jF1 (by kernel_rfl) (HLe.pick [0, 2] (by simp) (by simp only [pick, l8, qS]; rfl)) (fun Z hZ => ?_)
 refine tw_p rfl <| jA5 ?_
 refine vN <| tw_p rfl <| jA5 ?_
 refine vN <| tw_p rfl <| jC0 rfl rfl <| vN <| tw_p rfl <| jA3 jY8 ?_
 refine vN <| tw_p rfl <| jD6 1 rfl rfl tyA291 tyS291 rfl rfl <| vN <| tw_p rfl <| jL1 0 rfl rfl tyA191 tyS191 rfl (by simp only [qS]; rfl) rfl ?_
 refine vN <| tw_g rfl <| sBS0 Tryz.underlying291 tyS191 tyZ191 (fun g4 => ?_)
 refine sN ⟨pH [1, 3] rfl, ?_⟩
 refine tw_g rfl <| jD3 (xs := jI9 (ctsF 0 ts)) (_ :: _ :: _ :: _ :: bkE gm (jO4 B b') :: (rowE _ 5 1 (bv ts.flatten) ++ bkH (jO4 B b'))) zK2 rfl hpv (by rw [vM5, vT7]) rfl (fun w hw => jI0 (i := 0) (xs := ctC (n, s.length)) rfl rfl hw) rfl (by show _ ≤ 9223372036854775807; omega) (by omega) (zI1 (X := [_, _, _, _, _])) rfl (fun pv2 hpv2 => ?_)
 obtain ⟨gl2, cl2, rfl⟩ := hpv2.some (by omega)
 refine sN ⟨pH [1, 3] rfl, ?_⟩
 refine tw_p rfl <| jC0 rfl rfl <| vN <| tw_p rfl <| jA3 jY8 ?_
 refine vN <| jH1 <| sS10 3 tyS291 ?_
 refine sN (hZ _ _ <| f4K 0 1 4 5 rfl ?_)
 have hcs : ctsF 0 (ts ++ [s]) = ctsF 0 ts ++ [(n, s.length)] := by rw [vF8, hn, lA]
 refine jA7 (.own g2 191 [uq n, wq4 s.length] :: .own g1 191 [uq 0, wq4 0] :: .own gp 294 [.slice At n ct, .slice (some ⟨gl2, 0, none⟩) (ts.length + 1) cl2, .map (some gm)] :: bkE gm (jO4 B b') :: (rowE (.slice At n ct) 5 1 (bv ts.flatten) ++ (rowE (.slice (some ⟨gl2, 0, none⟩) (ts.length + 1) cl2) 191 2 (jI9 (ctsF 0 ts) ++ ctC (n, s.length)) ++ bkH (jO4 B b')))) ((kC 1 rfl).trans (yV7 (X := [_, _, _, _, _]))) <| aR fun Z hZ => sM rfl rfl <| sM rfl rfl <| jA1 ?_
 refine sFA0 jY9 ?_
 refine sL0 2 tyA72 tyS72 ?_
 refine sM rfl rfl <| jP8 (l := ts.flatten) (m := s) (_ :: _ :: _ :: bkE gm (jO4 B b') :: (rowE _ 191 2 (jI9 (ctsF 0 ts) ++ ctC (n, s.length)) ++ bkH (jO4 B b'))) Tryz.underlying72 Tryz.underlying9 (by kernel_rfl) rfl (by rw [hn]; exact htv) rfl (by omega) (wK8 (X := [_, _, _, _])) rfl (fun tv2 htv2 => ?_)
 obtain ⟨At2, ct2, rfl, _⟩ := htv2.form
 refine jA1 ?_
 refine sFA0 jY9 ?_
 refine sS10 2 tyS72 ?_
 refine sN (hZ _ _ <| f2K 4 5 rfl <| jA7 (.own g2 191 [uq n, wq4 s.length] :: .own g1 191 [uq 0, wq4 0] :: .own gp 294 [.slice At2 (ts.flatten ++ s).length ct2, .slice (some ⟨gl2, 0, none⟩) (ts.length + 1) cl2, .map (some gm)] :: bkE gm (jO4 B b') :: (rowE (.slice At2 (ts.flatten ++ s).length ct2) 5 1 (bv (ts.flatten ++ s)) ++ (rowE (.slice (some ⟨gl2, 0, none⟩) (ts.length + 1) cl2) 191 2 (jI9 (ctsF 0 ts) ++ ctC (n, s.length)) ++ bkH (jO4 B b')))) (vK6 (X := [_, _, _, _])) <| aR (fun Z hZ => sLA0 0 tyA191 tyS191 ?_))
 refine sS0 1 tyS191 ?_
 refine sN (hZ _ _ <| f1K 4 rfl <| aE ?_)
 have hfl2 : (ts ++ [s]).flatten = ts.flatten ++ s := by simp
 refine jD9 _ rfl (kH 1 rfl rfl tyA191 tyS191 rfl) (kC 2 rfl) ⟨rfl, .inr ⟨gm, jO4 B b', .slice At2 (ts.flatten ++ s).length ct2, .slice (some ⟨gl2, 0, none⟩) (ts.length + 1) cl2, ⟨hokB, ?_, ?_⟩, ?_⟩⟩
 ·rw [hfl2]; exact htv2
 ·rw [lN]; exact hpv2
 ·rw [plK, hfl2, hcs, vM6]
  simp [jI9]
theorem yT8 : Fn Tryz.prog 90 [] [] fun v H' => ∃ g, v = ptr g 0 ∧ PoolIs g [] H' := by
 refine fE 3 Tryz.func90 rfl (fun w0 => aA rfl rfl <| aF [] (kF) <| aR (fun Z hZ => jB6 tyZ294 tyP294 ?_))
 refine jB2 (fun g1 => ?_)
 refine sAN hZ rfl rfl <| f1K 0 rfl <| aE <| jD9 _ rfl rfl (hV _) ⟨_, rfl, .inl ⟨rfl, rfl⟩⟩
structure TsOk (ts : List Tx) : Prop where
 nd : ts.Nodup
 ne : ∀ t ∈ ts, t ≠ []
def addT (ts : List Tx) (s : Tx) : List Tx := if s ∈ ts then ts else ts ++ [s]
def addC (ts : List Tx) (s : Tx) : Nat × Nat := (fdQ 0 ts s).getD (ts.flatten.length, s.length)
theorem wU9 {ts : List Tx} {s : Tx} (h : TsOk ts) (hs : s ≠ []) : TsOk (addT ts s) := by
 unfold addT
 split
 ·exact h
 ·rename_i hn
  exact ⟨List.nodup_append.2 ⟨h.nd, by simp, fun a ha b hb => by rw [List.mem_singleton.1 hb]; exact fun e => hn (e ▸ ha)⟩, fun t ht => (List.mem_append.1 ht).elim (h.ne t) (fun ht => List.mem_singleton.1 ht ▸ hs)⟩
theorem zM2 {gp : Nat} {ts : List Tx} {H : Heap} (h : PoolIs gp ts H) (s : Tx) (hok : TsOk ts) (hfl : ts.flatten.length + s.length ≤ 1000000000) (hts : ts.length < 2048) (hs0 : s ≠ []) (hs : s.length ≤ 65536) :
  Fn Tryz.prog 92 [ptr gp 0, .string (str s)] H fun v H' => (∃ b, v = .tuple #[ctV (addC ts s), .bool b, iq (0 : Nat)]) ∧ PoolIs gp (addT ts s) H' := by
 have hfd := yY7 h s hok.nd hok.ne (by omega) (by omega) (by omega)
 obtain ⟨c, b, hfv, hct, hcf⟩ : ∃ c b, fdV (fdQ 0 ts s) = .tuple #[ctV c, .bool b] ∧ (b = true → fdQ 0 ts s = some c) ∧ (b = false → fdQ 0 ts s = none) := by
  cases fdQ 0 ts s with
  | none => exact ⟨_, false, rfl, fun h => (by cases h), fun _ => rfl⟩
  | some c => exact ⟨c, true, rfl, fun _ => rfl, fun h => by cases h⟩
 rw [hfv] at hfd
 have hput := vD9 h s (by omega) (by omega) hs
 obtain ⟨tv, Ap, cp, m, K, hH⟩ : ∃ tv Ap cp m K, H = .own gp 294 [tv, .slice Ap ts.length cp, .map m] :: K := by
  rcases h with ⟨rfl, rfl⟩ | ⟨gm, B, tv, pv, ⟨h1, h2, h3⟩, rfl⟩
  ·exact ⟨nilS, none, 0, none, [], rfl⟩
  ·obtain ⟨Ap, cp, rfl, _⟩ := h3.form
   exact ⟨tv, Ap, cp, some gm, _, rfl⟩
 have hwr := h.wrs
 have hsl : 0 < s.length := List.length_pos_iff.2 hs0
 refine fE 43 Tryz.func92 rfl (fun w0 => aR (fun Z hZ => sAl tyZ191 rfl (fun g1 => sA rfl rfl <| sAN hZ rfl rfl <| f3K 0 1 4 rfl <| aS (aB <| aR fun Z hZ => sM rfl rfl <| jN1 Tryz.underlying185 rfl rfl <| sAN hZ rfl rfl <| f4K 0 1 4 10 rfl ?_))))
 refine aC0 (fun h1 => ?_) (fun h1 => ?_)
 ·cases h1
 refine aR fun Z hZ => sM rfl rfl <| jQ1 rfl rfl rfl <| sAN hZ rfl rfl <| f4K 0 1 4 14 rfl <| aC0 (fun h2 => ?_) (fun h2 => ?_)
 ·exact absurd (by simpa using h2) hs0
 refine aR fun Z hZ => sM rfl rfl <| jC8 Tryz.underlying9 rfl rfl <| jC4 ?_
 refine sAN hZ rfl rfl <| f4K 0 1 4 18 rfl <| aC0 (fun h3 => ?_) (fun h3 => ?_)
 ·simp at h3; omega
 refine aK ?_
 repeat (with_reducible refine nBN ?_)
 refine nN ?_
 refine aS ?_
 refine aR fun Z hZ => sM rfl rfl <| sM rfl rfl ?_
 refine jB4 H [_] hfd rfl (kD [_] H) rfl ?_
 rintro v H' ⟨rfl, rfl⟩
 rw [hwr.filter]
 refine jC6 _ (kD H' [_]) <| sM rfl rfl <| sX rfl rfl rfl <| sX rfl rfl rfl <| sAl tyZ191 rfl (fun g2 => sS0 0 tyS191 ?_)
 refine sAN hZ rfl rfl <| f5K 0 1 4 7 8 rfl <| aR fun Z hZ => sMN hZ rfl rfl <| f5K 0 1 4 7 29 rfl <| aC0 (fun h4 => ?_) (fun h4 => ?_)
 ·have hq := hct (by simpa using h4)
  have hm : s ∈ ts := Classical.byContradiction fun hn => by rw [(jW3 ts 0 s).2 hn] at hq; cases hq
  have e1 : addT ts s = ts := by unfold addT; rw [if_pos hm]
  have e2 : addC ts s = c := by unfold addC; rw [hq]; rfl
  rw [e1, e2]
  refine aR (fun Z hZ => sLA0 0 tyA191 tyS191 ?_)
  refine sS0 1 tyS191 ?_
  refine sA rfl rfl <| sAN hZ rfl rfl ?_
  refine f3K 4 5 6 rfl ?_
  refine aE ?_
  repeat (with_reducible refine nTR ?_)
  exact jF8 _ rfl (kH 1 rfl rfl tyA191 tyS191 rfl) rfl rfl (kC 2 rfl) ⟨⟨_, rfl⟩, h⟩
 have hq := hcf (by simpa using h4)
 have hm : s ∉ ts := (jW3 ts 0 s).1 hq
 have e1 : addT ts s = ts ++ [s] := by unfold addT; rw [if_neg hm]
 have e2 : addC ts s = (ts.flatten.length, s.length) := by unfold addC; rw [hq]; rfl
 rw [e1, e2]
 refine aK <| nN ?_
 subst hH
 refine aS <| aR fun Z hZ => sM rfl rfl <| jA1 ?_
 refine sFA0 jY8 ?_
 refine sL0 2 tyA291 tyS291 ?_
 refine jE5 Tryz.underlying291 rfl rfl <| jH7 rfl rfl rfl <| sN (hZ _ _ <| f4K 0 1 4 36 rfl <| aC0 (fun h5 => ?_) (fun h5 => ?_))
 ·simp at h5; omega
 refine aK <| nN <| aR fun Z hZ => sM rfl rfl <| vB6 (vs := [ptr gp 0]) rfl rfl <| sAN hZ rfl rfl <| f3K 1 4 9 rfl <| aR fun Z hZ => sM rfl rfl <| sM rfl rfl <| wE1 (bs := [ptr gp 0]) (vs := [.string (str s)]) [_, _] hput rfl rfl (kD [_, _] _) rfl ?_
 rintro v H' ⟨rfl, hP⟩
 rw [hP.wrs.filter]
 refine jC6 _ (kD H' [_, _]) <| sS0 1 tyS191 ?_
 refine sA rfl rfl <| sAN hZ rfl rfl <| f3K 4 5 6 rfl <| aE <| jF8 _ rfl (kH 1 rfl rfl tyA191 tyS191 rfl) rfl rfl (kC 2 rfl) ⟨⟨_, rfl⟩, hP⟩
theorem yP9 {gp : Nat} {ts : List Tx} {H : Heap} (h : PoolIs gp ts H) (hfl : ts.flatten.length ≤ 1000000000) :
  Fn Tryz.prog 93 [ptr gp 0] H fun v H' => v = .string (str ts.flatten) ∧ H' = H := by
 obtain ⟨At, ct, pv, m, K, hH, hr⟩ : ∃ At ct pv m K, H = .own gp 294 [.slice At ts.flatten.length ct, pv, .map m] :: K ∧ ∀ w0 Wr w, Sat w0 Wr H w → Rd w 1 At ts.flatten.length (bv ts.flatten) := by
  rcases h with ⟨rfl, rfl⟩ | ⟨gm, B, tv, pv, ⟨h1, h2, h3⟩, rfl⟩
  ·exact ⟨none, 0, nilS, none, [], rfl, fun w0 Wr w _ => zG5 rfl⟩
  ·obtain ⟨At, ct, rfl, _⟩ := h2.form
   exact ⟨At, ct, pv, some gm, _, rfl, fun w0 Wr w hw => jL3 h2 (by rw [jF9, qN]) (fun x hx => lU _ (lU _ (xI _ hx))) hw⟩
 subst hH
 refine fE 11 Tryz.func93 rfl (fun w0 => aA rfl rfl <| f1K 0 rfl <| aS <| aR fun Z hZ => sM rfl rfl <| jN1 Tryz.underlying185 rfl rfl <| sN (hZ _ _ <| f2K 0 4 rfl <| aC0 (fun h1 => ?_) (fun h1 => ?_)))
 ·cases h1
 refine aK <| nN <| aR fun Z hZ => sM rfl rfl <| jA1 ?_
 refine sFA0 jY9 ?_
 first | refine sL0 0 tyA72 tyS72 ?_
 refine jO9 (l := ts.flatten) Tryz.underlying72 Tryz.underlying5 Tryz.underlying9 rfl (fun w hw => hr _ _ w hw) rfl <| sCP0 (wG7 ts.flatten (by omega)) ?_
 refine sAN hZ rfl rfl <| f1K 2 rfl <| aE <| jD9 _ rfl rfl (hV _) ⟨rfl, rfl⟩
end V
section
open Go.RowKit
set_option maxRecDepth 100000
theorem vV9 {P : Program} {N : Frm} {w0 : World} {Wr : List Nat} {ops : Array Oper} {rest : List Oper} {fr : Fr} {H : Heap} {Z : Fr → Heap → Prop} {ty : Nat} {pos : String} {after : Array Edge}
  (i : Nat) {t : TypeId} {x y : Operand} {g o size n c : Nat} {e : TypeId} {xs ys : List Value} {v : Value} (hx : ev fr x = some (ptr g o)) (hy : ev fr y = some v) (hH : H[i]? = some (.ob g (RowP e size n c xs))) (hn : tySize P t = some 1) (h1 : v.oneCell' = true)
  (hlen : o < n * size) (hys : xs.set o v = ys) {H2 : Heap} (hs : H.set i (.ob g (RowP e size n c ys)) = H2)
  (h : sx P N w0 Wr ops rest fr H2 Z) : sx P N w0 Wr ops (⟨none, .store t x y, ty, pos, after, none⟩ :: rest) fr H Z :=
 wD7 (fun a w ha hw => by
  subst hs
  subst hys
  obtain ⟨ob, hg, cur, rfl, h2, h3, h4, h5, h6⟩ := hw.mem hH
  have hnc : n * size ≤ c * size := z7 size h2
  have ho : o < cur.size := by omega
  have hc : w.cell? ⟨g, o, none⟩ = some cur[o] := by rw [cell_of_row w g o cur e _ hg]; simp [ho]
  have hf : w.frozen? ⟨g, o, none⟩ = false := by simp [World.frozen?, hg]
  have hst : (store ⟨g, o, none⟩ v).run P w = .ok () (w.setCell ⟨g, o, none⟩ v) := by
   cases v <;> first | (simp [Value.oneCell'] at h1; done) | simp [store, Sem.run, hc, hf]
  refine ⟨w.setCell ⟨g, o, none⟩ v, ?_, hw.turn hH rfl rfl (Only.setCell w g o _) ?_⟩
  ·have hsz : v.cells = #[v] := by cases v <;> first | rfl | (simp [Value.oneCell'] at h1)
   have ha0 : Addr.add ⟨g, o, none⟩ 0 = ⟨g, o, none⟩ := rfl
   simp [execOp, Instr.storeAt, ha.eval hx, ha.eval hy, ptr, Instr.sureAddr, lJ, l7, lR, storeVar, jC5 hn, hsz, storeCells, ha0]
   simp only [store] at hst ⊢
   rw [hst]
   rfl
  ·refine ⟨.cells (cur.set! o v) e (0, 0), ?_, cur.set! o v, rfl, h2, h3, by simpa using h4, ?_, by rw [List.length_set]; exact h6⟩
   ·simp [World.setCell, z6, hg]
   ·have : (cur.set! o v).toList = cur.toList.set o v := by simp
    rw [this, List.take_set, h5]) h
section
variable {P : Program} {N : Frm} {w0 : World} {Wr : List Nat} {ops : Array Oper} {rest : List Oper} {fr : Fr} {H : Heap} {Z : Fr → Heap → Prop} {d ty : Nat} {pos : String} {after : Array Edge}
theorem wF5 {f : FuncId} {x : Operand} {xs : List Operand} {vs : List Value} {ts : Array TypeId} {v : Value} (hc : Fn P f vs [] fun u _ => u = v) (hf : ev fr x = some (.func (.func f) #[] #[])) (hx : evs fr xs = some vs) (hN : bN d N)
  (h : sq P N w0 Wr ops rest ((d, v) :: fr) H Z) : sq P N w0 Wr ops (⟨some d, .call { callee := .value x, args := xs.toArray, argTypes := ts }, ty, pos, after, none⟩ :: rest) fr H Z :=
 fun Q hQ a ha => wpQuiet_step fun K hK => by
  rw [if_pos (show Region.wanted (⟨some d, .call { callee := .value x, args := xs.toArray, argTypes := ts }, ty, pos, after, none⟩ : Oper) (yielded ops a.tmps) = true from rfl)]
  refine ⟨v, fun w hw => ?_, hK _ (h Q hQ _ (ha.put hN v))⟩
  unfold Oper.quietAt
  rw [vD3 (caps := []) hc.1 (ha.evals hx) (ha.eval hf)]
  refine ⟨rfl, ?_⟩
  rw [lH]
  exact (hc.2 w (Sat.nil w)).mono fun e w' he => by
   obtain ⟨u, H', rfl, rfl, hS⟩ := he
   exact ⟨rfl, hw.bel hS.only.bel⟩
end
theorem yQ1 {α : Type} (cs vs : List α) (o m : Nat) (h : o + vs.length ≤ m) (hm : m ≤ cs.length) : (cs.take o ++ vs ++ cs.drop (o + vs.length)).take m = (cs.take m).take o ++ vs ++ (cs.take m).drop (o + vs.length) := by
 rw [List.take_take, z8 (by omega), xD, xD, List.take_append, List.take_append]
 have e1 : (cs.take o).length = o := by rw [xV]; omega
 rw [e1, zN (by omega), zN (l := vs) (by omega), List.drop_take]
 congr 3
 omega
theorem kF4 {P : Program} {w : World} {g o size n c : Nat} {e : TypeId} {xs vs : List Value} (h : (Ent.ob g (RowP e size n c xs)).holds w) (hl : o + vs.length ≤ n * size) (h1 : ∀ v ∈ vs, v.oneCell' = true) :
  ∃ w', (storeCells ⟨g, o, none⟩ vs 0).run P w = .ok () w' ∧ Only [g] w w' ∧ (Ent.ob g (RowP e size n c (wrV xs o vs))).holds w' := by
 obtain ⟨ob, hg, cur, rfl, h2, h3, h4, h5, h6⟩ := h
 have hnc : n * size ≤ c * size := z7 size h2
 have hown : (Ent.own g e cur.toList).holds w := by show w.heap[g]? = _; rw [hg]
 have hcl : cur.toList.length = c * size := by simpa using h4
 obtain ⟨w', k1, k2, k3⟩ := jM7 (P := P) vs g o 0 cur.toList w hown (by omega) h1
 refine ⟨w', k1, k2, _, k3, _, rfl, h2, h3, ?_, ?_, ?_⟩
 ·simp only [lM, List.size_toArray, lN, xV, qF]
  omega
 ·show (cur.toList.take (o + 0) ++ vs ++ cur.toList.drop (o + 0 + vs.length)).take (n * size) = _
  rw [lM, yQ1 _ _ _ _ hl (by omega), h5]
  rfl
 ·unfold wrV
  simp only [lN, xV, qF]
  omega
section
variable {P : Program} {N : Frm} {w0 : World} {Wr : List Nat} {ops : Array Oper} {rest : List Oper} {fr : Fr} {H : Heap} {Z : Fr → Heap → Prop} {d ty : Nat} {pos : String} {after : Array Edge}
theorem vI4 (i : Nat) {t : TypeId} {x y : Operand} {g o size n c m : Nat} {e : TypeId} {xs ys vs : List Value} {v : Value} (hx : ev fr x = some (ptr g o)) (hy : ev fr y = some v) (hH : H[i]? = some (.ob g (RowP e size n c xs))) (hn : tySize P t = some m) (hvs : v.cells.toList = vs) (h1 : vs.all Value.oneCell' = true) (hl : vs.length = m)
  (hlen : o + m ≤ n * size) (hys : wrV xs o vs = ys) {H2 : Heap} (hs : H.set i (.ob g (RowP e size n c ys)) = H2)
  (h : sx P N w0 Wr ops rest fr H2 Z) : sx P N w0 Wr ops (⟨none, .store t x y, ty, pos, after, none⟩ :: rest) fr H Z :=
 wD7 (fun a w ha hw => by
  subst hs
  subst hys
  subst hl
  obtain ⟨w', h2, h3, h4⟩ := kF4 (P := P) (hw.mem hH) hlen (fun u hu => List.all_eq_true.1 h1 u hu)
  refine ⟨w', ?_, hw.turn hH rfl rfl h3 h4⟩
  have hsz : v.cells.size = vs.length := by rw [← hvs]; simp
  simp only [execOp, Instr.storeAt, ha.eval hx, ha.eval hy, ptr, Instr.sureAddr, lJ, l7, lR, storeVar, jC5 hn, hsz, hvs, h2]
  simp [lJ, h2]) h
theorem yN7 (zs : List Value) (n : Nat) : (Builtin.zeroCells zs.toArray n).toList = (List.replicate n zs).flatten := by
 have h := congrArg Array.toList (kF7 zs n)
 have e : Builtin.zeroCells zs.toArray n = madeCells zs.toArray (n * zs.length) := by
  simp [Builtin.zeroCells, madeCells]
 rw [e, h]
theorem wY5 (i : Nat) {t e size : Nat} {x : Operand} {ts : Array TypeId} {A : Option Addr} {k n c m cc : Nat} {E : TypeId} {g : Nat} {xs zs : List Value} (ht : P.underlying t = some (.slice e)) (hts : ts[0]? = some t) (hz : tyZero P e = some zs) (hzl : zs.length = size) (hz1 : zs.all Value.oneCell' = true) (hx : ev fr x = some (.slice A m cc)) (hA : 0 < m → A = some ⟨g, k * size, none⟩) (hH : H[i]? = some (.ob g (RowP E size n c xs))) (hk : k + m = n)
  {H2 : Heap} (hs : H.set i (.ob g (RowP E size n c (xs.take (k * size) ++ (List.replicate m zs).flatten))) = H2)
  (h : sx P N w0 Wr ops rest fr H2 Z) : sx P N w0 Wr ops (⟨none, .call { callee := .builtin .clear, args := #[x], argTypes := ts }, ty, pos, after, none⟩ :: rest) fr H Z :=
 zF0 (v := .tuple #[]) (fun a w ha hw => by
  subst hs
  have hm := hw.mem hH
  have ex := ha.eval hx
  obtain ⟨z, z1, z2⟩ := jV9 (w := w) hz
  rcases zM m with h0 | h0
  ·subst h0
   refine ⟨w, ?_, hw.turn hH rfl rfl (Only.refl _ _) ?_⟩
   ·have hcl : (Builtin.clear_ ts ty #[.slice A 0 cc]).run P w = .ok (.tuple #[]) w := by
     cases A <;> simp [Builtin.clear_, hts, run_underlying ht]
    simp [execOp, resolve, invoke, builtin, ex, lJ, hcl]
   ·obtain ⟨ob, hg, cur, rfl, h2, h3, h4, h5, h6⟩ := hm
    refine ⟨_, hg, cur, rfl, h2, h3, h4, ?_, ?_⟩
    ·have : k = n := by omega
     subst this
     rw [h5, zN (by omega)]
     simp
    ·have : k = n := by omega
     subst this
     rw [zN (by omega)]
     simpa using h6
  ·obtain rfl := hA h0
   have hlz : (List.replicate m zs).flatten.length = m * size := by simp [hzl]
   have hkm : k * size + m * size = n * size := by rw [← Nat.add_mul, hk]
   obtain ⟨w', h2, h3, h4⟩ := kF4 (P := P) (o := k * size) (vs := (List.replicate m zs).flatten) hm (by omega) (fun u hu => by
    obtain ⟨l, hl, hu⟩ := List.mem_flatten.1 hu
    rw [List.eq_of_mem_replicate hl] at hu
    exact List.all_eq_true.1 hz1 u hu)
   have hxl : xs.length = n * size := by obtain ⟨ob, hg, cur, rfl, _, _, _, _, h6⟩ := hm; exact h6
   have hwr : wrV xs (k * size) (List.replicate m zs).flatten = xs.take (k * size) ++ (List.replicate m zs).flatten := by
    unfold wrV
    rw [List.drop_of_length_le (by omega), lH]
   rw [hwr] at h4
   refine ⟨w', ?_, hw.turn hH rfl rfl h3 h4⟩
   have hcl : (Builtin.clear_ ts ty #[.slice (some ⟨g, k * size, none⟩) m cc]).run P w = .ok (.tuple #[]) w' := by
    obtain ⟨m', rfl⟩ : ∃ m', m = m' + 1 := ⟨m - 1, by omega⟩
    have e : (Builtin.zeroCells z.cells (m' + 1)).toList = (List.replicate (m' + 1) zs).flatten := by rw [z2, yN7]
    simp only [Builtin.clear_, hts]
    simp [run_underlying ht, lJ, z1, e, h2]
   simp [execOp, resolve, invoke, builtin, ex, lJ, hcl]) h
theorem wD2 {t e n g o len c j : Nat} {x : Operand} {lo hi : Option Operand} (ht : P.underlying t = some (.slice e)) (hs : tySize P e = some n) (hx : ev fr x = some (.slice (some ⟨g, o, none⟩) len c)) (hl : bnd fr 0 lo = some 0) (hh : bnd fr (len : Int) hi = some (j : Int)) (h2 : j ≤ c) (hN : bN d N)
  (h : sx P N w0 Wr ops rest ((d, .slice (some ⟨g, o, none⟩) j c) :: fr) H Z) : sx P N w0 Wr ops (⟨some d, .slice t x lo hi none, ty, pos, after, none⟩ :: rest) fr H Z :=
 jE4 (.slice (some ⟨g, o, none⟩) j c) hN (fun a w ha _ => by
  have hb := jH5 (P := P) (isS := true) (len := len) (cap := c) (w := w) ha hl hh (Int.le_refl 0) (by omega) (by omega)
  simp only [execOp, Instr.sliceAt, Instr.slice, ha.eval hx, lJ, run_underlying ht, lR, zK, hb, l7, jC5 hs, qG, jG5]
  by_cases hc : c = 0 <;> simp [hc]) h
end
end
namespace V
open Go.RowKit
set_option maxRecDepth 100000
def oneQ (a b : En) : Bool := decide (b.id = jK4 a + 1 ∧ b.off = a.off ∧ b.len = a.len)
theorem yX7 (a b : En) (ha : a.ok) : Fn Tryz.prog 89 [a.val, b.val] [] fun v _ => v = .bool (oneQ a b) := by
 have hl := wK9 ha
 refine fE 31 Tryz.func89 rfl (fun w0 => aR (fun Z hZ => jB2 (fun g1 => ?_)))
 refine jB2 (fun g2 => ?_)
 refine sAN hZ rfl rfl <| f2K 2 3 rfl <| jF0 [(4, .bool (oneQ a b))] [] jF1 (by kernel_rfl) (fun Z hZ => ?_) ?_
 ·refine qFA0 jV6 ?_
  refine qFA0 jJ7 ?_
  refine jA9 0 tyA61 tyS61 ?_
  refine qFA0 jV6 ?_
  refine jM6 1 rfl rfl tyA182 tyS182 rfl (by simp only [qS, Value.cells]; rfl) rfl ?_
  refine jG2 (vT4 a ha) rfl rfl <| kL2 rfl rfl ((jK4 a + 1 : Nat) : Int) (by rw [xK _ (by omega)]; omega) rfl ?_
  refine jP1 rfl rfl rfl <| qM rfl rfl <| jK3 13 rfl (fun hb8 => ?_) (fun hb8 => ?_)
  ·refine jA4 ?_
   refine qFA0 jV6 ?_
   refine jA4 ?_
   refine qFA0 jH0 ?_
   refine jA4 ?_
   refine jA9 0 tyA61 tyS61 ?_
   refine jA4 ?_
   refine qFA0 jV6 ?_
   refine jA4 ?_
   refine qFA0 jH0 ?_
   refine jA4 ?_
   refine jA9 1 tyA61 tyS61 ?_
   refine jA4 ?_
   refine jP1 rfl rfl rfl <| jE1 rfl rfl rfl <| qM rfl rfl <| jK3 22 rfl (fun hb17 => ?_) (fun hb17 => ?_)
   ·refine jA4 ?_
    refine qFA0 jV6 ?_
    refine jA4 ?_
    refine qFA0 jJ6 ?_
    refine jA4 ?_
    refine jA9 0 tyA180 tyS180 ?_
    refine jA4 ?_
    refine qFA0 jV6 ?_
    refine jA4 ?_
    refine qFA0 jJ6 ?_
    refine jA4 ?_
    refine jA9 1 tyA180 tyS180 ?_
    refine jA4 ?_
    refine jP1 rfl rfl rfl <| jE1 rfl rfl rfl <| jB8 rfl rfl <| jE9 (hZ _ _ ?_ ?_)
    ·exact kE (congrArg some (congrArg Value.bool (by unfold oneQ; simp at *; first | omega | (rw [lS]; simp; omega)))) kF
    ·exact kA (lO _)
   ·refine qO0 ?_
    refine qO0 ?_
    refine qO0 ?_
    refine qO0 ?_
    refine qO0 ?_
    refine qO0 ?_
    refine qO0 ?_
    refine jE1 rfl rfl rfl <| jB8 rfl rfl <| jE9 (hZ _ _ ?_ ?_)
    ·exact kE (congrArg some (congrArg Value.bool (by unfold oneQ; simp at *; first | omega | (rw [lS]; simp; omega)))) kF
    ·exact kA (lO _)
  ·refine qO0 ?_
   refine qO0 ?_
   refine qO0 ?_
   refine qO0 ?_
   refine qO0 ?_
   refine qO0 ?_
   refine qO0 ?_
   refine jE1 rfl rfl rfl <| qM rfl rfl <| qO0 ?_
   refine qO0 ?_
   refine qO0 ?_
   refine qO0 ?_
   refine qO0 ?_
   refine qO0 ?_
   refine qO0 ?_
   refine jE1 rfl rfl rfl <| jB8 rfl rfl <| jE9 (hZ _ _ ?_ ?_)
   ·exact kE (congrArg some (congrArg Value.bool (by unfold oneQ; simp at *; first | omega | (rw [lS]; simp; omega)))) kF
   ·exact kA (lO _)
 refine aE <| nR10 rfl
theorem vY9 {L : List En} {i : Nat} {x : En} (h : L[i]? = some x) : rdV false 1 (jA2 L) (i * 4 + 3) = some (wq4 x.run) := kM7 (j := 3) jV0 h rfl
theorem yC2 {M : List En} {k : Nat} {e : En} (h : M[k]? = some e) (y : Nat) : (jA2 M).set (k * 4 + 3) (wq4 y) = jA2 (M.set k { e with run := y }) := kQ9 (x := e) (y := { e with run := y }) (j := 3) jV0 rfl (by omega) h
def put1 (out : List En) (e : En) : List En :=
 match out[out.length - 1]? with
 | some a => if oneQ a e then out.set (out.length - 1) { a with run := a.run + 1 } else out ++ [e]
 | none => out ++ [e]
def enOf (ts : List Tx) (x : It) : En := ⟨x.id, (addC ts x.tx).1, (addC ts x.tx).2, 1⟩
def rwS (s : List En × List Tx) (x : It) : List En × List Tx := (put1 s.1 (enOf s.2 x), addT s.2 x.tx)
def jJ4 (L : List It) : List En × List Tx := L.foldl rwS ([], [])
theorem kL5 {L : List It} {k : Nat} {x : It} (h : L[k]? = some x) : jJ4 (L.take (k + 1)) = rwS (jJ4 (L.take k)) x := by
 obtain ⟨hlt, rfl⟩ := List.getElem?_eq_some_iff.1 h
 unfold jJ4
 rw [qC hlt, List.foldl_append, zU, List.foldl_nil]
theorem yL5 : ∀ (ts : List Tx) (o : Nat) (s : Tx) (c : Nat × Nat), fdQ o ts s = some c → c.2 = s.length ∧ c.1 + c.2 ≤ o + ts.flatten.length
 | [], _, _, _, h => by cases h
 | t :: r, o, s, c, h => by
  rw [fdQ] at h
  rw [zW, lN]
  split at h
  ·rename_i e
   injection h with h
   subst h
   subst e
   exact ⟨rfl, by simp only; omega⟩
  ·obtain ⟨h1, h2⟩ := yL5 r _ s c h
   exact ⟨h1, by omega⟩
theorem wV1 (ts : List Tx) (s : Tx) : (addC ts s).2 = s.length ∧ (addC ts s).1 + (addC ts s).2 ≤ ts.flatten.length + s.length := by
 unfold addC
 cases h : fdQ 0 ts s with
 | none => exact ⟨rfl, xP _⟩
 | some c =>
  obtain ⟨h1, h2⟩ := yL5 ts 0 s c h
  refine ⟨h1, ?_⟩
  simp only [Option.getD_some]
  omega
structure RsOk (k : Nat) (s : List En × List Tx) : Prop where
 ts : TsOk s.2
 nt : s.2.length ≤ k
 fl : s.2.flatten.length ≤ k * 65536
 no : s.1.length ≤ k
 es : ∀ e ∈ s.1, e.ok ∧ e.run ≤ k
theorem wV0 (ts : List Tx) (s : Tx) : (addT ts s).length ≤ ts.length + 1 ∧ (addT ts s).flatten.length ≤ ts.flatten.length + s.length := by
 unfold addT
 split
 ·exact ⟨by omega, by omega⟩
 ·simp
theorem RsOk.step {k : Nat} {s : List En × List Tx} (h : RsOk k s) (hk : k < 2048) {x : It} (h1 : x.id < 6004799503160661) (h2 : x.tx ≠ []) (h3 : x.tx.length ≤ 65536) : RsOk (k + 1) (rwS s x) := by
 obtain ⟨a1, a2⟩ := wV0 s.2 x.tx
 have h4 := h.nt
 have h5 := h.fl
 have h6 := h.no
 obtain ⟨c1, c2⟩ := wV1 s.2 x.tx
 have heo : (enOf s.2 x).ok ∧ (enOf s.2 x).run ≤ k + 1 := ⟨⟨by show x.id < _; omega, by show (addC s.2 x.tx).1 < _; omega, by show (addC s.2 x.tx).2 < _; omega, by show 1 < _; omega⟩, by show 1 ≤ k + 1; omega⟩
 have happ : ∀ e ∈ s.1 ++ [enOf s.2 x], e.ok ∧ e.run ≤ k + 1 := fun e he => by
  rcases List.mem_append.1 he with he | he
  ·obtain ⟨g1, g2⟩ := h.es e he
   exact ⟨g1, by omega⟩
  ·rw [List.mem_singleton.1 he]; exact heo
 have hpl : (put1 s.1 (enOf s.2 x)).length ≤ k + 1 ∧ ∀ e ∈ put1 s.1 (enOf s.2 x), e.ok ∧ e.run ≤ k + 1 := by
  unfold put1
  split
  ·rename_i a ha
   split
   ·refine ⟨by rw [List.length_set]; omega, fun e he => ?_⟩
    rcases List.mem_or_eq_of_mem_set he with he | rfl
    ·obtain ⟨g1, g2⟩ := h.es e he
     exact ⟨g1, by omega⟩
    ·obtain ⟨⟨g1, g2, g3, g4⟩, g5⟩ := h.es a (xN ha)
     exact ⟨⟨g1, g2, g3, by show a.run + 1 < _; omega⟩, by show a.run + 1 ≤ k + 1; omega⟩
   ·exact ⟨by rw [lN, zY]; omega, happ⟩
  ·exact ⟨by rw [lN, zY]; omega, happ⟩
 exact ⟨wU9 h.ts h2, by show (addT s.2 x.tx).length ≤ _; omega, by show (addT s.2 x.tx).flatten.length ≤ _; omega, hpl.1, hpl.2⟩
theorem kW5 {L : List It} (h : ChOk L) : ∀ k, k ≤ L.length → RsOk k (jJ4 (L.take k))
 | 0, _ => by
  rw [lB]
  exact ⟨⟨List.nodup_nil, fun t ht => by cases ht⟩, xP _, by simp [jJ4], by simp [jJ4], fun e he => by cases he⟩
 | k + 1, hk => by
  have hx := kM4 (show k < L.length by omega)
  have hm := xN hx
  rw [kL5 hx]
  have h4 := h.len
  obtain ⟨h5, h6⟩ := h.tx _ hm
  exact (kW5 h k (by omega)).step (by omega) (h.lt _ hm) h5 h6
theorem yV5 (a b c d e : Ent) (X T : Heap) : HLe ((b :: c :: d :: X) ++ (a :: T)) (a :: b :: c :: d :: e :: (X ++ T)) :=
 HLe.trans (HLe.perm (List.perm_middle (l₁ := b :: c :: d :: X)).symm) (kA (xJ a (xJ b (xJ c (xJ d (qX e (X ++ T)))))))
theorem yV9 (d a b c : Ent) (R X K : Heap) : HLe (d :: a :: b :: (X ++ R)) (d :: ((a :: b :: c :: (R ++ X)) ++ K)) :=
 (HLe.perm (A := d :: a :: b :: (X ++ R)) (B := d :: a :: b :: (R ++ X)) (List.Perm.cons d (List.Perm.cons a (List.Perm.cons b qQ)))).trans (kA (xJ d (xJ a (xJ b (qA c (xE (R ++ X) K))))))
theorem yA9 (e : En) : put1 [] e = [e] := rfl
theorem vE0 {out : List En} {a e : En} (h : out[out.length - 1]? = some a) : put1 out e = if oneQ a e then out.set (out.length - 1) { a with run := a.run + 1 } else out ++ [e] := by
 unfold put1
 rw [h]
theorem yC3 (A : Option Addr) (c : Nat) (L : List It) (T : Heap) (hA : jK9 A L.length) (hT : 0 < L.length → T = roE A (jC9 L)) (hro : Ro T) (hok : ChOk L) :
  Fn Tryz.prog 44 [chV A L.length c] T fun v H' => ∃ u, v = .tuple #[u, .string (str (jJ4 L).2.flatten)] ∧ RowOk u (jJ4 L).1.length ∧ H' = rowE u 182 4 (jA2 (jJ4 L).1) := by
 have hlen := hok.len
 refine Fn.enterM (n := 63) Tryz.func44 rfl (by kernel_rfl) rfl (fun w0 => ?_)
 refine aR (fun Z hZ => jB2 (fun g1 => ?_))
 refine sA rfl rfl <| sAN hZ rfl rfl <| f1K 1 rfl <| aR (fun Z hZ => sAl tyZ178 rfl (fun g2 => sS10 0 tyS178 ?_))
 refine sN (hZ _ _ <| f2K 1 4 rfl <| aR (fun Z hZ => jB4 [] _ yT8 rfl (hV _) rfl ?_))
 rintro v X0 ⟨gp, rfl, hP0⟩
 rw [hP0.wrs.filter]
 refine jC6 _ (HLe.comm3 X0 [_, _] T) <| sAl tyZ185 rfl (fun g3 => sS10 0 tyS185 ?_)
 refine sN (hZ _ _ <| f3K 1 4 5 rfl <| aR (fun Z hZ => sAl tyZ114 rfl (fun g4 => sN (hZ _ _ <| f4K 1 4 5 6 rfl <| aS <| aR (fun Z hZ => sLA0 3 tyA58 tyS58 ?_)))))
 refine jB4 [] _ (yG3 A L.length c) rfl (hV _) rfl ?_
 rintro v H' ⟨ge, rfl, rfl⟩
 refine sN (hZ _ _ <| f4K 4 5 6 16 rfl <| aB ?_)
 refine kC4 (fun k H => ∃ v X, RowOk v (jJ4 (L.take k)).1.length ∧ PoolIs gp (jJ4 (L.take k)).2 X ∧ H = .own g4 114 [v] :: .own g3 185 [ptr gp 0] :: .own g2 178 [.func (.func 89) #[] #[]] :: (rowE v 182 4 (jA2 (jJ4 (L.take k)).1) ++ X)) [] (fun _ _ => False) (.own g4 114 [nilS] :: .own g3 185 [ptr gp 0] :: .own g2 178 [.func (.func 89) #[] #[]] :: X0)
  (yG2 ge A c L T hA hT (by omega)) rfl (fun k H h => by obtain ⟨v, X, _, hX, rfl⟩ := h; exact Wrs.cons rfl (Wrs.cons rfl (Wrs.cons rfl ((jL2 _ _ _ _).append hX.wrs)))) (fun _ _ h => h.elim) Ro.nil (fun x hx => by rcases List.mem_cons.1 hx with rfl | hx; rfl; exact hro x hx) (fun k vs h => by rw [xZ] at h; cases hk : L[k]? with | none => rw [hk] at h; cases h | some x => rw [hk] at h; obtain rfl := lV h; rfl) rfl
  ⟨nilS, X0, by simpa [jJ4] using kI, by simpa [jJ4] using hP0, rfl⟩ (by rw [lH]; exact (HLe.toRo (_ :: _ :: _ :: X0) T).trans (yV5 _ _ _ _ _ X0 T)) rfl ?_ ?_ (fun _ _ _ h => h.elim)
 ·rintro k vs H hk ⟨v, X, hv, hX, rfl⟩ l w1
  rw [xZ] at hk
  cases hkx : L[k]? with
  | none => rw [hkx] at hk; cases hk
  | some x =>
   rw [hkx] at hk
   obtain rfl := lV hk
   have hkl := (List.getElem?_eq_some_iff.1 hkx).1
   have hxm := xN hkx
   have hrs := kW5 hok k (by omega)
   rw [kL5 hkx]
   obtain ⟨s, hs⟩ := xZ9 (jJ4 (L.take k))
   rw [hs] at hv hX hrs ⊢
   obtain ⟨out, ts⟩ := s
   simp only [rwS] at hv hX ⊢
   obtain ⟨t1, t2⟩ := hok.tx x hxm
   have hxl := hok.lt x hxm
   obtain ⟨r1, r2, r3, r4, r5⟩ := hrs
   simp only at r1 r2 r3 r4 r5
   have hadd := zM2 hX x.tx r1 (by omega) (by omega) t1 t2
   obtain ⟨c1, c2⟩ := wV1 ts x.tx
   obtain ⟨cc, hcc⟩ := xZ9 (addC ts x.tx)
   have hen : enOf ts x = ⟨x.id, cc.1, cc.2, 1⟩ := by unfold enOf; rw [hcc]
   rw [hcc] at hadd c1 c2
   rw [hen]
   refine aA rfl rfl <| f5K 4 5 6 7 18 rfl <| aG (fun Z hZ => sAN hZ rfl rfl <| nF [(4, _), (5, _), (6, _), (7, _), (8, _)] (kR rfl) <| kA8 [] Wrs.nil (hV _) fun w2 => jA7 (.own g4 114 [v] :: .own g3 185 [ptr gp 0] :: .own g2 178 [.func (.func 89) #[] #[]] :: (rowE v 182 4 (jA2 out) ++ X)) (by simp only [qS]; exact hV _) ?_)
   refine aB <| aR (fun Z hZ => sL0 1 tyA185 tyS185 ?_)
   refine sM rfl rfl <| jB4 X (_ :: _ :: _ :: rowE v 182 4 (jA2 out)) hadd rfl (kD (_ :: _ :: _ :: rowE v 182 4 (jA2 out)) X) rfl ?_
   rintro u X2 ⟨⟨b, rfl⟩, hX2⟩
   rw [hX2.wrs.filter]
   refine jC6 _ (kD X2 (_ :: _ :: _ :: rowE v 182 4 (jA2 out))) <| sM rfl rfl <| sX rfl rfl rfl <| sX rfl rfl rfl <| sX rfl rfl rfl <| sAl tyZ191 rfl (fun g5 => sS0 0 tyS191 ?_)
   refine sA rfl rfl <| sAN hZ rfl rfl <| f4K 4 6 7 9 rfl <| aR fun Z hZ => sM rfl rfl <| sFA0 kU3 ?_
   refine sL0 0 tyA61 tyS61 ?_
   refine sFA0 vO3 ?_
   refine sL0 0 tyA180 tyS180 ?_
   refine jB6 tyZ182 tyP182 ?_
   refine sAl tyZ182 rfl (fun g6 => sS0 0 tyS182 ?_)
   refine sN (hZ _ _ <| f3K 4 6 12 rfl ?_)
   obtain ⟨Av, cv, rfl, hAv⟩ := hv.form
   rcases zM out.length with h0 | h0
   ·obtain rfl := zE h0
    rw [yA9]
    refine aS <| aR (fun Z hZ => sL0 2 tyA114 tyS114 ?_)
    refine jE5 Tryz.underlying114 rfl rfl <| jN0 rfl rfl (-1 : Int) (by show IntKind.i64.wrap (((([] : List En).length : Nat) : Int) - 1) = -1; rfl) rfl ?_
    refine sAN hZ rfl rfl <| f4K 4 6 12 13 rfl <| jF0 [(6, ptr g4 0), (12, ptr g6 0), (13, iq (-1)), (47, .bool false)] (.own g6 182 (⟨x.id, cc.1, cc.2, 1⟩ : En).cells :: .own g5 191 (ctC cc) :: .own g4 114 [.slice Av ([] : List En).length cv] :: .own g3 185 [ptr gp 0] :: .own g2 178 [.func (.func 89) #[] #[]] :: (rowE (.slice Av ([] : List En).length cv) 182 4 (jA2 []) ++ X2)) jF1 (by kernel_rfl) (fun Z hZ => ?_) ?_
    ·refine qM rfl rfl <| wF4 rfl rfl rfl <| qM rfl rfl <| jJ1 37 rfl false (by rfl) ?_
     refine qO0 ?_
     refine qO0 ?_
     refine qO0 ?_
     refine qO0 ?_
     refine qO0 ?_
     refine qO0 ?_
     refine qO0 ?_
     refine qO0 ?_
     refine qO0 ?_
     refine jE1 rfl rfl rfl <| jE9 (hZ _ _ ?_ ?_)
     ·exact kR rfl
     ·exact hV _
    refine aC0 (fun h9 => ?_) (fun h9 => ?_)
    ·cases h9
    refine aK <| nN <| aG (fun Z hZ => sL0 2 tyA114 tyS114 ?_)
    refine sLA0 0 tyA182 tyS182 ?_
    refine sBS0 Tryz.underlying114 tyS182 tyZ182 (fun g7 => ?_)
    refine jD3 (xs := jA2 []) (_ :: _ :: _ :: _ :: _ :: _ :: X2) kR2 rfl hv rfl rfl (fun w hw => jI0 (i := 0) (xs := (⟨x.id, cc.1, cc.2, 1⟩ : En).cells) rfl rfl hw) rfl (by decide) (by decide) (wK8 (X := [_, _, _, _, _, _])) rfl (fun v2 hv2 => ?_)
    obtain ⟨gv2, cv2, rfl⟩ := hv2.some (by omega)
    refine sS10 3 tyS114 ?_
    refine sN (hZ _ _ <| nF [] (kF) <| nBN <| kE0 (.own g4 114 [.slice (some ⟨gv2, 0, none⟩) (0 + 1) cv2] :: .own g3 185 [ptr gp 0] :: .own g2 178 [.func (.func 89) #[] #[]] :: (rowE (.slice (some ⟨gv2, 0, none⟩) (0 + 1) cv2) 182 4 (jA2 [⟨x.id, cc.1, cc.2, 1⟩]) ++ X2)) ⟨_, X2, hv2, hX2, rfl⟩ <| (kC 3 rfl).trans (vK6 (X := [_, _, _, _, _, _])))
   ·obtain ⟨m, hm⟩ : ∃ m, out.length = m + 1 := ⟨out.length - 1, by omega⟩
    have hml : m < out.length := by omega
    obtain ⟨a, ha⟩ : ∃ a, out[m]? = some a := ⟨_, xF hml⟩
    obtain ⟨hao, har⟩ := r5 a (xN ha)
    have hp1 : put1 out ⟨x.id, cc.1, cc.2, 1⟩ = if oneQ a ⟨x.id, cc.1, cc.2, 1⟩ then out.set m { a with run := a.run + 1 } else out ++ [⟨x.id, cc.1, cc.2, 1⟩] := by rw [vE0 (a := a) (by rw [hm, uN]; exact ha), hm, uN]
    rw [hp1]
    obtain ⟨gv, cv', hev⟩ := hv.some (by omega)
    injection hev with he1 _ he2
    subst he1; subst he2
    have hgo := yX7 a ⟨x.id, cc.1, cc.2, 1⟩ hao
    obtain ⟨q, hq⟩ := xZ9 (oneQ a ⟨x.id, cc.1, cc.2, 1⟩)
    rw [hq] at hgo ⊢
    refine jA7 (.own g6 182 (⟨x.id, cc.1, cc.2, 1⟩ : En).cells :: .own g5 191 (ctC cc) :: .own g4 114 [.slice (some ⟨gv, 0, none⟩) out.length cv] :: .own g3 185 [ptr gp 0] :: .own g2 178 [.func (.func 89) #[] #[]] :: .ob gv (RowP 182 4 out.length cv (jA2 out)) :: X2) (hV _) <| aS <| aR (fun Z hZ => sL0 2 tyA114 tyS114 ?_)
    refine jE5 Tryz.underlying114 rfl rfl <| jN0 rfl rfl ((m : Nat) : Int) (by rw [lT _ (by omega)]; omega) rfl ?_
    refine sAN hZ rfl rfl <| f4K 4 6 12 13 rfl <| jF0 [(6, ptr g4 0), (12, ptr g6 0), (13, iq (m : Nat)), (47, .bool q)] (.own g6 182 (⟨x.id, cc.1, cc.2, 1⟩ : En).cells :: .own g5 191 (ctC cc) :: .own g4 114 [.slice (some ⟨gv, 0, none⟩) out.length cv] :: .own g3 185 [ptr gp 0] :: .own g2 178 [.func (.func 89) #[] #[]] :: .ob gv (RowP 182 4 out.length cv (jA2 out)) :: X2) jF1 (by kernel_rfl) (fun Z hZ => ?_) ?_
    ·refine qM rfl rfl <| wF4 rfl rfl rfl <| qM rfl rfl <| jJ1 37 rfl true (by simp) ?_
     refine jA4 ?_
     refine jA9 4 tyA178 tyS178 ?_
     refine jA4 ?_
     refine jA9 2 tyA114 tyS114 ?_
     refine jA4 ?_
     refine qM rfl rfl <| jA4 ?_
     refine jG1 (0 + m * 4) Tryz.underlying114 tyS182 rfl rfl (by omega) (by simp) rfl ?_
     refine jA4 ?_
     refine jU5 (m * 4) rfl rfl (fun w hw => jS6 (i := 5) rfl hw) (by omega) tyA182 tyS182 (jK6 ha) rfl ?_
     refine jA4 ?_
     refine kI0 tyZ184 tyP184 rfl rfl (by simp only [qS, Nat.reduceAdd, Value.cells, wrV]; rfl) rfl ?_
     refine jA4 ?_
     refine jM6 0 rfl rfl tyA182 tyS182 rfl (by simp only [qS]; rfl) rfl ?_
     refine jA4 ?_
     refine kI0 tyZ184 tyP184 rfl rfl (by simp only [qS, Nat.reduceAdd, Value.cells, wrV]; rfl) rfl ?_
     refine jA4 ?_
     refine wF5 hgo rfl rfl rfl <| jE1 rfl rfl rfl <| jE9 (hZ _ _ ?_ ?_)
     ·exact kR rfl
     ·exact hV _
    refine aC0 (fun h9 => ?_) (fun h9 => ?_)
    ·rw [if_pos h9]
     refine aR (fun Z hZ => sL0 2 tyA114 tyS114 ?_)
     refine sM rfl rfl <| jA8 (0 + m * 4) Tryz.underlying114 tyS182 rfl rfl (by omega) (by simp) rfl ?_
     refine sFA0 jM4 ?_
     refine jN2 (m * 4 + 3) rfl (by omega) (fun w hw => jS6 (i := 5) rfl hw) (by omega) tyA180 tyS180 (vY9 ha) rfl ?_
     refine jB7 rfl rfl ((a.run + 1 : Nat) : Int) (by rw [uH _ (by omega)]; omega) rfl ?_
     refine jA8 (0 + m * 4) Tryz.underlying114 tyS182 rfl rfl (by omega) (by simp) rfl ?_
     refine sFA0 jM4 ?_
     refine vV9 (o := m * 4 + 3) 5 rfl rfl rfl tyS180 rfl (by omega) (yC2 ha (a.run + 1)) rfl ?_
     refine sN (hZ _ _ ?_)
     refine aF [] (kF) ?_
     refine jB5 ?_
     repeat (with_reducible refine nTE ?_)
     refine nBE ?_
     refine kE0 (.own g4 114 [.slice (some ⟨gv, 0, none⟩) out.length cv] :: .own g3 185 [ptr gp 0] :: .own g2 178 [.func (.func 89) #[] #[]] :: (rowE (.slice (some ⟨gv, 0, none⟩) out.length cv) 182 4 (jA2 (out.set m { a with run := a.run + 1 })) ++ X2)) ⟨_, X2, by rw [List.length_set]; exact hv, hX2, rfl⟩ (kC 2 rfl)
    rw [if_neg (by rw [h9]; simp)]
    refine aK <| nN <| aG (fun Z hZ => sL0 2 tyA114 tyS114 ?_)
    refine sLA0 0 tyA182 tyS182 ?_
    refine sBS0 Tryz.underlying114 tyS182 tyZ182 (fun g8 => ?_)
    refine jD3 (xs := jA2 out) (_ :: _ :: _ :: _ :: _ :: _ :: X2) kR2 rfl hv (by rw [jI6]) rfl (fun w hw => jI0 (i := 0) (xs := (⟨x.id, cc.1, cc.2, 1⟩ : En).cells) rfl rfl hw) rfl (by show _ ≤ 9223372036854775807; omega) (by omega) (wK8 (X := [_, _, _, _, _, _]) (T := rowE (.slice (some ⟨gv, 0, none⟩) out.length cv) 182 4 (jA2 out))) rfl (fun v2 hv2 => ?_)
    obtain ⟨gv2, cv2, rfl⟩ := hv2.some (by omega)
    refine sS10 3 tyS114 ?_
    refine sN (hZ _ _ <| nF [] (kF) <| nBN <| kE0 (.own g4 114 [.slice (some ⟨gv2, 0, none⟩) (out.length + 1) cv2] :: .own g3 185 [ptr gp 0] :: .own g2 178 [.func (.func 89) #[] #[]] :: (rowE (.slice (some ⟨gv2, 0, none⟩) (out.length + 1) cv2) 182 4 (jA2 (out ++ [⟨x.id, cc.1, cc.2, 1⟩])) ++ X2)) ⟨_, X2, by rw [lN]; exact hv2, hX2, rfl⟩ ?_)
    rw [show jA2 (out ++ [⟨x.id, cc.1, cc.2, 1⟩]) = jA2 out ++ (⟨x.id, cc.1, cc.2, 1⟩ : En).cells by simp [jA2]]
    exact (kC 3 rfl).trans (vK6 (X := [_, _, _, _, _, _]))
 ·rintro D H ⟨v, X, hv, hX, rfl⟩
  rw [qY, xY] at hv hX
  rw [qY, xY]
  have hrs := kW5 hok L.length (xP _)
  rw [xY] at hrs
  refine nBN ?_
  with_reducible refine jO8 ?_
  have htx := yP9 hX (by have := hrs.fl; omega)
  obtain ⟨Av, cv, rfl, hAv⟩ := hv.form
  refine jA7 (.ob D jK0 :: .own g4 114 [.slice Av (jJ4 L).1.length cv] :: .own g3 185 [ptr gp 0] :: (X ++ rowE (.slice Av (jJ4 L).1.length cv) 182 4 (jA2 (jJ4 L).1))) ?_ ?_
  ·exact yV9 _ _ _ _ _ X _
  refine jD5 _ [(0, true), (1, true), (2, false), (3, true), (4, true)] jF1 (by kernel_rfl) (HLe.pick [1, 2] (by simp) (by simp only [pick, l8, qS]; rfl)) (fun Z hZ => ?_)
  refine tw_p rfl <| jD6 0 rfl rfl tyA114 tyS114 rfl rfl <| vN <| tw_p rfl <| jD6 1 rfl rfl tyA185 tyS185 rfl rfl <| vN <| tw_g rfl <| jB4 X (_ :: _ :: _ :: rowE (.slice Av (jJ4 L).1.length cv) 182 4 (jA2 (jJ4 L).1)) htx rfl (HLe.comm3 [_, _, _] X _) rfl ?_
  rintro u X3 ⟨rfl, rfl⟩
  rw [hX.wrs.filter]
  refine jC6 _ (kD X3 (_ :: _ :: _ :: rowE (.slice Av (jJ4 L).1.length cv) 182 4 (jA2 (jJ4 L).1))) <| sN ⟨pH [1, 2] rfl, ?_⟩
  refine tw_p rfl <| jE3 rfl rfl <| vN <| tw_p rfl <| jE3 rfl rfl <| vN <| jH1 (hZ _ _ <| f2K 2 3 rfl <| aE <| jK2 [0] ⟨rfl, trivial⟩ (jD8 (rowE (.slice Av (jJ4 L).1.length cv) 182 4 (jA2 (jJ4 L).1)) rfl rfl rfl (HLe.trans (kA (xE _ X3)) (kC 2 rfl)) ⟨_, rfl, hv, rfl⟩))
end V
namespace V
open Go.RowKit
theorem wN4 {l : List MapEntry} (hn : (l.map (·.born)).Nodup) {j : Nat} {e0 : MapEntry} (h : l[j]? = some e0) : l.findIdx? (fun e => ((e.born : Nat) : Int) == ((e0.born : Nat) : Int)) = some j := by
 induction l generalizing j with
 | nil => simp at h
 | cons a r ih =>
  simp only [xR, qZ] at hn
  cases j with
  | zero =>
   simp only [xA, qD] at h
   subst h
   simp [List.findIdx?_cons]
  | succ j =>
   simp only [xC] at h
   have hne : a.born ≠ e0.born := fun e1 => hn.1 (List.mem_map.2 ⟨e0, xN h, e1.symm⟩)
   have hb : (((a.born : Nat) : Int) == ((e0.born : Nat) : Int)) = false := by
    simp only [beq_eq_false_iff_ne, ne_eq, Int.natCast_inj]
    exact hne
   rw [List.findIdx?_cons, hb]
   simp [ih hn.2 h]
section
variable {κ ν : Type} [DecidableEq κ] (encK : κ → Value) (encV : ν → Value)
structure EsOk (es : Array MapEntry) (clock : Nat) (M : List (κ × ν)) : Prop where
 rd : es.toList.map (fun e : MapEntry => (e.key, e.val)) = M.map (fun x => (encK x.1, encV x.2))
 nd : (jF2 M).Nodup
 lt : ∀ e ∈ es.toList, e.born < clock
 bn : (es.toList.map (·.born)).Nodup
def zR0 (M : List (κ × ν)) (o : Obj) : Prop := ∃ es clock, o = .map es clock ∧ EsOk encK encV es clock M
def vN5 (M1 : List (κ × ν)) (k : κ) (x : ν) (M2 : List (κ × ν)) (st : Nat) (o : Obj) : Prop :=
 ∃ es clock e0, o = .map es clock ∧ EsOk encK encV es clock (M1 ++ (k, x) :: M2) ∧ es.toList[M1.length]? = some e0 ∧ e0.born = st
abbrev mapS (b : Nat) (M : List (κ × ν)) : Ent := .ob b (zR0 encK encV M)
variable {encK encV} {b : Nat} {M : List (κ × ν)} {w w' : World}
theorem wK4 (h : (mapS encK encV b M).holds w) : MapIs encK encV w b M := by
 obtain ⟨o, h1, es, clock, rfl, h2⟩ := h
 exact ⟨es, clock, h1, h2.rd, h2.nd⟩
variable {P : Program} {K T E : TypeId}
theorem vD1 (h : KeyOk P K encK) (hT : P.underlying T = some (.map K E)) (hm : (mapS encK encV b M).holds w) {z : Value} (hz : (zeroValue E).run P w = .ok z w) {zv : ν} (hzv : encV zv = z) (k : κ) :
  ∃ w' M1 x M2 st, (Instr.mapEntry T (.map (some b)) (encK k)).run P w = .ok (.tuple #[((aget M k).map encV).getD z, goInt (st : Nat)]) w' ∧ (Ent.ob b (vN5 encK encV M1 k x M2 st)).holds w' ∧ OnlyMap w w' b ∧
   M1 ++ (k, x) :: M2 = aput M k ((aget M k).getD zv) ∧ k ∉ jF2 M1 ∧ encV x = ((aget M k).map encV).getD z ∧ ∀ v, aput M k v = M1 ++ (k, v) :: M2 := by
 obtain ⟨o, hb, es, clock, rfl, ⟨hes, hnd, hlt, hbn⟩⟩ := hm
 obtain ⟨f1, f2⟩ := jR9 h w k es.toList M hes
 rcases vG5 M k with ⟨h1, h2, h3, _⟩ | ⟨M1, x, M2, e, h1, h2, h3, _⟩
 ·have hl : es.toList.length = M.length := by simpa using congrArg List.length hes
  refine ⟨_, M, zv, [], clock, ?_, ⟨_, kB5 w hb _, es.push { key := encK k, val := z, born := clock }, clock + 1, { key := encK k, val := z, born := clock }, rfl, ⟨?_, ?_, ?_, ?_⟩, ?_, rfl⟩, ⟨_, rfl⟩, ?_, h1, ?_, h3⟩
  ·simp [Instr.mapEntry, run_underlying hT, MapKept.run_getObj_map hb, h.chk, f1 h1, hz, h2, MapKept.run_setObj_map _ hb, Result.andThen]
  ·simp [hes, hzv]
  ·rw [← h3]; exact kB0 hnd k zv
  ·intro y hy
   rw [Array.toList_push] at hy
   rcases List.mem_append.1 hy with hy | hy
   ·have := hlt y hy; omega
   ·rw [List.mem_singleton.1 hy]; exact Nat.lt_succ_self _
  ·simp only [Array.toList_push, x0, xR, qT]
   refine List.nodup_append.2 ⟨hbn, by simp, fun a ha c hc e1 => ?_⟩
   simp only [xU] at hc
   obtain ⟨y, hy, rfl⟩ := List.mem_map.1 ha
   have := hlt y hy
   omega
  ·rw [Array.toList_push, ← hl]; simp
  ·rw [h2, h3]; rfl
  ·rw [h2, hzv]; rfl
 ·have hlen : M1.length < es.toList.length := by
   have := congrArg List.length hes
   rw [e] at this
   simp at this
   simp [this]
  have hold : es.toList[M1.length]? = some es.toList[M1.length] := xF hlen
  obtain ⟨e0, he0⟩ := xZ9 (es.toList[M1.length])
  rw [he0] at hold
  have hkv : e0.key = encK k ∧ e0.val = encV x := by
   have := congrArg (fun l => l[M1.length]?) hes
   simp only [xZ] at this
   rw [e, hold] at this
   simp only [qH (xP _), uK, xA, qG, qD, Prod.mk.injEq] at this
   exact this
  have hj : es[M1.length]? = some e0 := by simpa using hold
  have hsame : es.modify M1.length (fun e => { e with key := encK k }) = es := by
   apply Array.ext'
   rw [Array.toList_modify]
   apply List.ext_getElem?
   intro j
   rw [List.getElem?_modify]
   by_cases hjm : M1.length = j
   ·subst hjm
    rw [hold]
    simp only [if_true]
    rw [← hkv.1]
    rfl
   ·simp [hjm]
  refine ⟨_, M1, x, M2, e0.born, ?_, ⟨_, kB5 w hb _, es, clock, e0, rfl, ⟨?_, ?_, hlt, hbn⟩, hold, rfl⟩, ⟨_, rfl⟩, ?_, h1, ?_, h3⟩
  ·simp [Instr.mapEntry, run_underlying hT, MapKept.run_getObj_map hb, h.chk, f2 M1 x M2 e h1, hj, hkv.1, h2, Instr.keyThatStays, h.same, hsame, MapKept.run_setObj_map _ hb, Result.andThen]
  ·rw [← e]; exact hes
  ·rw [← e]; exact hnd
  ·rw [h2, h3]; rfl
  ·rw [h2]; rfl
theorem kO5 {M1 M2 : List (κ × ν)} {k : κ} {x v : ν} {st : Nat} (hm : (Ent.ob b (vN5 encK encV M1 k x M2 st)).holds w) :
  ∃ w', (Instr.entryStore T (.map (some b)) (goInt (st : Nat)) (encV v)).run P w = .ok () w' ∧ (mapS encK encV b (M1 ++ (k, v) :: M2)).holds w' ∧ OnlyMap w w' b := by
 obtain ⟨o, hb, es, clock, e0, rfl, ⟨hes, hnd, hlt, hbn⟩, hj, hst⟩ := hm
 have hidx : es.findIdx? (fun e => ((e.born : Nat) : Int) == ((st : Nat) : Int)) = some M1.length := by
  have := wN4 hbn hj
  rw [hst] at this
  cases es
  simpa using this
 refine ⟨_, ?_, ⟨_, kB5 w hb _, es.modify M1.length (fun e => { e with val := encV v }), clock, rfl, ⟨?_, ?_, ?_, ?_⟩⟩, ⟨_, rfl⟩⟩
 ·simp [Instr.entryStore, MapKept.run_getObj_map hb, asInt, asIntOf, goInt, hidx, MapKept.run_setObj_map _ hb, Result.andThen]
 ·apply List.ext_getElem?
  intro j
  have hj2 := congrArg (fun l => l[j]?) hes
  simp only [xZ, z9] at hj2
  simp only [xZ, z9, z6]
  by_cases hjm : M1.length = j
  ·subst hjm
   simp only [qH (xP _), uK, xA, qG, if_true] at hj2 ⊢
   have hj3 : es[M1.length]? = some e0 := by simpa using hj
   rw [hj3] at hj2 ⊢
   simp only [qG, qD, Prod.mk.injEq] at hj2
   rw [← hj2.1]
   rfl
  ·simp only [hjm, if_false]
   rw [hj2]
   congr 1
   by_cases hlt2 : j < M1.length
   ·rw [qE hlt2, qE hlt2]
   ·rw [qH (by omega), qH (by omega)]
    obtain ⟨i, hi⟩ : ∃ i, j - M1.length = i + 1 := ⟨j - M1.length - 1, by omega⟩
    rw [hi]
    rfl
 ·have : jF2 (M1 ++ (k, v) :: M2) = jF2 (M1 ++ (k, x) :: M2) := by simp [jF2]
  rw [this]; exact hnd
 ·intro y hy
  rw [Array.toList_modify] at hy
  obtain ⟨j, hj2⟩ := List.mem_iff_getElem?.1 hy
  rw [List.getElem?_modify] at hj2
  cases hq : es.toList[j]? with
  | none => rw [hq] at hj2; simp at hj2
  | some q =>
   rw [hq] at hj2
   have := hlt q (xN hq)
   have hj3 : (if M1.length = j then ({ q with val := encV v } : MapEntry) else q) = y := lV hj2
   subst hj3
   split <;> exact this
 ·have : (es.modify M1.length (fun e => { e with val := encV v })).toList.map (·.born) = es.toList.map (·.born) := by
   rw [Array.toList_modify]
   apply List.ext_getElem?
   intro j
   rw [xZ, List.getElem?_modify, xZ]
   cases es.toList[j]? with
   | none => simp
   | some q => simp only [qG]; split <;> rfl
  rw [this]; exact hbn
end
section
variable {P : Program} {N : Frm} {w0 : World} {Wr : List Nat} {ops : Array Oper} {rest : List Oper} {fr : Fr} {H : Heap} {Z : Fr → Heap → Prop} {d ty : Nat} {pos : String} {after : Array Edge}
variable {κ ν : Type} [DecidableEq κ] {encK : κ → Value} {encV : ν → Value} {K T E : TypeId}
theorem yV2 {b : Nat} {M1 M2 : List (κ × ν)} {k : κ} {x : ν} {st : Nat} {w : World} (h : (Ent.ob b (vN5 encK encV M1 k x M2 st)).holds w) : MapIs encK encV w b (M1 ++ (k, x) :: M2) := by
 obtain ⟨o, h1, es, clock, e0, rfl, h2, _⟩ := h
 exact ⟨es, clock, h1, h2.rd, h2.nd⟩
theorem vW0 (i : Nat) (hK : KeyOk P K encK) (hT : P.underlying T = some (.map K E)) {z : Value} (hz : ∀ w, (zeroValue E).run P w = .ok z w) {x y : Operand} {b : Nat} {M : List (κ × ν)} (k : κ) {ok : Bool} (v : Value)
  (hx : ev fr x = some (.map (some b))) (hy : ev fr y = some (encK k)) (hH : H[i]? = some (mapS encK encV b M)) (hv : (if ok = true then Value.tuple #[((aget M k).map encV).getD z, .bool (aget M k).isSome] else ((aget M k).map encV).getD z) = v) (hN : bN d N)
  (h : sx P N w0 Wr ops rest ((d, v) :: fr) H Z) : sx P N w0 Wr ops (⟨some d, .lookup T x y ok, ty, pos, after, none⟩ :: rest) fr H Z :=
 jE4 v hN (fun a w ha hw => by
  subst hv
  have := kI1 hK hT (wK4 (hw.mem hH)) (hz w) k ok
  simp only [execOp, ha.eval hx, ha.eval hy, lJ, this, lR]
  rfl) h
theorem vW1 (i : Nat) (hK : KeyOk P K encK) (hT : P.underlying T = some (.map K E)) {z : Value} (hz : ∀ w, (zeroValue E).run P w = .ok z w) {x y : Operand} {b : Nat} {M1 M2 : List (κ × ν)} {u : ν} {st : Nat} (k : κ) (v : Value)
  (hx : ev fr x = some (.map (some b))) (hy : ev fr y = some (encK k)) (hH : H[i]? = some (.ob b (vN5 encK encV M1 k u M2 st))) (hk : k ∉ jF2 M1) (hv : encV u = v) (hN : bN d N)
  (h : sx P N w0 Wr ops rest ((d, v) :: fr) H Z) : sx P N w0 Wr ops (⟨some d, .lookup T x y false, ty, pos, after, none⟩ :: rest) fr H Z :=
 jE4 v hN (fun a w ha hw => by
  subst hv
  have := kI1 hK hT (yV2 (hw.mem hH)) (hz w) k false
  have hg : aget (M1 ++ (k, u) :: M2) k = some u := by
   rcases vG5 (M1 ++ (k, u) :: M2) k with ⟨h1, _⟩ | ⟨N1, y, N2, e, h1, h2, _⟩
   ·exact absurd (by simp [jF2]) h1
   ·rw [h2]
    clear this
    have : ∀ (M1 N1 : List (κ × ν)), M1 ++ (k, u) :: M2 = N1 ++ (k, y) :: N2 → k ∉ jF2 M1 → k ∉ jF2 N1 → u = y := by
     intro M1
     induction M1 with
     | nil =>
      intro N1 e h1 h2
      cases N1 with
      | nil => simp at e; exact e.1
      | cons a r => simp at e; exact absurd (by rw [← e.1]; simp [jF2]) h2
     | cons a r ih =>
      intro N1 e h1 h2
      cases N1 with
      | nil => simp at e; exact absurd (by rw [e.1]; simp [jF2]) h1
      | cons a' r' =>
       simp only [lL, List.cons.injEq] at e
       simp only [jF2, xR, lW, not_or] at h1 h2
       exact ih r' e.2 h1.2 h2.2
    rw [this M1 N1 e hk h1]
  rw [hg] at this
  simp only [execOp, ha.eval hx, ha.eval hy, lJ, this, lR]
  rfl) h
theorem wY1 (i : Nat) (hT : P.underlying T = some (.map K E)) {x : Operand} {b : Nat} {M : List (κ × ν)} (hx : ev fr x = some (.map (some b))) (hH : H[i]? = some (mapS encK encV b M)) (hN : bN d N)
  (h : sx P N w0 Wr ops rest ((d, .int .i64 (M.length : Nat)) :: fr) H Z) : sx P N w0 Wr ops (⟨some d, .call { callee := .builtin .len, args := #[x], argTypes := #[T] }, ty, pos, after, none⟩ :: rest) fr H Z :=
 jE4 _ hN (fun a w ha hw => by
  have := vJ5 (ty := ty) hT (wK4 (hw.mem hH))
  have he := ha.eval hx
  simp [execOp, resolve, invoke, builtin, he, lJ, this]) h
theorem vI8 {t : TypeId} (hN : bN d N) (encK : κ → Value) (encV : ν → Value)
  (h : ∀ b, sx P N w0 Wr ops rest ((d, .map (some b)) :: fr) (mapS encK encV b [] :: H) Z) : sx P N w0 Wr ops (⟨some d, .makeMap t none, ty, pos, after, none⟩ :: rest) fr H Z := by
 refine jI7 (R := fun v H' => ∃ b, v = .map (some b) ∧ H' = mapS encK encV b [] :: H) hN (fun a w ha hw => ?_) (fun v H' hR => by obtain ⟨b, rfl, rfl⟩ := hR; exact h b)
 refine ⟨.map (some w.heap.size), w.alloc (.map #[] 0), _, ?_, ⟨w.heap.size, rfl, rfl⟩, hw.fresh ?_ ((Bel.refl w).alloc _) (xP _)⟩
 ·simp [execOp, Instr.makeMap]
 ·exact ⟨_, by show (w.heap.push _)[w.heap.size]? = _; simp, #[], 0, rfl, ⟨by simp, by simp [jF2], by simp, by simp⟩⟩
theorem kK4 (i : Nat) (hK : KeyOk P K encK) (hT : P.underlying T = some (.map K E)) {z : Value} (hz : ∀ w, (zeroValue E).run P w = .ok z w) {zv : ν} (hzv : encV zv = z) {x y : Operand} {b : Nat} {M : List (κ × ν)} (k : κ)
  (hx : ev fr x = some (.map (some b))) (hy : ev fr y = some (encK k)) (hH : H[i]? = some (mapS encK encV b M)) (hN : bN d N)
  (h : ∀ (M1 : List (κ × ν)) (u : ν) (M2 : List (κ × ν)) (st : Nat), k ∉ jF2 M1 → encV u = ((aget M k).map encV).getD z → (∀ v, aput M k v = M1 ++ (k, v) :: M2) →
   sx P N w0 Wr ops rest ((d, .tuple #[((aget M k).map encV).getD z, goInt (st : Nat)]) :: fr) (H.set i (.ob b (vN5 encK encV M1 k u M2 st))) Z) : sx P N w0 Wr ops (⟨some d, .mapEntry T x y, ty, pos, after, none⟩ :: rest) fr H Z := by
 refine jI7 (R := fun v H' => ∃ (M1 : List (κ × ν)) (u : ν) (M2 : List (κ × ν)) (st : Nat), (k ∉ jF2 M1 ∧ encV u = ((aget M k).map encV).getD z ∧ ∀ v, aput M k v = M1 ++ (k, v) :: M2) ∧ v = .tuple #[((aget M k).map encV).getD z, goInt (st : Nat)] ∧ H' = H.set i (.ob b (vN5 encK encV M1 k u M2 st))) hN (fun a w ha hw => ?_) (fun v H' hR => by
  obtain ⟨M1, u, M2, st, ⟨h1, h2, h3⟩, rfl, rfl⟩ := hR
  exact h M1 u M2 st h1 h2 h3)
 obtain ⟨w', M1, u, M2, st, h1, h2, h3, _, h5, h6, h7⟩ := vD1 hK hT (hw.mem hH) (hz w) hzv k
 refine ⟨_, w', _, ?_, ⟨M1, u, M2, st, ⟨h5, h6, h7⟩, rfl, rfl⟩, hw.turn hH rfl rfl h3.only h2⟩
 simp only [execOp, ha.eval hx, ha.eval hy, lJ, h1, lR]
 rfl
theorem jZ2 (i : Nat) {x s y : Operand} {b : Nat} {M1 M2 : List (κ × ν)} {k : κ} {u v : ν} {st : Nat} (hx : ev fr x = some (.map (some b))) (hs : ev fr s = some (goInt (st : Nat))) (hy : ev fr y = some (encV v)) (hH : H[i]? = some (.ob b (vN5 encK encV M1 k u M2 st)))
  {H2 : Heap} (hH2 : H.set i (mapS encK encV b (M1 ++ (k, v) :: M2)) = H2)
  (h : sx P N w0 Wr ops rest fr H2 Z) : sx P N w0 Wr ops (⟨none, .entryStore T x s y, ty, pos, after, none⟩ :: rest) fr H Z :=
 wD7 (fun a w ha hw => by
  subst hH2
  obtain ⟨w', h1, h2, h3⟩ := kO5 (P := P) (T := T) (v := v) (hw.mem hH)
  refine ⟨w', ?_, hw.turn hH rfl rfl h3.only h2⟩
  simp only [execOp, ha.eval hx, ha.eval hs, ha.eval hy, lJ, h1, lR]
  rfl) h
end
end V
namespace V
open Go.RowKit
set_option maxRecDepth 100000
theorem keyC : KeyOk Tryz.prog 312 (fun c : Nat × Nat => ctV c) where
 eq a b w := by
  obtain ⟨a1, a2⟩ := a
  obtain ⟨b1, b2⟩ := b
  simp [go_sem, Op.equal, Op.maxDepth]
  by_cases h1 : a1 = b1 <;> by_cases h2 : a2 = b2
  ·simp [h1, h2]
  ·have : ¬ (a2 : Int) = b2 := by omega
   simp [h1, h2, this]
  ·have : ¬ (a1 : Int) = b1 := by omega
   simp [h1, this]
  ·have : ¬ (a1 : Int) = b1 := by omega
   simp [h1, this]
 chk e a w := by
  have hi : ∀ (x : Nat) (n : Nat), (Instr.checkKey e (n + 1) 61 (.int .u64 (x : Int))).run Tryz.prog w = .ok () w := fun x n => by
   rw [Instr.checkKey]
   simp [run_underlying Tryz.underlying61]
  have hj : ∀ (x : Nat) (n : Nat), (Instr.checkKey e (n + 1) 180 (.int .u32 (x : Int))).run Tryz.prog w = .ok () w := fun x n => by
   rw [Instr.checkKey]
   simp [run_underlying Tryz.underlying180]
  rw [show (10000 : Nat) = 9998 + 1 + 1 from rfl, Instr.checkKey]
  simp [go_sem, run_underlying Tryz.underlying312, hi, hj]
 und := ⟨_, Tryz.underlying312, .inl fun a b => by simp [Instr.sameNow]⟩
 same a := by simp [Instr.sameBits]
abbrev CtM := List ((Nat × Nat) × Nat)
def seeC (M : CtM) (k : Nat × Nat) : CtM := aput M k ((aget M k).getD 0 + 1)
def cst1 (M : CtM) (e : En) : CtM := if chkE e = 0 ∧ 0 < e.run then seeC M (e.off, e.len) else M
def cstM (L : List En) : CtM := L.foldl cst1 []
theorem vF9 {L : List En} {k : Nat} {x : En} (h : L[k]? = some x) : cstM (L.take (k + 1)) = cst1 (cstM (L.take k)) x := by
 obtain ⟨hlt, rfl⟩ := List.getElem?_eq_some_iff.1 h
 unfold cstM
 rw [qC hlt, List.foldl_append, zU, List.foldl_nil]
theorem yM1 : ∀ (L : List En) (i : Nat), i ≤ L.length → ∀ k, (aget (cstM (L.take i)) k).getD 0 ≤ i
 | L, 0, _, k => by simp [cstM, aget]
 | L, i + 1, h, k => by
  have hx : L[i]? = some L[i] := xF (by omega)
  have ih := yM1 L i (by omega)
  rw [vF9 hx]
  unfold cst1 seeC
  split
  ·rw [kC6]
   split
   ·have := ih (L[i].off, L[i].len); simp only [Option.getD_some]; omega
   ·have := ih k; omega
  ·have := ih k; omega
abbrev wZ4 (gm : Nat) (M : CtM) : Ent := mapS (fun c : Nat × Nat => ctV c) (fun n : Nat => iq (n : Nat)) gm M
theorem vM8 (A : Option Addr) (c : Nat) (L : List En) (T : Heap) (hA : jK9 A L.length) (hT : 0 < L.length → T = roE A (jA2 L)) (hL : L.length ≤ 100000) (hE : jF5 L) :
  Fn Tryz.prog 107 [.slice A L.length c] T fun v _ => v = iq ((cstM L).length : Nat) := by
 refine fE 33 Tryz.func107 rfl (fun w0 => aA rfl rfl <| f1K 0 rfl <| aR (fun Z hZ => vI8 rfl (fun c : Nat × Nat => ctV c) (fun n : Nat => iq (n : Nat)) (fun gm => sAN hZ rfl rfl <| f2K 0 3 rfl <| aS <| aR fun Z hZ => sM rfl rfl <| jE5 Tryz.underlying114 rfl rfl ?_)))
 refine sMN hZ rfl rfl <| f4K 3 7 8 9 rfl <| aB ?_
 refine jC3 (ι := Nat) (fun i => [(3, .map (some gm)), (7, .slice A L.length c), (8, iq (L.length : Nat)), (9, iq (i : Nat))]) (fun i => wZ4 gm (cstM (L.take i)) :: T)
  (fun i => i ≤ L.length) (fun i => L.length - i) 0 (by simp) (kR rfl) (hV _) ?_
 rintro i hi
 refine aR (fun Z hZ => jB0 ?_)
 refine sN (hZ _ _ <| f5K 3 7 8 9 10 rfl <| aS (aC0 (fun h1 => ?_) (fun h1 => ?_)))
 ·have hlt : i < L.length := by simpa using h1
  obtain ⟨x, hx⟩ : ∃ x, L[i]? = some x := ⟨_, xF hlt⟩
  have hxo := hE x (xN hx)
  have hsn := vF9 hx
  have hcl := yM1 L i (by omega) (x.off, x.len)
  obtain ⟨M, hM⟩ := xZ9 (cstM (L.take i))
  rw [hM] at hsn hcl ⊢
  obtain ⟨g, o, rfl⟩ := hA (by omega)
  obtain rfl := hT (by omega)
  refine jA7 [wZ4 gm M, .ro g o (jA2 L)] (hV _) <| aK <| nN <| aS (aB <| aR (fun Z hZ => jA8 (o + i * 4) Tryz.underlying114 tyS182 rfl rfl (by omega) (by simp) rfl ?_))
  refine jE0 1 rfl rfl (i * 4) rfl tyA182 tyS182 (jK6 hx) rfl <| sAl tyZ182 rfl (fun g1 => sS0 0 tyS182 ?_)
  refine sN (hZ _ _ <| f5K 3 5 7 8 9 rfl <| jA0 [(3, .map (some gm)), (5, ptr g1 0), (7, .slice (some ⟨g, o, none⟩) L.length c), (8, iq (L.length : Nat)), (9, iq (i : Nat)), (19, .bool (decide (chkE x = 0 ∧ 0 < x.run)))] [.own g1 182 x.cells, wZ4 gm M, .ro g o (jA2 L)] (fun Z hZ => ?_) ?_)
  ·refine sLA0 0 tyA182 tyS182 ?_
   refine sCP0 (wQ4 x hxo) ?_
   refine sM rfl rfl <| jB3 15 rfl (fun hb2 => ?_) (fun hb2 => ?_)
   ·refine sOn0 ?_
    refine sFA0 jM4 ?_
    refine sOn0 ?_
    refine sL0 0 tyA180 tyS180 ?_
    refine sOn0 ?_
    refine jC4 ?_
    refine sP0 ?_
    refine sN (hZ _ _ ?_ ?_)
    ·exact kE rfl (kE rfl (kE rfl (kE rfl (kE rfl (kE (congrArg some (congrArg Value.bool (by first | (simp at *; done) | (simp at *; omega) | (simp at *; simp_all; done) | (simp at *; simp_all; omega)))) kF)))))
    ·exact hV _
   ·refine sO0 ?_
    refine sO0 ?_
    refine sO0 ?_
    refine sP0 ?_
    refine sN (hZ _ _ ?_ ?_)
    ·exact kE rfl (kE rfl (kE rfl (kE rfl (kE rfl (kE (congrArg some (congrArg Value.bool (by first | (simp at *; done) | (simp at *; omega) | (simp at *; simp_all; done) | (simp at *; simp_all; omega)))) kF)))))
    ·exact hV _
  refine aC0 (fun h2 => ?_) (fun h2 => ?_)
  ·have hc : chkE x = 0 ∧ 0 < x.run := by simpa using h2
   have h3 : cst1 M x = aput M (x.off, x.len) ((aget M (x.off, x.len)).getD 0 + 1) := by unfold cst1 seeC; rw [if_pos hc]
   have hget : ((aget M (x.off, x.len)).map fun n : Nat => iq (n : Nat)).getD (iq (0 : Nat)) = iq ((aget M (x.off, x.len)).getD 0 : Nat) := by cases aget M (x.off, x.len) <;> rfl
   rw [h3] at hsn
   obtain ⟨n, hn⟩ := xZ9 ((aget M (x.off, x.len)).getD 0)
   rw [hn] at hget hcl hsn
   refine kS1 (fun _ : Unit => [(3, .map (some gm)), (7, .slice (some ⟨g, o, none⟩) L.length c), (8, iq (L.length : Nat)), (9, iq (i : Nat))]) (fun _ => [wZ4 gm (aput M (x.off, x.len) (n + 1)), .ro g o (jA2 L)]) (fun _ => True) _ [6, 8, 10] (Tr.step (0, true) (Tr.step (1, true) (Tr.step (2, true) (Tr.step (3, true) (Tr.step (4, true) (Tr.step (5, true) (Tr.fork (Tr.step (6, false) (Tr.step (7, true) (Tr.step (8, false) (Tr.step (9, true) (Tr.step (10, false) Tr.nil))))) (Tr.step (8, false) (Tr.step (9, true) (Tr.step (6, false) (Tr.step (7, true) (Tr.step (10, false) Tr.nil)))))))))))) jF1 (by kernel_rfl) (HLe.pick [0] (by simp) (by simp only [pick, l8, qS]; rfl)) ?_ ?_
   ·refine tt_p rfl <| jA5 ?_
    refine vN <| tt_p rfl <| jA3 jH0 ?_
    refine vN <| tt_p rfl ?_
    first | refine jD6 0 rfl rfl tyA61 tyS61 rfl rfl ?_
    refine vN <| tt_p rfl <| jA3 jJ6 ?_
    refine vN <| tt_p rfl ?_
    first | refine jD6 0 rfl rfl tyA180 tyS180 rfl rfl ?_
    refine vN <| tt_p rfl <| jZ7 tyZ312 tyP312 rfl rfl (by simp only [qS, Nat.reduceAdd, Value.cells, wrV]; rfl) rfl ?_
    refine vN <| vI0 ?_ ?_
    ·refine tt_g rfl <| vW0 1 keyC Tryz.underlying310 vV5 (x.off, x.len) (iq (n : Nat)) rfl rfl rfl hget rfl <| sN ⟨pH [0] rfl, ?_⟩
     refine tt_p rfl <| vP6 rfl rfl ((n + 1 : Nat) : Int) (by rw [lT _ (by omega)]; omega) rfl ?_
     refine vN <| tt_g rfl <| kK4 1 keyC Tryz.underlying310 vV5 (zv := 0) rfl (x.off, x.len) rfl rfl rfl rfl (fun M1 u1 M2 st hk1 hu1 hap => sN ⟨pH [0] rfl, ?_⟩)
     refine tt_p rfl <| jE7 rfl rfl rfl <| vN <| tt_g rfl <| jZ2 (v := n + 1) 1 rfl rfl rfl rfl rfl <| sN ⟨pH [0] rfl, ?_⟩
     refine kK1 ?_
     rw [hap]
     exact ⟨(), trivial, kR rfl, kC 1 rfl⟩
    ·refine tt_g rfl <| kK4 1 keyC Tryz.underlying310 vV5 (zv := 0) rfl (x.off, x.len) rfl rfl rfl rfl (fun M1 u1 M2 st hk1 hu1 hap => sN ⟨pH [0] rfl, ?_⟩)
     refine tt_p rfl <| jE7 rfl rfl rfl <| vN <| tt_g rfl <| vW1 1 keyC Tryz.underlying310 vV5 (x.off, x.len) (iq (n : Nat)) rfl rfl rfl hk1 (hu1.trans hget) rfl <| sN ⟨pH [0] rfl, ?_⟩
     refine tt_p rfl <| vP6 rfl rfl ((n + 1 : Nat) : Int) (by rw [lT _ (by omega)]; omega) rfl ?_
     refine vN <| tt_g rfl <| jZ2 (v := n + 1) 1 rfl rfl rfl rfl rfl <| sN ⟨pH [0] rfl, ?_⟩
     refine kK1 ?_
     rw [hap]
     exact ⟨(), trivial, kR rfl, kC 1 rfl⟩
   rintro ⟨⟩ -
   repeat (with_reducible refine nBN ?_)
   refine nN ?_
   refine aG (fun Z hZ => ?_)
   refine jB7 rfl rfl ((i + 1 : Nat) : Int) (by rw [lT _ (by omega)]; omega) rfl ?_
   refine sMN hZ rfl rfl <| nF [(3, _), (7, _), (8, _), (9, _)] (kR rfl) <| jC2 (i + 1) hlt (by omega) (kR rfl) (by rw [hsn]; exact hV _)
  ·have hc : ¬ (chkE x = 0 ∧ 0 < x.run) := by simpa using h2
   have h3 : cst1 M x = M := by unfold cst1; rw [if_neg hc]
   rw [h3] at hsn
   refine aK ?_
   repeat (with_reducible refine nBN ?_)
   refine nN ?_
   refine aG (fun Z hZ => ?_)
   refine jB7 rfl rfl ((i + 1 : Nat) : Int) (by rw [lT _ (by omega)]; omega) rfl ?_
   refine sMN hZ rfl rfl <| nF [(3, _), (7, _), (8, _), (9, _)] (kR rfl) <| jC2 (i + 1) hlt (by omega) (kR rfl) (by rw [hsn]; exact kC 1 rfl)
 ·refine jB5 ?_
  repeat (with_reducible refine nTE ?_)
  refine nBE ?_
  refine nN ?_
  have hke : i = L.length := by simp at h1; omega
  subst hke
  rw [xY]
  refine aR fun Z hZ => sM rfl rfl <| wY1 0 Tryz.underlying310 rfl rfl rfl <| sAN hZ rfl rfl <| f1K 2 rfl <| aE <| nR10 rfl
end V
namespace V
open Go.RowKit
theorem yM4 {e : En} (h1 : e.len ≠ 0) (h2 : e.id + e.wide ≤ 6004799503160661) (h3 : e.off + e.len ≤ 1099511627776) : chkE e = 0 := by
 have hw : 1 ≤ e.wide := by unfold En.wide; omega
 have hn : e.next = e.off + e.len := by unfold En.next; omega
 unfold chkE
 rw [if_neg h1, if_neg (by omega), if_neg (by omega)]
theorem yW2 {e : En} (h : chkE e = 0) (hr : 0 < e.run) : jK4 e = e.id + e.run - 1 := by
 unfold jK4 En.wide
 rw [if_pos h]
 omega
theorem wN6 : ∀ (ts r : List Tx) (o : Nat) (t : Tx), t ∈ ts → fdQ o (ts ++ r) t = fdQ o ts t
 | [], _, _, _, h => by cases h
 | x :: q, r, o, t, h => by
  rw [lL, fdQ, fdQ]
  split
  ·rfl
  ·rename_i hne
   rcases List.mem_cons.1 h with e | h
   ·exact absurd e.symm hne
   ·exact wN6 q r _ t h
theorem yH9 {ts : List Tx} (r : List Tx) {t : Tx} (h : t ∈ ts) : addC (ts ++ r) t = addC ts t := by
 unfold addC
 rw [wN6 ts r 0 t h]
 cases hf : fdQ 0 ts t with
 | none => exact absurd h ((jW3 ts 0 t).1 hf)
 | some c => rfl
theorem vV3 {ts : List Tx} (hn : ts.Nodup) {t : Tx} (h : t ∈ ts) : (ts.flatten.drop (addC ts t).1).take (addC ts t).2 = t ∧ (addC ts t).1 + (addC ts t).2 ≤ ts.flatten.length ∧ (addC ts t).2 = t.length := by
 obtain ⟨k, hk, hkt⟩ := List.getElem_of_mem h
 have hg : ts[k]? = some t := by rw [xF hk, hkt]
 obtain ⟨h1, h2⟩ := vL7 ts k t hg
 have hc : addC ts t = ((ts.take k).flatten.length, t.length) := by unfold addC; rw [vT1 ts 0 k t hn hg, lA]; rfl
 rw [hc]
 exact ⟨h2, h1, rfl⟩
theorem vV2 (ts : List Tx) (s : Tx) : s ∈ addT ts s := by
 unfold addT
 split
 ·assumption
 ·simp
theorem yH8 {ts : List Tx} (s : Tx) {t : Tx} (h : t ∈ ts) : t ∈ addT ts s := by
 unfold addT
 split
 ·exact h
 ·exact xI _ h
theorem wV2 {ts : List Tx} (hn : ts.Nodup) (s : Tx) : addC (addT ts s) s = addC ts s := by
 unfold addT
 split
 ·rfl
 ·rename_i hm
  have hn2 : (ts ++ [s]).Nodup := List.nodup_append.2 ⟨hn, by simp, fun a ha b hb => by rw [List.mem_singleton.1 hb]; exact fun e => hm (e ▸ ha)⟩
  have h1 : addC ts s = (ts.flatten.length, s.length) := by unfold addC; rw [(jW3 ts 0 s).2 hm]; rfl
  have h2 : addC (ts ++ [s]) s = (ts.flatten.length, s.length) := by
   unfold addC
   rw [vT1 (ts ++ [s]) 0 ts.length s hn2 (by simp), lA]
   simp
  rw [h1, h2]
def tsS (C : List It) : List Tx := C.foldl (fun ts x => addT ts x.tx) []
theorem wC2 : ∀ (Q : List It) (ts : List Tx), ∃ r, Q.foldl (fun ts x => addT ts x.tx) ts = ts ++ r
 | [], ts => ⟨[], by simp⟩
 | x :: q, ts => by
  obtain ⟨r, hr⟩ := wC2 q (addT ts x.tx)
  rw [zU, hr]
  unfold addT
  split
  ·exact ⟨r, rfl⟩
  ·exact ⟨[x.tx] ++ r, by rw [xD]⟩
theorem kH6 {C : List It} {k : Nat} {x : It} (h : C[k]? = some x) : tsS (C.take (k + 1)) = addT (tsS (C.take k)) x.tx := by
 obtain ⟨hlt, rfl⟩ := List.getElem?_eq_some_iff.1 h
 unfold tsS
 rw [qC hlt, List.foldl_append, zU, List.foldl_nil]
theorem wX4 (C : List It) (k : Nat) : ∃ r, tsS C = tsS (C.take k) ++ r := by
 have h : tsS C = (C.drop k).foldl (fun ts x => addT ts x.tx) (tsS (C.take k)) := by
  unfold tsS
  rw [← List.foldl_append, zZ]
 rw [h]
 exact wC2 _ _
theorem wC3 {C : List It} (h : ∀ x ∈ C, x.tx ≠ []) : ∀ k, k ≤ C.length → TsOk (tsS (C.take k)) ∧ ∀ t, t ∈ tsS (C.take k) ↔ ∃ x ∈ C.take k, x.tx = t
 | 0, _ => ⟨⟨List.nodup_nil, fun t ht => by cases ht⟩, fun t => by simp [tsS]⟩
 | k + 1, hk => by
  have hx : C[k]? = some C[k] := xF (by omega)
  obtain ⟨h1, h2⟩ := wC3 h k (by omega)
  rw [kH6 hx]
  refine ⟨wU9 h1 (h _ (zQ _)), fun t => ?_⟩
  rw [qC (by omega)]
  constructor
  ·intro ht
   unfold addT at ht
   split at ht
   ·obtain ⟨x, hx, he⟩ := (h2 t).1 ht
    exact ⟨x, xI _ hx, he⟩
   ·rcases List.mem_append.1 ht with ht | ht
    ·obtain ⟨x, hx, he⟩ := (h2 t).1 ht
     exact ⟨x, xI _ hx, he⟩
    ·exact ⟨C[k], x7 _ (List.mem_singleton.2 rfl), (List.mem_singleton.1 ht).symm⟩
  ·rintro ⟨x, hx2, rfl⟩
   rcases List.mem_append.1 hx2 with hx2 | hx2
   ·exact yH8 _ ((h2 x.tx).2 ⟨x, hx2, rfl⟩)
   ·rw [List.mem_singleton.1 hx2]; exact vV2 _ _
def kJ3 (C : List It) : List En := C.map (enOf (tsS C))
theorem wH6 {C : List It} (h : ∀ x ∈ C, x.tx ≠ []) : ∀ k, k ≤ C.length → jJ4 (C.take k) = (((C.take k).map (enOf (tsS C))).foldl put1 [], tsS (C.take k))
 | 0, _ => by simp [jJ4, tsS]
 | k + 1, hk => by
  have hx : C[k]? = some C[k] := xF (by omega)
  obtain ⟨h1, h2⟩ := wC3 h k (by omega)
  have hen : enOf (tsS (C.take k)) C[k] = enOf (tsS C) C[k] := by
   obtain ⟨r, hr⟩ := wX4 C (k + 1)
   unfold enOf
   rw [hr, yH9 r (by rw [kH6 hx]; exact vV2 _ _), kH6 hx, wV2 h1.nd]
  rw [kL5 hx, wH6 h k (by omega), kH6 hx]
  unfold rwS
  simp only
  rw [hen, qC (by omega), x0, List.foldl_append]
  rfl
theorem yS7 {C : List It} (h : ∀ x ∈ C, x.tx ≠ []) : jJ4 C = ((kJ3 C).foldl put1 [], tsS C) := by
 have := wH6 h C.length (xP _)
 rw [xY] at this
 exact this
def expE (e : En) : List En := (List.range e.run).map fun k => { e with id := e.id + k, run := 1 }
theorem kY6 (e : En) : (expE e).length = e.run := by simp [expE]
theorem expE_mem {e u : En} : u ∈ expE e ↔ ∃ k, k < e.run ∧ u = { e with id := e.id + k, run := 1 } := by
 unfold expE
 rw [xG]
 exact ⟨fun ⟨k, hk, h⟩ => ⟨k, List.mem_range.1 hk, h.symm⟩, fun ⟨k, hk, h⟩ => ⟨k, List.mem_range.2 hk, h.symm⟩⟩
structure UnOk (u : En) : Prop where
 run : u.run = 1
 chk : chkE u = 0
 ok : u.ok
structure GrOk (us G : List En) : Prop where
 ex : G.flatMap expE = us
 ok : ∀ e ∈ G, 0 < e.run ∧ chkE e = 0 ∧ e.ok
 sep : ∀ i a b, G[i]? = some a → G[i + 1]? = some b → jK4 a < b.id ∧ oneQ a b = false
theorem wK5 {α : Type} (G : List α) (h : G ≠ []) : ∃ X a, G = X ++ [a] := ⟨G.dropLast, G.getLast h, (List.dropLast_concat_getLast h).symm⟩
theorem wI9 (X : List En) (a u : En) : put1 (X ++ [a]) u = if oneQ a u then X ++ [{ a with run := a.run + 1 }] else X ++ [a] ++ [u] := by
 have hl : (X ++ [a]).length - 1 = X.length := by simp
 have hg : (X ++ [a])[(X ++ [a]).length - 1]? = some a := by rw [hl]; simp
 rw [vE0 hg, hl]
 split
 ·rw [List.set_append_right _ _ (xP _), uK]; rfl
 ·rfl
theorem GrOk.step {us G : List En} (h : GrOk us G) {u : En} (hu : UnOk u) (hr : ∀ v ∈ us, v.id < u.id) (hl : us.length < 4294967295) : GrOk (us ++ [u]) (put1 G u) := by
 have hux : expE u = [u] := by
  unfold expE
  rw [hu.run]
  have : ({ u with id := u.id + 0, run := 1 } : En) = u := by
   obtain ⟨a, b, c, d⟩ := u
   have := hu.run
   simp only at this
   subst this
   rfl
  simpa using this
 by_cases h0 : G = []
 ·subst h0
  have : us = [] := h.ex.symm
  subst this
  refine ⟨by show [u].flatMap expE = _; simp [hux], fun e he => ?_, fun i a b h1 h2 => ?_⟩
  ·rw [show e = u from List.mem_singleton.1 he]
   exact ⟨by rw [hu.run]; exact Nat.one_pos, hu.chk, hu.ok⟩
  ·simp [put1] at h2
 ·obtain ⟨X, a, rfl⟩ := wK5 G h0
  obtain ⟨ha1, ha2, ha3⟩ := h.ok a (by simp)
  have hex := h.ex
  rw [zI] at hex
  have hexa : [a].flatMap expE = expE a := by simp
  rw [hexa] at hex
  have hal : a.run ≤ us.length := by rw [← hex, lN, kY6]; omega
  have hla := yW2 ha2 ha1
  have hlt : jK4 a < u.id := by
   have hm : ({ a with id := a.id + (a.run - 1), run := 1 } : En) ∈ us := by
    rw [← hex]
    exact x7 _ (expE_mem.2 ⟨a.run - 1, by omega, rfl⟩)
   have := hr _ hm
   simp only at this
   omega
  rw [wI9]
  split
  ·rename_i hone
   obtain ⟨o1, o2, o3⟩ := of_decide_eq_true hone
   obtain ⟨c1, c2, c3, c4⟩ := kG1 ha3 ha2
   obtain ⟨d1, d2, d3, d4⟩ := kG1 hu.ok hu.chk
   obtain ⟨k1, k2, k3, k4⟩ := ha3
   have hwu : u.wide = 1 := by unfold En.wide; rw [hu.run]; rfl
   have hsame : ({ a with id := a.id + a.run, run := 1 } : En) = u := by
    obtain ⟨p, q, r, s⟩ := u
    have := hu.run
    simp only at this o1 o2 o3 ⊢
    subst this; subst o2; subst o3
    congr 1
    omega
   refine ⟨?_, fun e he => ?_, fun i x y h1 h2 => ?_⟩
   ·rw [zI, ← hex, xD]
    congr 1
    show [({ a with run := a.run + 1 } : En)].flatMap expE = _
    simp only [x5, List.flatMap_nil, lH]
    unfold expE
    rw [List.range_succ, x0]
    simp only [xR, qT]
    rw [hsame]
   ·rcases List.mem_append.1 he with he | he
    ·exact h.ok e (xI _ he)
    ·rw [List.mem_singleton.1 he]
     have hn : a.next = a.off + a.len := by unfold En.next; omega
     exact ⟨Nat.succ_pos _, yM4 c1 (by show a.id + max 1 (a.run + 1) ≤ _; omega) (by show a.off + a.len ≤ _; omega), k1, k2, k3, by show a.run + 1 < _; omega⟩
   ·have hil : i + 1 < (X ++ [({ a with run := a.run + 1 } : En)]).length := (List.getElem?_eq_some_iff.1 h2).1
    rw [lN, zY] at hil
    have hx : X[i]? = some x := by rwa [qE (by omega)] at h1
    rcases xX (i + 1) X.length with hlt2 | hge
    ·rw [qE hlt2] at h2
     exact h.sep i x y (by rw [qE (by omega)]; exact hx) (by rw [qE hlt2]; exact h2)
    ·have hi : i + 1 = X.length := by omega
     have hs := h.sep i x a (by rw [qE (by omega)]; exact hx) (by rw [hi]; simp)
     rw [hi] at h2
     simp only [List.getElem?_concat_length, qD] at h2
     subst h2
     exact ⟨hs.1, hs.2⟩
  ·rename_i hone
   refine ⟨?_, fun e he => ?_, fun i x y h1 h2 => ?_⟩
   ·rw [zI, zI, hexa, hex]
    simp [hux]
   ·rcases List.mem_append.1 he with he | he
    ·exact h.ok e he
    ·rw [List.mem_singleton.1 he]
     exact ⟨by rw [hu.run]; exact Nat.one_pos, hu.chk, hu.ok⟩
   ·have hil : i + 1 < (X ++ [a] ++ [u]).length := (List.getElem?_eq_some_iff.1 h2).1
    rw [lN, lN, zY, zY] at hil
    rcases xX (i + 1) (X ++ [a]).length with hlt2 | hge
    ·rw [qE hlt2] at h2
     rw [qE (by omega)] at h1
     exact h.sep i x y h1 h2
    ·have hi : i + 1 = (X ++ [a]).length := by rw [lN, zY] at hge ⊢; omega
     rw [hi] at h2
     simp only [List.getElem?_concat_length, qD] at h2
     subst h2
     have hi2 : i = X.length := by simpa using hi
     rw [qE (by omega), hi2] at h1
     simp only [List.getElem?_concat_length, qD] at h1
     subst h1
     exact ⟨hlt, by simpa using hone⟩
theorem GrOk.nil : GrOk [] [] := ⟨rfl, fun e he => absurd he (by simp), fun i a b h1 => absurd h1 (by simp)⟩
theorem wM6 : ∀ (us G0 us0 : List En), GrOk us0 G0 → (∀ u ∈ us, UnOk u) → (us0 ++ us).Pairwise (fun a b => a.id < b.id) → (us0 ++ us).length < 4294967295 → GrOk (us0 ++ us) (us.foldl put1 G0)
 | [], G0, us0, h, _, _, _ => by simpa using h
 | u :: r, G0, us0, h, hu, hp, hl => by
  have hr : ∀ v ∈ us0, v.id < u.id := fun v hv => (List.pairwise_append.1 hp).2.2 v hv u lP
  have h1 := h.step (hu u lP) hr (by rw [lN] at hl; omega)
  have := wM6 r (put1 G0 u) (us0 ++ [u]) h1 (fun v hv => hu v (lU _ hv)) (by rw [xD]; exact hp) (by rw [xD]; exact hl)
  rw [xD] at this
  exact this
theorem kQ5 {α : Type} [DecidableEq α] : ∀ (L M : List α), L.Nodup → (∀ x ∈ L, x ∈ M) → L.length ≤ M.length
 | [], _, _, _ => lZ _
 | a :: r, M, hn, h => by
  have ha := h a lP
  have hr := List.nodup_cons.1 hn
  have := kQ5 r (M.erase a) hr.2 (fun x hx => (List.mem_erase_of_ne (fun (e : x = a) => hr.1 (by rw [← e]; exact hx))).2 (h x (lU _ hx)))
  rw [List.length_erase_of_mem ha] at this
  have hp := List.length_pos_of_mem ha
  rw [lD]
  omega
theorem wZ3 {a : En} {r : List En} (h : ∀ i x y, (a :: r)[i]? = some x → (a :: r)[i + 1]? = some y → jK4 x < y.id ∧ oneQ x y = false) : ∀ i x y, r[i]? = some x → r[i + 1]? = some y → jK4 x < y.id ∧ oneQ x y = false :=
 fun i x y h1 h2 => h (i + 1) x y (by rwa [xC]) (by rwa [xC])
theorem wH8 : ∀ (G : List En) (free : Nat), (∀ e ∈ G, 0 < e.run ∧ chkE e = 0 ∧ e.ok) → (∀ i x y, G[i]? = some x → G[i + 1]? = some y → jK4 x < y.id ∧ oneQ x y = false) → (∀ x, G[0]? = some x → free ≤ x.id) → rowQ free G = 0
 | [], _, _, _, _ => rfl
 | a :: r, free, h1, h2, h3 => by
  have ha := h3 a rfl
  rw [rowQ, if_pos (h1 a lP).2.1, if_neg (by omega)]
  exact wH8 r _ (fun e he => h1 e (lU _ he)) (wZ3 h2) (fun x hx => (h2 0 a x rfl (by rwa [xC])).1)
theorem wU6 (M : CtM) (k k' : Nat × Nat) (v : Nat) : k' ∈ jF2 (aput M k v) ↔ k' = k ∨ k' ∈ jF2 M := by
 have h1 := kO0 (M := aput M k v) (k := k')
 have h2 := kO0 (M := M) (k := k')
 rw [kC6] at h1
 by_cases h : k = k'
 ·rw [if_pos h] at h1
  have : k' ∈ jF2 (aput M k v) := Classical.byContradiction fun hn => by have := h1.2 hn; cases this
  exact ⟨fun _ => .inl h.symm, fun _ => this⟩
 ·rw [if_neg h, h2] at h1
  constructor
  ·intro hm
   exact .inr (Classical.byContradiction fun hn => h1.1 hn hm)
  ·rintro (e | hm)
   ·exact absurd e.symm h
   ·exact Classical.byContradiction fun hn => h1.2 hn hm
theorem kZ4 : ∀ (L : List En) (M : CtM), (jF2 M).Nodup → (jF2 (L.foldl cst1 M)).Nodup ∧ ∀ k, k ∈ jF2 (L.foldl cst1 M) ↔ k ∈ jF2 M ∨ ∃ e ∈ L, (chkE e = 0 ∧ 0 < e.run) ∧ (e.off, e.len) = k
 | [], M, h => ⟨h, fun k => by simp⟩
 | a :: r, M, h => by
  rw [zU]
  unfold cst1
  split
  ·rename_i hc
   obtain ⟨h1, h2⟩ := kZ4 r (seeC M (a.off, a.len)) (kB0 h _ _)
   refine ⟨h1, fun k => ?_⟩
   have := h2 k
   unfold cst1 at this
   rw [this]
   unfold seeC
   rw [wU6]
   constructor
   ·rintro ((e | h) | ⟨e, he, h⟩)
    ·exact .inr ⟨a, lP, hc, e.symm⟩
    ·exact .inl h
    ·exact .inr ⟨e, lU _ he, h⟩
   ·rintro (h | ⟨e, he, h⟩)
    ·exact .inl (.inr h)
    ·rcases List.mem_cons.1 he with rfl | he
     ·exact .inl (.inl h.2.symm)
     ·exact .inr ⟨e, he, h⟩
  ·rename_i hc
   obtain ⟨h1, h2⟩ := kZ4 r M h
   refine ⟨h1, fun k => ?_⟩
   have := h2 k
   unfold cst1 at this
   rw [this]
   constructor
   ·rintro (h | ⟨e, he, h⟩)
    ·exact .inl h
    ·exact .inr ⟨e, lU _ he, h⟩
   ·rintro (h | ⟨e, he, h⟩)
    ·exact .inl h
    ·rcases List.mem_cons.1 he with rfl | he
     ·exact absurd h.1 hc
     ·exact .inr ⟨e, he, h⟩
theorem zB2 (L : List En) : (jF2 (cstM L)).length = (cstM L).length := by simp [jF2]
theorem yW9 (e : En) (D : List UInt8) : jT1 e D = (expE e).map fun u => ⟨u.id, txOf u D⟩ := by
 unfold jT1 expE
 rw [List.map_map]
 rfl
theorem wL5 (D : List UInt8) : ∀ L : List En, L.flatMap (fun e => jT1 e D) = (L.flatMap expE).map fun u => ⟨u.id, txOf u D⟩
 | [] => rfl
 | a :: r => by rw [x5, x5, x0, wL5 D r, yW9]
theorem yK6 (D : List UInt8) : ∀ (L : List En) (many : Nat) (out : List It), (∀ e ∈ L, 0 < e.run ∧ e.off + e.len ≤ D.length ∧ e.len ≤ 65536) → many + (L.flatMap expE).length ≤ 2048 → mbR D many out L = (0, out ++ L.flatMap fun e => jT1 e D)
 | [], _, out, _, _ => by rw [mbR]; simp
 | a :: r, many, out, h, hm => by
  obtain ⟨h1, h2, h3⟩ := h a lP
  rw [x5, lN, kY6] at hm
  have hw : mwrQ a (many + a.run) D = 0 := by
   unfold mwrQ
   rw [if_neg (by omega), if_neg (by omega), if_neg (by omega), if_neg (by omega)]
  rw [mbR, if_pos hw, yK6 D r _ _ (fun e he => h e (lU _ he)) (by omega), x5, xD]
structure WhOk (C : List It) (R : List En) (D : List UInt8) : Prop where
 eq : jJ4 C = (R, tsS C)
 fl : (tsS C).flatten = D
 ts : TsOk (tsS C)
 tm : ∀ t, t ∈ tsS C ↔ ∃ x ∈ C, x.tx = t
 gr : GrOk (kJ3 C) R
 no : R.length ≤ 2048
 dl : D.length ≤ 134217728
theorem wW7 {C : List It} (h : ChOk C) : WhOk C (jJ4 C).1 (jJ4 C).2.flatten := by
 have hne : ∀ x ∈ C, x.tx ≠ [] := fun x hx => (h.tx x hx).1
 have hr := yS7 hne
 have hrs := kW5 h C.length (xP _)
 rw [xY] at hrs
 have hlen := h.len
 obtain ⟨h1, h2⟩ := wC3 hne C.length (xP _)
 rw [xY] at h1 h2
 have h22 : (jJ4 C).2 = tsS C := by rw [hr]
 have hfl := hrs.fl
 have hno := hrs.no
 refine ⟨by rw [hr], by rw [h22], h1, h2, ?_, by omega, by omega⟩
 rw [hr]
 rw [h22] at hfl
 have := wM6 (kJ3 C) [] [] GrOk.nil (fun u hu => ?_) ?_ ?_
 ·simpa using this
 ·obtain ⟨x, hx, rfl⟩ := List.mem_map.1 hu
  obtain ⟨x1, x2⟩ := h.tx x hx
  have x3 := h.lt x hx
  obtain ⟨c1, c2, c3⟩ := vV3 h1.nd ((h2 x.tx).2 ⟨x, hx, rfl⟩)
  have hpos := List.length_pos_iff.2 x1
  refine ⟨rfl, yM4 (by show (addC (tsS C) x.tx).2 ≠ 0; omega) (by show x.id + max 1 1 ≤ _; omega) (by show (addC (tsS C) x.tx).1 + (addC (tsS C) x.tx).2 ≤ _; omega), by show x.id < _; omega, by show (addC (tsS C) x.tx).1 < _; omega, by show (addC (tsS C) x.tx).2 < _; omega, by show 1 < _; omega⟩
 ·rw [lE]
  exact List.pairwise_map.2 h.rise
 ·simp only [lE, kJ3, qY]
  omega
section
variable {C : List It} {R : List En} {D : List UInt8}
theorem WhOk.ent (h : WhOk C R D) {e : En} (he : e ∈ R) : ∃ x ∈ C, (addC (tsS C) x.tx).1 = e.off ∧ (addC (tsS C) x.tx).2 = e.len ∧ x.id = e.id := by
 have hr := (h.gr.ok e he).1
 have hu : ({ e with id := e.id + 0, run := 1 } : En) ∈ kJ3 C := by
  rw [← h.gr.ex]
  exact List.mem_flatMap.2 ⟨e, he, expE_mem.2 ⟨0, hr, rfl⟩⟩
 obtain ⟨x, hx, hxe⟩ := List.mem_map.1 hu
 refine ⟨x, hx, congrArg En.off hxe, congrArg En.len hxe, ?_⟩
 have := congrArg En.id hxe
 simpa [enOf] using this
theorem WhOk.pos (h : WhOk C R D) {x : It} (hx : x ∈ C) : (D.drop (addC (tsS C) x.tx).1).take (addC (tsS C) x.tx).2 = x.tx ∧ (addC (tsS C) x.tx).1 + (addC (tsS C) x.tx).2 ≤ D.length ∧ (addC (tsS C) x.tx).2 = x.tx.length := by
 have := vV3 h.ts.nd ((h.tm x.tx).2 ⟨x, hx, rfl⟩)
 rwa [h.fl] at this
theorem WhOk.ens (h : WhOk C R D) : jF5 R := fun e he => (h.gr.ok e he).2.2
theorem WhOk.exl (h : WhOk C R D) : (R.flatMap expE).length = C.length := by rw [h.gr.ex]; simp [kJ3]
theorem WhOk.row (h : WhOk C R D) : rowC R = 0 := by
 unfold rowC
 have := h.no
 rw [if_neg (by omega)]
 exact wH8 R 0 h.gr.ok h.gr.sep (fun _ _ => lZ _)
theorem WhOk.nxt (h : WhOk C R D) {e : En} (he : e ∈ R) : e.off + e.len ≤ D.length ∧ e.next = e.off + e.len := by
 obtain ⟨x, hx, h1, h2, _⟩ := h.ent he
 have h3 := (h.pos hx).2.1
 have h4 := h.dl
 rw [h1, h2] at h3
 exact ⟨h3, by unfold En.next; omega⟩
theorem WhOk.back (h : WhOk C R D) (hok : ChOk C) : mbQ R D = (0, C) := by
 unfold mbQ
 rw [if_pos h.row]
 have hl := hok.len
 rw [yK6 D R 0 [] (fun e he => by
  obtain ⟨x, hx, h1, h2, _⟩ := h.ent he
  have h3 := (h.pos hx).2.2
  have h4 := (hok.tx x hx).2
  exact ⟨(h.gr.ok e he).1, (h.nxt he).1, by omega⟩) (by rw [h.exl]; omega), wL5, h.gr.ex, lE]
 congr 1
 unfold kJ3
 rw [List.map_map]
 have : ∀ x ∈ C, ((fun u : En => (⟨u.id, txOf u D⟩ : It)) ∘ enOf (tsS C)) x = x := fun x hx => by
  show (⟨x.id, (D.drop (addC (tsS C) x.tx).1).take (addC (tsS C) x.tx).2⟩ : It) = x
  rw [(h.pos hx).1]
 rw [List.map_congr_left this, List.map_id']
end
theorem wC4 : ∀ (C : List It) (ts : List Tx), (C.foldl (fun ts x => addT ts x.tx) ts).flatten.length ≤ ts.flatten.length + kR7 C
 | [], ts => by simp [kR7]
 | x :: r, ts => by
  rw [zU]
  have h1 := wC4 r (addT ts x.tx)
  have h2 := (wV0 ts x.tx).2
  have h3 : kR7 (x :: r) = x.tx.length + kR7 r := by simp [kR7]
  omega
end V
end Go.Proofs.YteofkgedfjffcaaGreatDoor
