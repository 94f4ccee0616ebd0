/- Walks and plain laws for this claim (texts Mg8, Pk1, Mg9, Mg10, Mg11, Mg12, Mg13, Mg14, Mg15, Mp1, Mp2, Mp3, Mp4, Mp6, Gdr1, Gdr2, joined). Each theorem states its own conditions. -/
import Derived.Test.YtfeopecgedbfpaaGreatDoorJ06
set_option linter.all false
namespace Go.Proofs.YtfeopecgedbfpaaGreatDoor
namespace V
open Go.RowKit
set_option maxRecDepth 100000
theorem yR9 (a b c d e : Ent) (X T : Heap) : HLe ((b :: c :: d :: X) ++ (a :: T)) (a :: b :: c :: d :: e :: (X ++ T)) :=
 HLe.trans (HLe.perm (List.perm_middle (l₁ := b :: c :: d :: X)).symm) (HLe.sub (qC a (qC b (qC c (qC d (x4 e (X ++ T)))))))
theorem yS3 (d a b c : Ent) (R X K : Heap) : HLe (d :: a :: b :: (X ++ R)) (d :: ((a :: b :: c :: (R ++ X)) ++ K)) :=
 (HLe.perm (A := d :: a :: b :: (X ++ R)) (B := d :: a :: b :: (R ++ X)) (z8 d (z8 a (z8 b qX)))).trans (HLe.sub (qC d (qC a (qC b (zF c (lS (R ++ X) K))))))
theorem wX5 (e : En) : put1 [] e = [e] := rfl
theorem vE2 {out : List En} {a e : En} (h : out[out.length - 1]? = some a) : put1 out e = if oneQ a e then out.set (out.length - 1) { a with run := a.run + 1 } else out ++ [e] := by
 unfold put1
 rw [h]
theorem wZ4 (A : Option Addr) (c : Nat) (L : List It) (T : Heap) (hA : jH6 A L.length) (hT : 0 < L.length → T = roE A (jA2 L)) (hro : Ro T) (hok : ChOk L) :
  Fn Tryz.prog 21 [chV A L.length c] T fun v H' => ∃ u, v = .tuple #[u, .string (str (jL3 L).2.flatten)] ∧ RowOk u (jL3 L).1.length ∧ H' = rowE u 80 4 (jA1 (jL3 L).1) := by
 have hlen := hok.len
 refine Fn.enterM (n := 63) Tryz.func21 rfl (by kernel_rfl) rfl (fun w0 => ?_)
 refine aR (fun Z hZ => jB5 (fun g1 => ?_))
 refine sA rfl rfl <| sAN hZ rfl rfl <| f1K 1 rfl <| aR (fun Z hZ => sAl tyZ106 rfl (fun g2 => sS10 0 tyS106 ?_))
 refine sN (hZ _ _ <| f2K 1 4 rfl <| aR (fun Z hZ => jA5 [] _ yP6 rfl (HLe.refl _) rfl ?_))
 rintro v X0 ⟨gp, rfl, hP0⟩
 rw [hP0.wrs.filter]
 refine jC3 _ (HLe.comm3 X0 [_, _] T) <| sAl tyZ110 rfl (fun g3 => sS10 0 tyS110 ?_)
 refine sN (hZ _ _ <| f3K 1 4 5 rfl <| aR (fun Z hZ => sAl tyZ58 rfl (fun g4 => sN (hZ _ _ <| f4K 1 4 5 6 rfl <| aS <| aR (fun Z hZ => sLA0 3 tyA30 tyS30 ?_)))))
 refine jA5 [] _ (yD4 A L.length c) rfl (HLe.refl _) rfl ?_
 rintro v H' ⟨ge, rfl, rfl⟩
 refine sN (hZ _ _ <| f4K 4 5 6 16 rfl <| aB ?_)
 refine kE5 (fun k H => ∃ v X, RowOk v (jL3 (L.take k)).1.length ∧ PoolIs gp (jL3 (L.take k)).2 X ∧ H = .own g4 58 [v] :: .own g3 110 [ptr gp 0] :: .own g2 106 [.func (.func 44) #[] #[]] :: (rowE v 80 4 (jA1 (jL3 (L.take k)).1) ++ X)) [] (fun _ _ => False) (.own g4 58 [nilS] :: .own g3 110 [ptr gp 0] :: .own g2 106 [.func (.func 44) #[] #[]] :: X0)
  (yD3 ge A c L T hA hT (by omega)) rfl (fun k H h => by obtain ⟨v, X, _, hX, rfl⟩ := h; exact Wrs.cons rfl (Wrs.cons rfl (Wrs.cons rfl ((jI9 _ _ _ _).append hX.wrs)))) (fun _ _ h => h.elim) Ro.nil (fun x hx => by rcases List.mem_cons.1 hx with rfl | hx; rfl; exact hro x hx) (fun k vs h => by rw [xR] at h; cases hk : L[k]? with | none => rw [hk] at h; cases h | some x => rw [hk] at h; obtain rfl := lV h; rfl) rfl
  ⟨nilS, X0, by simpa [jL3] using RowOk.nil, by simpa [jL3] using hP0, rfl⟩ (by rw [lH]; exact (HLe.toRo (_ :: _ :: _ :: X0) T).trans (yR9 _ _ _ _ _ X0 T)) rfl ?_ ?_ (fun _ _ _ h => h.elim)
 ·rintro k vs H hk ⟨v, X, hv, hX, rfl⟩ l w1
  rw [xR] at hk
  cases hkx : L[k]? with
  | none => rw [hkx] at hk; cases hk
  | some x =>
   rw [hkx] at hk
   obtain rfl := lV hk
   have hkl := (List.getElem?_eq_some_iff.1 hkx).1
   have hxm := xM hkx
   have hrs := kX0 hok k (by omega)
   rw [kN1 hkx]
   obtain ⟨s, hs⟩ := xZ9 (jL3 (L.take k))
   rw [hs] at hv hX hrs ⊢
   obtain ⟨out, ts⟩ := s
   simp only [rwS] at hv hX ⊢
   obtain ⟨t1, t2⟩ := hok.tx x hxm
   have hxl := hok.lt x hxm
   obtain ⟨r1, r2, r3, r4, r5⟩ := hrs
   simp only at r1 r2 r3 r4 r5
   have hadd := zG5 hX x.tx r1 (by omega) (by omega) t1 t2
   obtain ⟨c1, c2⟩ := wR8 ts x.tx
   obtain ⟨cc, hcc⟩ := xZ9 (addC ts x.tx)
   have hen : enOf ts x = ⟨x.id, cc.1, cc.2, 1⟩ := by unfold enOf; rw [hcc]
   rw [hcc] at hadd c1 c2
   rw [hen]
   refine aA rfl rfl <| f5K 4 5 6 7 18 rfl <| aG (fun Z hZ => sAN hZ rfl rfl <| nF [(4, _), (5, _), (6, _), (7, _), (8, _)] (kR rfl) <| jV7 [] Wrs.nil (HLe.refl _) fun w2 => jA6 (.own g4 58 [v] :: .own g3 110 [ptr gp 0] :: .own g2 106 [.func (.func 44) #[] #[]] :: (rowE v 80 4 (jA1 out) ++ X)) (by simp only [qS]; exact HLe.refl _) ?_)
   refine aB <| aR (fun Z hZ => sL0 1 tyA110 tyS110 ?_)
   refine sM rfl rfl <| jA5 X (_ :: _ :: _ :: rowE v 80 4 (jA1 out)) hadd rfl (HLe.swap (_ :: _ :: _ :: rowE v 80 4 (jA1 out)) X) rfl ?_
   rintro u X2 ⟨⟨b, rfl⟩, hX2⟩
   rw [hX2.wrs.filter]
   refine jC3 _ (HLe.swap X2 (_ :: _ :: _ :: rowE v 80 4 (jA1 out))) <| sM rfl rfl <| sX rfl rfl rfl <| sX rfl rfl rfl <| sX rfl rfl rfl <| sAl tyZ116 rfl (fun g5 => sS0 0 tyS116 ?_)
   refine sA rfl rfl <| sAN hZ rfl rfl <| f4K 4 6 7 9 rfl <| aR fun Z hZ => sM rfl rfl <| sFA0 kV2 ?_
   refine sL0 0 tyA25 tyS25 ?_
   refine sFA0 vP0 ?_
   refine sL0 0 tyA78 tyS78 ?_
   refine jD4 tyZ80 tyP80 ?_
   refine sAl tyZ80 rfl (fun g6 => sS0 0 tyS80 ?_)
   refine sN (hZ _ _ <| f3K 4 6 12 rfl ?_)
   obtain ⟨Av, cv, rfl, hAv⟩ := hv.form
   rcases zK out.length with h0 | h0
   ·obtain rfl := qT h0
    rw [wX5]
    refine aS <| aR (fun Z hZ => sL0 2 tyA58 tyS58 ?_)
    refine jE2 Tryz.underlying58 rfl rfl <| jN3 rfl rfl (-1 : Int) (by show IntKind.i64.wrap (((([] : List En).length : Nat) : Int) - 1) = -1; rfl) rfl ?_
    refine sAN hZ rfl rfl <| f4K 4 6 12 13 rfl <| jE8 [(6, ptr g4 0), (12, ptr g6 0), (13, iq (-1)), (47, .bool false)] (.own g6 80 (⟨x.id, cc.1, cc.2, 1⟩ : En).cells :: .own g5 116 (ctC cc) :: .own g4 58 [.slice Av ([] : List En).length cv] :: .own g3 110 [ptr gp 0] :: .own g2 106 [.func (.func 44) #[] #[]] :: (rowE (.slice Av ([] : List En).length cv) 80 4 (jA1 []) ++ X2)) mixed (by kernel_rfl) (fun Z hZ => ?_) ?_
    ·refine qM rfl rfl <| wE0 rfl rfl rfl <| qM rfl rfl <| jL7 37 rfl false (by rfl) ?_
     refine qO0 ?_
     refine qO0 ?_
     refine qO0 ?_
     refine qO0 ?_
     refine qO0 ?_
     refine qO0 ?_
     refine qO0 ?_
     refine qO0 ?_
     refine qO0 ?_
     refine jE3 rfl rfl rfl <| jF0 (hZ _ _ ?_ ?_)
     ·exact kR rfl
     ·exact HLe.refl _
    refine aC0 (fun h9 => ?_) (fun h9 => ?_)
    ·cases h9
    refine aK <| nN <| aG (fun Z hZ => sL0 2 tyA58 tyS58 ?_)
    refine sLA0 0 tyA80 tyS80 ?_
    refine sBS0 Tryz.underlying58 tyS80 tyZ80 (fun g7 => ?_)
    refine jC9 (xs := jA1 []) (_ :: _ :: _ :: _ :: _ :: _ :: X2) kI4 rfl hv rfl rfl (fun w hw => jJ3 (i := 0) (xs := (⟨x.id, cc.1, cc.2, 1⟩ : En).cells) rfl rfl hw) rfl (by decide) (by decide) (wJ7 (X := [_, _, _, _, _, _])) rfl (fun v2 hv2 => ?_)
    obtain ⟨gv2, cv2, rfl⟩ := hv2.some (by omega)
    refine sS10 3 tyS58 ?_
    refine sN (hZ _ _ <| nF [] (Kn.nil) <| nBN <| kA2 (.own g4 58 [.slice (some ⟨gv2, 0, none⟩) (0 + 1) cv2] :: .own g3 110 [ptr gp 0] :: .own g2 106 [.func (.func 44) #[] #[]] :: (rowE (.slice (some ⟨gv2, 0, none⟩) (0 + 1) cv2) 80 4 (jA1 [⟨x.id, cc.1, cc.2, 1⟩]) ++ X2)) ⟨_, X2, hv2, hX2, rfl⟩ <| (HLe.drop 3 rfl).trans (vL8 (X := [_, _, _, _, _, _])))
   ·obtain ⟨m, hm⟩ : ∃ m, out.length = m + 1 := ⟨out.length - 1, by omega⟩
    have hml : m < out.length := by omega
    obtain ⟨a, ha⟩ : ∃ a, out[m]? = some a := ⟨_, xC hml⟩
    obtain ⟨hao, har⟩ := r5 a (xM ha)
    have hp1 : put1 out ⟨x.id, cc.1, cc.2, 1⟩ = if oneQ a ⟨x.id, cc.1, cc.2, 1⟩ then out.set m { a with run := a.run + 1 } else out ++ [⟨x.id, cc.1, cc.2, 1⟩] := by rw [vE2 (a := a) (by rw [hm, Nat.add_sub_cancel]; exact ha), hm, Nat.add_sub_cancel]
    rw [hp1]
    obtain ⟨gv, cv', hev⟩ := hv.some (by omega)
    injection hev with he1 _ he2
    subst he1; subst he2
    have hgo := yT4 a ⟨x.id, cc.1, cc.2, 1⟩ hao
    obtain ⟨q, hq⟩ := xZ9 (oneQ a ⟨x.id, cc.1, cc.2, 1⟩)
    rw [hq] at hgo ⊢
    refine jA6 (.own g6 80 (⟨x.id, cc.1, cc.2, 1⟩ : En).cells :: .own g5 116 (ctC cc) :: .own g4 58 [.slice (some ⟨gv, 0, none⟩) out.length cv] :: .own g3 110 [ptr gp 0] :: .own g2 106 [.func (.func 44) #[] #[]] :: .ob gv (RowP 80 4 out.length cv (jA1 out)) :: X2) (HLe.refl _) <| aS <| aR (fun Z hZ => sL0 2 tyA58 tyS58 ?_)
    refine jE2 Tryz.underlying58 rfl rfl <| jN3 rfl rfl ((m : Nat) : Int) (by rw [lT _ (by omega)]; omega) rfl ?_
    refine sAN hZ rfl rfl <| f4K 4 6 12 13 rfl <| jE8 [(6, ptr g4 0), (12, ptr g6 0), (13, iq (m : Nat)), (47, .bool q)] (.own g6 80 (⟨x.id, cc.1, cc.2, 1⟩ : En).cells :: .own g5 116 (ctC cc) :: .own g4 58 [.slice (some ⟨gv, 0, none⟩) out.length cv] :: .own g3 110 [ptr gp 0] :: .own g2 106 [.func (.func 44) #[] #[]] :: .ob gv (RowP 80 4 out.length cv (jA1 out)) :: X2) mixed (by kernel_rfl) (fun Z hZ => ?_) ?_
    ·refine qM rfl rfl <| wE0 rfl rfl rfl <| qM rfl rfl <| jL7 37 rfl true (by simp) ?_
     refine jA4 ?_
     refine jB6 4 tyA106 tyS106 ?_
     refine jA4 ?_
     refine jB6 2 tyA58 tyS58 ?_
     refine jA4 ?_
     refine qM rfl rfl <| jA4 ?_
     refine jG2 (0 + m * 4) Tryz.underlying58 tyS80 rfl rfl (by omega) (by simp) rfl ?_
     refine jA4 ?_
     refine kM7 (m * 4) rfl rfl (fun w hw => jV4 (i := 5) rfl hw) (by omega) tyA80 tyS80 (jG4 ha) rfl ?_
     refine jA4 ?_
     refine vP9 tyZ109 tyP109 rfl rfl (by simp only [qS, Nat.reduceAdd, Value.cells, wrV]; rfl) rfl ?_
     refine jA4 ?_
     refine jP6 0 rfl rfl tyA80 tyS80 rfl (by simp only [qS]; rfl) rfl ?_
     refine jA4 ?_
     refine vP9 tyZ109 tyP109 rfl rfl (by simp only [qS, Nat.reduceAdd, Value.cells, wrV]; rfl) rfl ?_
     refine jA4 ?_
     refine wE1 hgo rfl rfl rfl <| jE3 rfl rfl rfl <| jF0 (hZ _ _ ?_ ?_)
     ·exact kR rfl
     ·exact HLe.refl _
    refine aC0 (fun h9 => ?_) (fun h9 => ?_)
    ·rw [if_pos h9]
     refine aR (fun Z hZ => sL0 2 tyA58 tyS58 ?_)
     refine sM rfl rfl <| jB3 (0 + m * 4) Tryz.underlying58 tyS80 rfl rfl (by omega) (by simp) rfl ?_
     refine sFA0 jN0 ?_
     refine jS0 (m * 4 + 3) rfl (by omega) (fun w hw => jV4 (i := 5) rfl hw) (by omega) tyA78 tyS78 (vY8 ha) rfl ?_
     refine jC2 rfl rfl ((a.run + 1 : Nat) : Int) (by rw [IntWalk.u32_in _ (by omega)]; omega) rfl ?_
     refine jB3 (0 + m * 4) Tryz.underlying58 tyS80 rfl rfl (by omega) (by simp) rfl ?_
     refine sFA0 jN0 ?_
     refine vV9 (o := m * 4 + 3) 5 rfl rfl rfl tyS78 rfl (by omega) (wZ3 ha (a.run + 1)) rfl ?_
     refine sN (hZ _ _ <| aF [] (Kn.nil) <| jB1 ?_)
     repeat refine nTE ?_
     refine nBE <| kA2 (.own g4 58 [.slice (some ⟨gv, 0, none⟩) out.length cv] :: .own g3 110 [ptr gp 0] :: .own g2 106 [.func (.func 44) #[] #[]] :: (rowE (.slice (some ⟨gv, 0, none⟩) out.length cv) 80 4 (jA1 (out.set m { a with run := a.run + 1 })) ++ X2)) ⟨_, X2, by rw [List.length_set]; exact hv, hX2, rfl⟩ (HLe.drop 2 rfl)
    rw [if_neg (by rw [h9]; simp)]
    refine aK <| nN <| aG (fun Z hZ => sL0 2 tyA58 tyS58 ?_)
    refine sLA0 0 tyA80 tyS80 ?_
    refine sBS0 Tryz.underlying58 tyS80 tyZ80 (fun g8 => ?_)
    refine jC9 (xs := jA1 out) (_ :: _ :: _ :: _ :: _ :: _ :: X2) kI4 rfl hv (by rw [jG6]) rfl (fun w hw => jJ3 (i := 0) (xs := (⟨x.id, cc.1, cc.2, 1⟩ : En).cells) rfl rfl hw) rfl (by show _ ≤ 9223372036854775807; omega) (by omega) (wJ7 (X := [_, _, _, _, _, _]) (T := rowE (.slice (some ⟨gv, 0, none⟩) out.length cv) 80 4 (jA1 out))) rfl (fun v2 hv2 => ?_)
    obtain ⟨gv2, cv2, rfl⟩ := hv2.some (by omega)
    refine sS10 3 tyS58 ?_
    refine sN (hZ _ _ <| nF [] (Kn.nil) <| nBN <| kA2 (.own g4 58 [.slice (some ⟨gv2, 0, none⟩) (out.length + 1) cv2] :: .own g3 110 [ptr gp 0] :: .own g2 106 [.func (.func 44) #[] #[]] :: (rowE (.slice (some ⟨gv2, 0, none⟩) (out.length + 1) cv2) 80 4 (jA1 (out ++ [⟨x.id, cc.1, cc.2, 1⟩])) ++ X2)) ⟨_, X2, by rw [lX]; exact hv2, hX2, rfl⟩ ?_)
    rw [show jA1 (out ++ [⟨x.id, cc.1, cc.2, 1⟩]) = jA1 out ++ (⟨x.id, cc.1, cc.2, 1⟩ : En).cells by simp [jA1]]
    exact (HLe.drop 3 rfl).trans (vL8 (X := [_, _, _, _, _, _]))
 ·rintro D H ⟨v, X, hv, hX, rfl⟩
  rw [zG, x6] at hv hX
  rw [zG, x6]
  have hrs := kX0 hok L.length (xB _)
  rw [x6] at hrs
  refine nBN ?_
  with_reducible refine jN8 ?_
  have htx := yL7 hX (by have := hrs.fl; omega)
  obtain ⟨Av, cv, rfl, hAv⟩ := hv.form
  refine jA6 (.ob D jL4 :: .own g4 58 [.slice Av (jL3 L).1.length cv] :: .own g3 110 [ptr gp 0] :: (X ++ rowE (.slice Av (jL3 L).1.length cv) 80 4 (jA1 (jL3 L).1))) ?_ ?_
  ·exact yS3 _ _ _ _ _ X _
  refine jD3 _ [(0, true), (1, true), (2, false), (3, true), (4, true)] mixed (by kernel_rfl) (HLe.pick [1, 2] (by simp) (by simp only [pick, l7, qS]; rfl)) (fun Z hZ => ?_)
  refine tw_p rfl <| jE6 0 rfl rfl tyA58 tyS58 rfl rfl <| vN <| tw_p rfl <| jE6 1 rfl rfl tyA110 tyS110 rfl rfl <| vN <| tw_g rfl <| jA5 X (_ :: _ :: _ :: rowE (.slice Av (jL3 L).1.length cv) 80 4 (jA1 (jL3 L).1)) htx rfl (HLe.comm3 [_, _, _] X _) rfl ?_
  rintro u X3 ⟨rfl, rfl⟩
  rw [hX.wrs.filter]
  refine jC3 _ (HLe.swap X3 (_ :: _ :: _ :: rowE (.slice Av (jL3 L).1.length cv) 80 4 (jA1 (jL3 L).1))) <| sN ⟨HLe.pick [1, 2] (by simp) rfl, ?_⟩
  refine tw_p rfl <| jE7 rfl rfl <| vN <| tw_p rfl <| jE7 rfl rfl <| vN <| jI7 (hZ _ _ <| f2K 2 3 rfl <| aE <| jJ5 [0] ⟨rfl, trivial⟩ (jD9 (rowE (.slice Av (jL3 L).1.length cv) 80 4 (jA1 (jL3 L).1)) rfl rfl rfl (HLe.trans (HLe.sub (lS _ X3)) (HLe.drop 2 rfl)) ⟨_, rfl, hv, rfl⟩))
end V
namespace V
open Go.RowKit
theorem wL8 {l : List MapEntry} (hn : (l.map (·.born)).Nodup) {j : Nat} {e0 : MapEntry} (h : l[j]? = some e0) : l.findIdx? (fun e => ((e.born : Nat) : Int) == ((e0.born : Nat) : Int)) = some j := by
 induction l generalizing j with
 | nil => simp at h
 | cons a r ih =>
  simp only [xN, zC] at hn
  cases j with
  | zero =>
   simp only [xA, x5] at h
   subst h
   simp [List.findIdx?_cons]
  | succ j =>
   simp only [xE] at h
   have hne : a.born ≠ e0.born := fun e1 => hn.1 (List.mem_map.2 ⟨e0, xM h, e1.symm⟩)
   have hb : (((a.born : Nat) : Int) == ((e0.born : Nat) : Int)) = false := by
    simp only [beq_eq_false_iff_ne, ne_eq, Int.natCast_inj]
    exact hne
   rw [List.findIdx?_cons, hb]
   simp [ih hn.2 h]
section
variable {κ ν : Type} [DecidableEq κ] (encK : κ → Value) (encV : ν → Value)
structure EsOk (es : Array MapEntry) (clock : Nat) (M : List (κ × ν)) : Prop where
 rd : es.toList.map (fun e : MapEntry => (e.key, e.val)) = M.map (fun x => (encK x.1, encV x.2))
 nd : (jD8 M).Nodup
 lt : ∀ e ∈ es.toList, e.born < clock
 bn : (es.toList.map (·.born)).Nodup
def zJ3 (M : List (κ × ν)) (o : Obj) : Prop := ∃ es clock, o = .map es clock ∧ EsOk encK encV es clock M
def vO4 (M1 : List (κ × ν)) (k : κ) (x : ν) (M2 : List (κ × ν)) (st : Nat) (o : Obj) : Prop :=
 ∃ es clock e0, o = .map es clock ∧ EsOk encK encV es clock (M1 ++ (k, x) :: M2) ∧ es.toList[M1.length]? = some e0 ∧ e0.born = st
abbrev mapS (b : Nat) (M : List (κ × ν)) : Ent := .ob b (zJ3 encK encV M)
variable {encK encV} {b : Nat} {M : List (κ × ν)} {w w' : World}
theorem wJ3 (h : (mapS encK encV b M).holds w) : MapIs encK encV w b M := by
 obtain ⟨o, h1, es, clock, rfl, h2⟩ := h
 exact ⟨es, clock, h1, h2.rd, h2.nd⟩
variable {P : Program} {K T E : TypeId}
theorem vD4 (h : KeyOk P K encK) (hT : P.underlying T = some (.map K E)) (hm : (mapS encK encV b M).holds w) {z : Value} (hz : (zeroValue E).run P w = .ok z w) {zv : ν} (hzv : encV zv = z) (k : κ) :
  ∃ w' M1 x M2 st, (Instr.mapEntry T (.map (some b)) (encK k)).run P w = .ok (.tuple #[((aget M k).map encV).getD z, goInt (st : Nat)]) w' ∧ (Ent.ob b (vO4 encK encV M1 k x M2 st)).holds w' ∧ OnlyMap w w' b ∧
   M1 ++ (k, x) :: M2 = aput M k ((aget M k).getD zv) ∧ k ∉ jD8 M1 ∧ encV x = ((aget M k).map encV).getD z ∧ ∀ v, aput M k v = M1 ++ (k, v) :: M2 := by
 obtain ⟨o, hb, es, clock, rfl, ⟨hes, hnd, hlt, hbn⟩⟩ := hm
 obtain ⟨f1, f2⟩ := jT1 h w k es.toList M hes
 rcases vH3 M k with ⟨h1, h2, h3, _⟩ | ⟨M1, x, M2, e, h1, h2, h3, _⟩
 ·have hl : es.toList.length = M.length := by simpa using congrArg List.length hes
  refine ⟨_, M, zv, [], clock, ?_, ⟨_, kD5 w hb _, es.push { key := encK k, val := z, born := clock }, clock + 1, { key := encK k, val := z, born := clock }, rfl, ⟨?_, ?_, ?_, ?_⟩, ?_, rfl⟩, ⟨_, rfl⟩, ?_, h1, ?_, h3⟩
  ·simp [Instr.mapEntry, run_underlying hT, MapKept.run_getObj_map hb, h.chk, f1 h1, hz, h2, MapKept.run_setObj_map _ hb, Result.andThen]
  ·simp [hes, hzv]
  ·rw [← h3]; exact kD2 hnd k zv
  ·intro y hy
   rw [Array.toList_push] at hy
   rcases List.mem_append.1 hy with hy | hy
   ·have := hlt y hy; omega
   ·rw [List.mem_singleton.1 hy]; exact Nat.lt_succ_self _
  ·simp only [Array.toList_push, x8, xN, qJ]
   refine List.nodup_append.2 ⟨hbn, by simp, fun a ha c hc e1 => ?_⟩
   simp only [xG] at hc
   obtain ⟨y, hy, rfl⟩ := List.mem_map.1 ha
   have := hlt y hy
   omega
  ·rw [Array.toList_push, ← hl]; simp
  ·rw [h2, h3]; rfl
  ·rw [h2, hzv]; rfl
 ·have hlen : M1.length < es.toList.length := by
   have := congrArg List.length hes
   rw [e] at this
   simp at this
   simp [this]
  have hold : es.toList[M1.length]? = some es.toList[M1.length] := xC hlen
  obtain ⟨e0, he0⟩ := xZ9 (es.toList[M1.length])
  rw [he0] at hold
  have hkv : e0.key = encK k ∧ e0.val = encV x := by
   have := congrArg (fun l => l[M1.length]?) hes
   simp only [xR] at this
   rw [e, hold] at this
   simp only [qQ (xB _), uL, xA, qA, x5, Prod.mk.injEq] at this
   exact this
  have hj : es[M1.length]? = some e0 := by simpa using hold
  have hsame : es.modify M1.length (fun e => { e with key := encK k }) = es := by
   apply Array.ext'
   rw [Array.toList_modify]
   apply uM
   intro j
   rw [List.getElem?_modify]
   by_cases hjm : M1.length = j
   ·subst hjm
    rw [hold]
    simp only [if_true]
    rw [← hkv.1]
    rfl
   ·simp [hjm]
  refine ⟨_, M1, x, M2, e0.born, ?_, ⟨_, kD5 w hb _, es, clock, e0, rfl, ⟨?_, ?_, hlt, hbn⟩, hold, rfl⟩, ⟨_, rfl⟩, ?_, h1, ?_, h3⟩
  ·simp [Instr.mapEntry, run_underlying hT, MapKept.run_getObj_map hb, h.chk, f2 M1 x M2 e h1, hj, hkv.1, h2, Instr.keyThatStays, h.same, hsame, MapKept.run_setObj_map _ hb, Result.andThen]
  ·rw [← e]; exact hes
  ·rw [← e]; exact hnd
  ·rw [h2, h3]; rfl
  ·rw [h2]; rfl
theorem kP5 {M1 M2 : List (κ × ν)} {k : κ} {x v : ν} {st : Nat} (hm : (Ent.ob b (vO4 encK encV M1 k x M2 st)).holds w) :
  ∃ w', (Instr.entryStore T (.map (some b)) (goInt (st : Nat)) (encV v)).run P w = .ok () w' ∧ (mapS encK encV b (M1 ++ (k, v) :: M2)).holds w' ∧ OnlyMap w w' b := by
 obtain ⟨o, hb, es, clock, e0, rfl, ⟨hes, hnd, hlt, hbn⟩, hj, hst⟩ := hm
 have hidx : es.findIdx? (fun e => ((e.born : Nat) : Int) == ((st : Nat) : Int)) = some M1.length := by
  have := wL8 hbn hj
  rw [hst] at this
  cases es
  simpa using this
 refine ⟨_, ?_, ⟨_, kD5 w hb _, es.modify M1.length (fun e => { e with val := encV v }), clock, rfl, ⟨?_, ?_, ?_, ?_⟩⟩, ⟨_, rfl⟩⟩
 ·simp [Instr.entryStore, MapKept.run_getObj_map hb, asInt, asIntOf, goInt, hidx, MapKept.run_setObj_map _ hb, Result.andThen]
 ·apply uM
  intro j
  have hj2 := congrArg (fun l => l[j]?) hes
  simp only [xR, qW] at hj2
  simp only [xR, qW, zX]
  by_cases hjm : M1.length = j
  ·subst hjm
   simp only [qQ (xB _), uL, xA, qA, if_true] at hj2 ⊢
   have hj3 : es[M1.length]? = some e0 := by simpa using hj
   rw [hj3] at hj2 ⊢
   simp only [qA, x5, Prod.mk.injEq] at hj2
   rw [← hj2.1]
   rfl
  ·simp only [hjm, if_false]
   rw [hj2]
   congr 1
   by_cases hlt2 : j < M1.length
   ·rw [qK hlt2, qK hlt2]
   ·rw [qQ (by omega), qQ (by omega)]
    obtain ⟨i, hi⟩ : ∃ i, j - M1.length = i + 1 := ⟨j - M1.length - 1, by omega⟩
    rw [hi]
    rfl
 ·have : jD8 (M1 ++ (k, v) :: M2) = jD8 (M1 ++ (k, x) :: M2) := by simp [jD8]
  rw [this]; exact hnd
 ·intro y hy
  rw [Array.toList_modify] at hy
  obtain ⟨j, hj2⟩ := List.mem_iff_getElem?.1 hy
  rw [List.getElem?_modify] at hj2
  cases hq : es.toList[j]? with
  | none => rw [hq] at hj2; simp at hj2
  | some q =>
   rw [hq] at hj2
   have := hlt q (xM hq)
   have hj3 : (if M1.length = j then ({ q with val := encV v } : MapEntry) else q) = y := lV hj2
   subst hj3
   split <;> exact this
 ·have : (es.modify M1.length (fun e => { e with val := encV v })).toList.map (·.born) = es.toList.map (·.born) := by
   rw [Array.toList_modify]
   apply uM
   intro j
   rw [xR, List.getElem?_modify, xR]
   cases es.toList[j]? with
   | none => simp
   | some q => simp only [qA]; split <;> rfl
  rw [this]; exact hbn
end
section
variable {P : Program} {N : Frm} {w0 : World} {Wr : List Nat} {ops : Array Oper} {rest : List Oper} {fr : Fr} {H : Heap} {Z : Fr → Heap → Prop} {d ty : Nat} {pos : String} {after : Array Edge}
variable {κ ν : Type} [DecidableEq κ] {encK : κ → Value} {encV : ν → Value} {K T E : TypeId}
theorem yR4 {b : Nat} {M1 M2 : List (κ × ν)} {k : κ} {x : ν} {st : Nat} {w : World} (h : (Ent.ob b (vO4 encK encV M1 k x M2 st)).holds w) : MapIs encK encV w b (M1 ++ (k, x) :: M2) := by
 obtain ⟨o, h1, es, clock, e0, rfl, h2, _⟩ := h
 exact ⟨es, clock, h1, h2.rd, h2.nd⟩
theorem kQ3 (i : Nat) (hK : KeyOk P K encK) (hT : P.underlying T = some (.map K E)) {z : Value} (hz : ∀ w, (zeroValue E).run P w = .ok z w) {x y : Operand} {b : Nat} {M : List (κ × ν)} (k : κ) {ok : Bool} (v : Value)
  (hx : ev fr x = some (.map (some b))) (hy : ev fr y = some (encK k)) (hH : H[i]? = some (mapS encK encV b M)) (hv : (if ok = true then Value.tuple #[((aget M k).map encV).getD z, .bool (aget M k).isSome] else ((aget M k).map encV).getD z) = v) (hN : Nat.ble (d + 1) N.n = true)
  (h : sx P N w0 Wr ops rest ((d, v) :: fr) H Z) : sx P N w0 Wr ops (⟨some d, .lookup T x y ok, ty, pos, after, none⟩ :: rest) fr H Z :=
 jE9 v hN (fun a w ha hw => by
  subst hv
  have := kJ8 hK hT (wJ3 (hw.mem hH)) (hz w) k ok
  simp only [execOp, ha.eval hx, ha.eval hy, lI, this, lQ]
  rfl) h
theorem kQ4 (i : Nat) (hK : KeyOk P K encK) (hT : P.underlying T = some (.map K E)) {z : Value} (hz : ∀ w, (zeroValue E).run P w = .ok z w) {x y : Operand} {b : Nat} {M1 M2 : List (κ × ν)} {u : ν} {st : Nat} (k : κ) (v : Value)
  (hx : ev fr x = some (.map (some b))) (hy : ev fr y = some (encK k)) (hH : H[i]? = some (.ob b (vO4 encK encV M1 k u M2 st))) (hk : k ∉ jD8 M1) (hv : encV u = v) (hN : Nat.ble (d + 1) N.n = true)
  (h : sx P N w0 Wr ops rest ((d, v) :: fr) H Z) : sx P N w0 Wr ops (⟨some d, .lookup T x y false, ty, pos, after, none⟩ :: rest) fr H Z :=
 jE9 v hN (fun a w ha hw => by
  subst hv
  have := kJ8 hK hT (yR4 (hw.mem hH)) (hz w) k false
  have hg : aget (M1 ++ (k, u) :: M2) k = some u := by
   rcases vH3 (M1 ++ (k, u) :: M2) k with ⟨h1, _⟩ | ⟨N1, y, N2, e, h1, h2, _⟩
   ·exact absurd (by simp [jD8]) h1
   ·rw [h2]
    clear this
    have : ∀ (M1 N1 : List (κ × ν)), M1 ++ (k, u) :: M2 = N1 ++ (k, y) :: N2 → k ∉ jD8 M1 → k ∉ jD8 N1 → u = y := by
     intro M1
     induction M1 with
     | nil =>
      intro N1 e h1 h2
      cases N1 with
      | nil => simp at e; exact e.1
      | cons a r => simp at e; exact absurd (by rw [← e.1]; simp [jD8]) h2
     | cons a r ih =>
      intro N1 e h1 h2
      cases N1 with
      | nil => simp at e; exact absurd (by rw [e.1]; simp [jD8]) h1
      | cons a' r' =>
       simp only [lL, List.cons.injEq] at e
       simp only [jD8, xN, lY, not_or] at h1 h2
       exact ih r' e.2 h1.2 h2.2
    rw [this M1 N1 e hk h1]
  rw [hg] at this
  simp only [execOp, ha.eval hx, ha.eval hy, lI, this, lQ]
  rfl) h
theorem wU8 (i : Nat) (hT : P.underlying T = some (.map K E)) {x : Operand} {b : Nat} {M : List (κ × ν)} (hx : ev fr x = some (.map (some b))) (hH : H[i]? = some (mapS encK encV b M)) (hN : Nat.ble (d + 1) N.n = true)
  (h : sx P N w0 Wr ops rest ((d, .int .i64 (M.length : Nat)) :: fr) H Z) : sx P N w0 Wr ops (⟨some d, .call { callee := .builtin .len, args := #[x], argTypes := #[T] }, ty, pos, after, none⟩ :: rest) fr H Z :=
 jE9 _ hN (fun a w ha hw => by
  have := kN0 (ty := ty) hT (wJ3 (hw.mem hH))
  have he := ha.eval hx
  simp [execOp, resolve, invoke, builtin, he, lI, this]) h
theorem kM4 {t : TypeId} (hN : Nat.ble (d + 1) N.n = true) (encK : κ → Value) (encV : ν → Value)
  (h : ∀ b, sx P N w0 Wr ops rest ((d, .map (some b)) :: fr) (mapS encK encV b [] :: H) Z) : sx P N w0 Wr ops (⟨some d, .makeMap t none, ty, pos, after, none⟩ :: rest) fr H Z := by
 refine jL0 (R := fun v H' => ∃ b, v = .map (some b) ∧ H' = mapS encK encV b [] :: H) hN (fun a w ha hw => ?_) (fun v H' hR => by obtain ⟨b, rfl, rfl⟩ := hR; exact h b)
 refine ⟨.map (some w.heap.size), w.alloc (.map #[] 0), _, ?_, ⟨w.heap.size, rfl, rfl⟩, hw.fresh ?_ ((Bel.refl w).alloc _) (xB _)⟩
 ·simp [execOp, Instr.makeMap]
 ·exact ⟨_, by show (w.heap.push _)[w.heap.size]? = _; simp, #[], 0, rfl, ⟨by simp, by simp [jD8], by simp, by simp⟩⟩
theorem jS8 (i : Nat) (hK : KeyOk P K encK) (hT : P.underlying T = some (.map K E)) {z : Value} (hz : ∀ w, (zeroValue E).run P w = .ok z w) {zv : ν} (hzv : encV zv = z) {x y : Operand} {b : Nat} {M : List (κ × ν)} (k : κ)
  (hx : ev fr x = some (.map (some b))) (hy : ev fr y = some (encK k)) (hH : H[i]? = some (mapS encK encV b M)) (hN : Nat.ble (d + 1) N.n = true)
  (h : ∀ (M1 : List (κ × ν)) (u : ν) (M2 : List (κ × ν)) (st : Nat), k ∉ jD8 M1 → encV u = ((aget M k).map encV).getD z → (∀ v, aput M k v = M1 ++ (k, v) :: M2) →
   sx P N w0 Wr ops rest ((d, .tuple #[((aget M k).map encV).getD z, goInt (st : Nat)]) :: fr) (H.set i (.ob b (vO4 encK encV M1 k u M2 st))) Z) : sx P N w0 Wr ops (⟨some d, .mapEntry T x y, ty, pos, after, none⟩ :: rest) fr H Z := by
 refine jL0 (R := fun v H' => ∃ (M1 : List (κ × ν)) (u : ν) (M2 : List (κ × ν)) (st : Nat), (k ∉ jD8 M1 ∧ encV u = ((aget M k).map encV).getD z ∧ ∀ v, aput M k v = M1 ++ (k, v) :: M2) ∧ v = .tuple #[((aget M k).map encV).getD z, goInt (st : Nat)] ∧ H' = H.set i (.ob b (vO4 encK encV M1 k u M2 st))) hN (fun a w ha hw => ?_) (fun v H' hR => by
  obtain ⟨M1, u, M2, st, ⟨h1, h2, h3⟩, rfl, rfl⟩ := hR
  exact h M1 u M2 st h1 h2 h3)
 obtain ⟨w', M1, u, M2, st, h1, h2, h3, _, h5, h6, h7⟩ := vD4 hK hT (hw.mem hH) (hz w) hzv k
 refine ⟨_, w', _, ?_, ⟨M1, u, M2, st, ⟨h5, h6, h7⟩, rfl, rfl⟩, hw.turn hH rfl rfl h3.only h2⟩
 simp only [execOp, ha.eval hx, ha.eval hy, lI, h1, lQ]
 rfl
theorem jP4 (i : Nat) {x s y : Operand} {b : Nat} {M1 M2 : List (κ × ν)} {k : κ} {u v : ν} {st : Nat} (hx : ev fr x = some (.map (some b))) (hs : ev fr s = some (goInt (st : Nat))) (hy : ev fr y = some (encV v)) (hH : H[i]? = some (.ob b (vO4 encK encV M1 k u M2 st)))
  {H2 : Heap} (hH2 : H.set i (mapS encK encV b (M1 ++ (k, v) :: M2)) = H2)
  (h : sx P N w0 Wr ops rest fr H2 Z) : sx P N w0 Wr ops (⟨none, .entryStore T x s y, ty, pos, after, none⟩ :: rest) fr H Z :=
 wV2 (fun a w ha hw => by
  subst hH2
  obtain ⟨w', h1, h2, h3⟩ := kP5 (P := P) (T := T) (v := v) (hw.mem hH)
  refine ⟨w', ?_, hw.turn hH rfl rfl h3.only h2⟩
  simp only [execOp, ha.eval hx, ha.eval hs, ha.eval hy, lI, h1, lQ]
  rfl) h
end
end V
namespace V
open Go.RowKit
set_option maxRecDepth 100000
def kA3 (e : En) (k : Nat) : Bool := decide (chkE e = 0 ∧ 0 < e.run ∧ e.id ≤ k ∧ k ≤ jK7 e)
theorem yR1 (e : En) (h : e.ok) (k : Nat) : Fn Tryz.prog 29 [e.val, uq k] [] fun v _ => v = .bool (kA3 e k) := by
 refine Fn.enter (N := 24) Tryz.func29 rfl (by kernel_rfl) rfl (fun w0 => ?_)
 refine aR (fun Z hZ => jB5 (fun g1 => ?_))
 refine sAN hZ rfl rfl <| f2K 1 2 rfl <| jA3 [(4, .bool (kA3 e k))] [] (fun Z hZ => ?_) ?_
 ·first | refine sLA0 0 tyA80 tyS80 ?_
  refine sCP0 (vM9 e h) ?_
  refine sM rfl rfl <| jD0 7 rfl (fun hb2 => ?_) (fun hb2 => ?_)
  ·refine sOn0 ?_
   refine sFA0 jN0 ?_
   refine sOn0 ?_
   first | refine sL0 0 tyA78 tyS78 ?_
   refine sOn0 ?_
   refine jC4 ?_
   refine sP rfl rfl rfl <| sM rfl rfl <| jD0 12 rfl (fun hb7 => ?_) (fun hb7 => ?_)
   ·refine sOn0 ?_
    refine sFA0 jK0 ?_
    refine sOn0 ?_
    first | refine sL0 0 tyA25 tyS25 ?_
    refine sOn0 ?_
    refine sM rfl rfl <| sOn0 ?_
    refine jN4 rfl rfl rfl <| sP rfl rfl rfl <| sM rfl rfl <| jD0 18 rfl (fun hb13 => ?_) (fun hb13 => ?_)
    ·refine sOn0 ?_
     refine sM rfl rfl <| sOn0 ?_
     first | refine sLA0 0 tyA80 tyS80 ?_
     refine sOn0 ?_
     refine sCP0 (kE2 e h) ?_
     refine sOn0 ?_
     refine jN4 rfl rfl rfl <| sP rfl rfl rfl <| sA rfl rfl <| sN (hZ _ _ ?_ ?_)
     ·exact Kn.cons (congrArg some (congrArg Value.bool (by unfold kA3; first | (simp at *; done) | (simp at *; omega) | (simp at *; simp_all; done) | (simp at *; simp_all; omega)))) Kn.nil
     ·exact HLe.sub (lN _)
    ·refine sO0 ?_
     refine sO0 ?_
     refine sO0 ?_
     refine sO0 ?_
     refine sP rfl rfl rfl <| sA rfl rfl <| sN (hZ _ _ ?_ ?_)
     ·exact Kn.cons (congrArg some (congrArg Value.bool (by unfold kA3; first | (simp at *; done) | (simp at *; omega) | (simp at *; simp_all; done) | (simp at *; simp_all; omega)))) Kn.nil
     ·exact HLe.sub (lN _)
   ·refine sO0 ?_
    refine sO0 ?_
    refine sO0 ?_
    refine sO0 ?_
    refine sP rfl rfl rfl <| sM rfl rfl <| sO0 ?_
    refine sO0 ?_
    refine sO0 ?_
    refine sO0 ?_
    refine sP rfl rfl rfl <| sA rfl rfl <| sN (hZ _ _ ?_ ?_)
    ·exact Kn.cons (congrArg some (congrArg Value.bool (by unfold kA3; first | (simp at *; done) | (simp at *; omega) | (simp at *; simp_all; done) | (simp at *; simp_all; omega)))) Kn.nil
    ·exact HLe.sub (lN _)
  ·refine sO0 ?_
   refine sO0 ?_
   refine sO0 ?_
   refine sP rfl rfl rfl <| sM rfl rfl <| sO0 ?_
   refine sO0 ?_
   refine sO0 ?_
   refine sO0 ?_
   refine sP rfl rfl rfl <| sM rfl rfl <| sO0 ?_
   refine sO0 ?_
   refine sO0 ?_
   refine sO0 ?_
   refine sP rfl rfl rfl <| sA rfl rfl <| sN (hZ _ _ ?_ ?_)
   ·exact Kn.cons (congrArg some (congrArg Value.bool (by unfold kA3; first | (simp at *; done) | (simp at *; omega) | (simp at *; simp_all; done) | (simp at *; simp_all; omega)))) Kn.nil
   ·exact HLe.sub (lN _)
 refine aE <| nR10 rfl
theorem keyC : KeyOk Tryz.prog 218 (fun c : Nat × Nat => ctV c) where
 eq a b w := by
  obtain ⟨a1, a2⟩ := a
  obtain ⟨b1, b2⟩ := b
  simp [go_sem, Op.equal, Op.maxDepth]
  by_cases h1 : a1 = b1 <;> by_cases h2 : a2 = b2
  ·simp [h1, h2]
  ·have : ¬ (a2 : Int) = b2 := by omega
   simp [h1, h2, this]
  ·have : ¬ (a1 : Int) = b1 := by omega
   simp [h1, this]
  ·have : ¬ (a1 : Int) = b1 := by omega
   simp [h1, this]
 chk e a w := by
  have hi : ∀ (x : Nat) (n : Nat), (Instr.checkKey e (n + 1) 25 (.int .u64 (x : Int))).run Tryz.prog w = .ok () w := fun x n => by
   rw [Instr.checkKey]
   simp [run_underlying Tryz.underlying25]
  have hj : ∀ (x : Nat) (n : Nat), (Instr.checkKey e (n + 1) 78 (.int .u32 (x : Int))).run Tryz.prog w = .ok () w := fun x n => by
   rw [Instr.checkKey]
   simp [run_underlying Tryz.underlying78]
  rw [show (10000 : Nat) = 9998 + 1 + 1 from rfl, Instr.checkKey]
  simp [go_sem, run_underlying Tryz.underlying218, hi, hj]
 und := ⟨_, Tryz.underlying218, .inl fun a b => by simp [Instr.sameNow]⟩
 same a := by simp [Instr.sameBits]
abbrev CtM := List ((Nat × Nat) × Nat)
def seeC (M : CtM) (k : Nat × Nat) : CtM := aput M k ((aget M k).getD 0 + 1)
def cst1 (M : CtM) (e : En) : CtM := if chkE e = 0 ∧ 0 < e.run then seeC M (e.off, e.len) else M
def cstM (L : List En) : CtM := L.foldl cst1 []
theorem kO7 {L : List En} {k : Nat} {x : En} (h : L[k]? = some x) : cstM (L.take (k + 1)) = cst1 (cstM (L.take k)) x := by
 obtain ⟨hlt, rfl⟩ := List.getElem?_eq_some_iff.1 h
 unfold cstM
 rw [qB hlt, List.foldl_append, zA, List.foldl_nil]
theorem wP4 : ∀ (L : List En) (i : Nat), i ≤ L.length → ∀ k, (aget (cstM (L.take i)) k).getD 0 ≤ i
 | L, 0, _, k => by simp [cstM, aget]
 | L, i + 1, h, k => by
  have hx : L[i]? = some L[i] := xC (by omega)
  have ih := wP4 L i (by omega)
  rw [kO7 hx]
  unfold cst1 seeC
  split
  ·rw [kE6]
   split
   ·have := ih (L[i].off, L[i].len); simp only [Option.getD_some]; omega
   ·have := ih k; omega
  ·have := ih k; omega
abbrev wW4 (gm : Nat) (M : CtM) : Ent := mapS (fun c : Nat × Nat => ctV c) (fun n : Nat => iq (n : Nat)) gm M
theorem vN6 (A : Option Addr) (c : Nat) (L : List En) (T : Heap) (hA : jH6 A L.length) (hT : 0 < L.length → T = roE A (jA1 L)) (hL : L.length ≤ 100000) (hE : jF4 L) :
  Fn Tryz.prog 62 [.slice A L.length c] T fun v _ => v = iq ((cstM L).length : Nat) := by
 refine Fn.enter (N := 33) Tryz.func62 rfl (by kernel_rfl) rfl (fun w0 => ?_)
 refine aA rfl rfl <| f1K 0 rfl <| aR (fun Z hZ => kM4 rfl (fun c : Nat × Nat => ctV c) (fun n : Nat => iq (n : Nat)) (fun gm => sAN hZ rfl rfl <| f2K 0 3 rfl <| aS <| aR fun Z hZ => sM rfl rfl <| jE2 Tryz.underlying58 rfl rfl <| sMN hZ rfl rfl ?_))
 refine f4K 3 7 8 9 rfl <| aB ?_
 refine jB9 (ι := Nat) (fun i => [(3, .map (some gm)), (7, .slice A L.length c), (8, iq (L.length : Nat)), (9, iq (i : Nat))]) (fun i => wW4 gm (cstM (L.take i)) :: T)
  (fun i => i ≤ L.length) (fun i => L.length - i) 0 (by simp) (kR rfl) (HLe.refl _) ?_
 rintro i hi
 refine aR (fun Z hZ => jB2 ?_)
 refine sN (hZ _ _ <| f5K 3 7 8 9 10 rfl <| aS (aC0 (fun h1 => ?_) (fun h1 => ?_)))
 ·have hlt : i < L.length := by simpa using h1
  obtain ⟨x, hx⟩ : ∃ x, L[i]? = some x := ⟨_, xC hlt⟩
  have hxo := hE x (xM hx)
  have hsn := kO7 hx
  have hcl := wP4 L i (by omega) (x.off, x.len)
  obtain ⟨M, hM⟩ := xZ9 (cstM (L.take i))
  rw [hM] at hsn hcl ⊢
  obtain ⟨g, o, rfl⟩ := hA (by omega)
  obtain rfl := hT (by omega)
  refine jA6 [wW4 gm M, .ro g o (jA1 L)] (HLe.refl _) <| aK <| nN <| aS (aB <| aR (fun Z hZ => jB3 (o + i * 4) Tryz.underlying58 tyS80 rfl rfl (by omega) (by simp) rfl ?_))
  refine jB4 1 rfl rfl (i * 4) rfl tyA80 tyS80 (jG4 hx) rfl <| sAl tyZ80 rfl (fun g1 => sS0 0 tyS80 ?_)
  refine sN (hZ _ _ <| f5K 3 5 7 8 9 rfl <| jA3 [(3, .map (some gm)), (5, ptr g1 0), (7, .slice (some ⟨g, o, none⟩) L.length c), (8, iq (L.length : Nat)), (9, iq (i : Nat)), (19, .bool (decide (chkE x = 0 ∧ 0 < x.run)))] [.own g1 80 x.cells, wW4 gm M, .ro g o (jA1 L)] (fun Z hZ => ?_) ?_)
  ·refine sLA0 0 tyA80 tyS80 ?_
   refine sCP0 (vM9 x hxo) ?_
   refine sM rfl rfl <| jD0 15 rfl (fun hb2 => ?_) (fun hb2 => ?_)
   ·refine sOn0 ?_
    refine sFA0 jN0 ?_
    refine sOn0 ?_
    refine sL0 0 tyA78 tyS78 ?_
    refine sOn0 ?_
    refine jC4 ?_
    refine sP rfl rfl rfl <| sN (hZ _ _ ?_ ?_)
    ·exact Kn.cons rfl (Kn.cons rfl (Kn.cons rfl (Kn.cons rfl (Kn.cons rfl (Kn.cons (congrArg some (congrArg Value.bool (by first | (simp at *; done) | (simp at *; omega) | (simp at *; simp_all; done) | (simp at *; simp_all; omega)))) Kn.nil)))))
    ·exact HLe.refl _
   ·refine sO0 ?_
    refine sO0 ?_
    refine sO0 ?_
    refine sP rfl rfl rfl <| sN (hZ _ _ ?_ ?_)
    ·exact Kn.cons rfl (Kn.cons rfl (Kn.cons rfl (Kn.cons rfl (Kn.cons rfl (Kn.cons (congrArg some (congrArg Value.bool (by first | (simp at *; done) | (simp at *; omega) | (simp at *; simp_all; done) | (simp at *; simp_all; omega)))) Kn.nil)))))
    ·exact HLe.refl _
  refine aC0 (fun h2 => ?_) (fun h2 => ?_)
  ·have hc : chkE x = 0 ∧ 0 < x.run := by simpa using h2
   have h3 : cst1 M x = aput M (x.off, x.len) ((aget M (x.off, x.len)).getD 0 + 1) := by unfold cst1 seeC; rw [if_pos hc]
   have hget : ((aget M (x.off, x.len)).map fun n : Nat => iq (n : Nat)).getD (iq (0 : Nat)) = iq ((aget M (x.off, x.len)).getD 0 : Nat) := by cases aget M (x.off, x.len) <;> rfl
   rw [h3] at hsn
   obtain ⟨n, hn⟩ := xZ9 ((aget M (x.off, x.len)).getD 0)
   rw [hn] at hget hcl hsn
   refine kT0 (fun _ : Unit => [(3, .map (some gm)), (7, .slice (some ⟨g, o, none⟩) L.length c), (8, iq (L.length : Nat)), (9, iq (i : Nat))]) (fun _ => [wW4 gm (aput M (x.off, x.len) (n + 1)), .ro g o (jA1 L)]) (fun _ => True) _ [6, 8, 10] (Tr.step (0, true) (Tr.step (1, true) (Tr.step (2, true) (Tr.step (3, true) (Tr.step (4, true) (Tr.step (5, true) (Tr.fork (Tr.step (6, false) (Tr.step (7, true) (Tr.step (8, false) (Tr.step (9, true) (Tr.step (10, false) Tr.nil))))) (Tr.step (8, false) (Tr.step (9, true) (Tr.step (6, false) (Tr.step (7, true) (Tr.step (10, false) Tr.nil)))))))))))) mixed (by kernel_rfl) (HLe.pick [0] (by simp) (by simp only [pick, l7, qS]; rfl)) ?_ ?_
   ·refine tt_p rfl <| jA8 ?_
    refine vN <| tt_p rfl <| jA7 jH7 ?_
    refine vN <| tt_p rfl ?_
    first | refine jE6 0 rfl rfl tyA25 tyS25 rfl rfl ?_
    refine vN <| tt_p rfl <| jA7 jL8 ?_
    refine vN <| tt_p rfl ?_
    first | refine jE6 0 rfl rfl tyA78 tyS78 rfl rfl ?_
    refine vN <| tt_p rfl <| kJ6 tyZ218 tyP218 rfl rfl (by simp only [qS, Nat.reduceAdd, Value.cells, wrV]; rfl) rfl ?_
    refine vN <| kV4 ?_ ?_
    ·refine tt_g rfl <| kQ3 1 keyC Tryz.underlying216 kP1 (x.off, x.len) (iq (n : Nat)) rfl rfl rfl hget rfl <| sN ⟨HLe.pick [0] (by simp) rfl, ?_⟩
     refine tt_p rfl <| kH8 rfl rfl ((n + 1 : Nat) : Int) (by rw [lT _ (by omega)]; omega) rfl ?_
     refine vN <| tt_g rfl <| jS8 1 keyC Tryz.underlying216 kP1 (zv := 0) rfl (x.off, x.len) rfl rfl rfl rfl (fun M1 u1 M2 st hk1 hu1 hap => sN ⟨HLe.pick [0] (by simp) rfl, ?_⟩)
     refine tt_p rfl <| jF7 rfl rfl rfl <| vN <| tt_g rfl <| jP4 (v := n + 1) 1 rfl rfl rfl rfl rfl <| sN ⟨HLe.pick [0] (by simp) rfl, ?_⟩
     refine kH4 ?_
     rw [hap]
     exact ⟨(), trivial, kR rfl, HLe.drop 1 rfl⟩
    ·refine tt_g rfl <| jS8 1 keyC Tryz.underlying216 kP1 (zv := 0) rfl (x.off, x.len) rfl rfl rfl rfl (fun M1 u1 M2 st hk1 hu1 hap => sN ⟨HLe.pick [0] (by simp) rfl, ?_⟩)
     refine tt_p rfl <| jF7 rfl rfl rfl <| vN <| tt_g rfl <| kQ4 1 keyC Tryz.underlying216 kP1 (x.off, x.len) (iq (n : Nat)) rfl rfl rfl hk1 (hu1.trans hget) rfl <| sN ⟨HLe.pick [0] (by simp) rfl, ?_⟩
     refine tt_p rfl <| kH8 rfl rfl ((n + 1 : Nat) : Int) (by rw [lT _ (by omega)]; omega) rfl ?_
     refine vN <| tt_g rfl <| jP4 (v := n + 1) 1 rfl rfl rfl rfl rfl <| sN ⟨HLe.pick [0] (by simp) rfl, ?_⟩
     refine kH4 ?_
     rw [hap]
     exact ⟨(), trivial, kR rfl, HLe.drop 1 rfl⟩
   rintro ⟨⟩ -
   repeat refine nBN ?_
   refine nN ?_
   refine aG (fun Z hZ => ?_)
   refine jC2 rfl rfl ((i + 1 : Nat) : Int) (by rw [lT _ (by omega)]; omega) rfl ?_
   refine sMN hZ rfl rfl <| nF [(3, _), (7, _), (8, _), (9, _)] (kR rfl) <| jB8 (i + 1) hlt (by omega) (kR rfl) (by rw [hsn]; exact HLe.refl _)
  ·have hc : ¬ (chkE x = 0 ∧ 0 < x.run) := by simpa using h2
   have h3 : cst1 M x = M := by unfold cst1; rw [if_neg hc]
   rw [h3] at hsn
   refine aK ?_
   repeat refine nBN ?_
   refine nN ?_
   refine aG (fun Z hZ => ?_)
   refine jC2 rfl rfl ((i + 1 : Nat) : Int) (by rw [lT _ (by omega)]; omega) rfl ?_
   refine sMN hZ rfl rfl <| nF [(3, _), (7, _), (8, _), (9, _)] (kR rfl) <| jB8 (i + 1) hlt (by omega) (kR rfl) (by rw [hsn]; exact HLe.drop 1 rfl)
 ·refine jB1 ?_
  repeat refine nTE ?_
  refine nBE <| nN ?_
  have hke : i = L.length := by simp at h1; omega
  subst hke
  rw [x6]
  refine aR fun Z hZ => sM rfl rfl <| wU8 0 Tryz.underlying216 rfl rfl rfl <| sAN hZ rfl rfl <| f1K 2 rfl <| aE <| nR10 rfl
end V
namespace V
open Go.RowKit
theorem yJ1 {e : En} (h1 : e.len ≠ 0) (h2 : e.id + e.wide ≤ 6004799503160661) (h3 : e.off + e.len ≤ 1099511627776) : chkE e = 0 := by
 have hw : 1 ≤ e.wide := by unfold En.wide; omega
 have hn : e.next = e.off + e.len := by unfold En.next; omega
 unfold chkE
 rw [if_neg h1, if_neg (by omega), if_neg (by omega)]
theorem vL9 {e : En} (h : chkE e = 0) (hr : 0 < e.run) : jK7 e = e.id + e.run - 1 := by
 unfold jK7 En.wide
 rw [if_pos h]
 omega
theorem wL9 : ∀ (ts r : List Tx) (o : Nat) (t : Tx), t ∈ ts → fdQ o (ts ++ r) t = fdQ o ts t
 | [], _, _, _, h => by cases h
 | x :: q, r, o, t, h => by
  rw [lL, fdQ, fdQ]
  split
  ·rfl
  ·rename_i hne
   rcases List.mem_cons.1 h with e | h
   ·exact absurd e.symm hne
   ·exact wL9 q r _ t h
theorem yF4 {ts : List Tx} (r : List Tx) {t : Tx} (h : t ∈ ts) : addC (ts ++ r) t = addC ts t := by
 unfold addC
 rw [wL9 ts r 0 t h]
 cases hf : fdQ 0 ts t with
 | none => exact absurd h ((jY0 ts 0 t).1 hf)
 | some c => rfl
theorem kE8 {ts : List Tx} (hn : ts.Nodup) {t : Tx} (h : t ∈ ts) : (ts.flatten.drop (addC ts t).1).take (addC ts t).2 = t ∧ (addC ts t).1 + (addC ts t).2 ≤ ts.flatten.length ∧ (addC ts t).2 = t.length := by
 obtain ⟨k, hk, hkt⟩ := List.getElem_of_mem h
 have hg : ts[k]? = some t := by rw [xC hk, hkt]
 obtain ⟨h1, h2⟩ := vM4 ts k t hg
 have hc : addC ts t = ((ts.take k).flatten.length, t.length) := by unfold addC; rw [vF6 ts 0 k t hn hg, lA]; rfl
 rw [hc]
 exact ⟨h2, h1, rfl⟩
theorem vV2 (ts : List Tx) (s : Tx) : s ∈ addT ts s := by
 unfold addT
 split
 ·assumption
 ·simp
theorem yF3 {ts : List Tx} (s : Tx) {t : Tx} (h : t ∈ ts) : t ∈ addT ts s := by
 unfold addT
 split
 ·exact h
 ·exact xI _ h
theorem wS0 {ts : List Tx} (hn : ts.Nodup) (s : Tx) : addC (addT ts s) s = addC ts s := by
 unfold addT
 split
 ·rfl
 ·rename_i hm
  have hn2 : (ts ++ [s]).Nodup := List.nodup_append.2 ⟨hn, by simp, fun a ha b hb => by rw [List.mem_singleton.1 hb]; exact fun e => hm (e ▸ ha)⟩
  have h1 : addC ts s = (ts.flatten.length, s.length) := by unfold addC; rw [(jY0 ts 0 s).2 hm]; rfl
  have h2 : addC (ts ++ [s]) s = (ts.flatten.length, s.length) := by
   unfold addC
   rw [vF6 (ts ++ [s]) 0 ts.length s hn2 (by simp), lA]
   simp
  rw [h1, h2]
def tsS (C : List It) : List Tx := C.foldl (fun ts x => addT ts x.tx) []
theorem wB4 : ∀ (Q : List It) (ts : List Tx), ∃ r, Q.foldl (fun ts x => addT ts x.tx) ts = ts ++ r
 | [], ts => ⟨[], by simp⟩
 | x :: q, ts => by
  obtain ⟨r, hr⟩ := wB4 q (addT ts x.tx)
  rw [zA, hr]
  unfold addT
  split
  ·exact ⟨r, rfl⟩
  ·exact ⟨[x.tx] ++ r, by rw [xF]⟩
theorem kJ5 {C : List It} {k : Nat} {x : It} (h : C[k]? = some x) : tsS (C.take (k + 1)) = addT (tsS (C.take k)) x.tx := by
 obtain ⟨hlt, rfl⟩ := List.getElem?_eq_some_iff.1 h
 unfold tsS
 rw [qB hlt, List.foldl_append, zA, List.foldl_nil]
theorem wU1 (C : List It) (k : Nat) : ∃ r, tsS C = tsS (C.take k) ++ r := by
 have h : tsS C = (C.drop k).foldl (fun ts x => addT ts x.tx) (tsS (C.take k)) := by
  unfold tsS
  rw [← List.foldl_append, List.take_append_drop]
 rw [h]
 exact wB4 _ _
theorem wB5 {C : List It} (h : ∀ x ∈ C, x.tx ≠ []) : ∀ k, k ≤ C.length → TsOk (tsS (C.take k)) ∧ ∀ t, t ∈ tsS (C.take k) ↔ ∃ x ∈ C.take k, x.tx = t
 | 0, _ => ⟨⟨uB, fun t ht => by cases ht⟩, fun t => by simp [tsS]⟩
 | k + 1, hk => by
  have hx : C[k]? = some C[k] := xC (by omega)
  obtain ⟨h1, h2⟩ := wB5 h k (by omega)
  rw [kJ5 hx]
  refine ⟨wR6 h1 (h _ (uA _)), fun t => ?_⟩
  rw [qB (by omega)]
  constructor
  ·intro ht
   unfold addT at ht
   split at ht
   ·obtain ⟨x, hx, he⟩ := (h2 t).1 ht
    exact ⟨x, xI _ hx, he⟩
   ·rcases List.mem_append.1 ht with ht | ht
    ·obtain ⟨x, hx, he⟩ := (h2 t).1 ht
     exact ⟨x, xI _ hx, he⟩
    ·exact ⟨C[k], x0 _ (List.mem_singleton.2 rfl), (List.mem_singleton.1 ht).symm⟩
  ·rintro ⟨x, hx2, rfl⟩
   rcases List.mem_append.1 hx2 with hx2 | hx2
   ·exact yF3 _ ((h2 x.tx).2 ⟨x, hx2, rfl⟩)
   ·rw [List.mem_singleton.1 hx2]; exact vV2 _ _
def jY5 (C : List It) : List En := C.map (enOf (tsS C))
theorem wE9 {C : List It} (h : ∀ x ∈ C, x.tx ≠ []) : ∀ k, k ≤ C.length → jL3 (C.take k) = (((C.take k).map (enOf (tsS C))).foldl put1 [], tsS (C.take k))
 | 0, _ => by simp [jL3, tsS]
 | k + 1, hk => by
  have hx : C[k]? = some C[k] := xC (by omega)
  obtain ⟨h1, h2⟩ := wB5 h k (by omega)
  have hen : enOf (tsS (C.take k)) C[k] = enOf (tsS C) C[k] := by
   obtain ⟨r, hr⟩ := wU1 C (k + 1)
   unfold enOf
   rw [hr, yF4 r (by rw [kJ5 hx]; exact vV2 _ _), kJ5 hx, wS0 h1.nd]
  rw [kN1 hx, wE9 h k (by omega), kJ5 hx]
  unfold rwS
  simp only
  rw [hen, qB (by omega), x8, List.foldl_append]
  rfl
theorem yO4 {C : List It} (h : ∀ x ∈ C, x.tx ≠ []) : jL3 C = ((jY5 C).foldl put1 [], tsS C) := by
 have := wE9 h C.length (xB _)
 rw [x6] at this
 exact this
def expE (e : En) : List En := (List.range e.run).map fun k => { e with id := e.id + k, run := 1 }
theorem kD9 (e : En) : (expE e).length = e.run := by simp [expE]
theorem expE_mem {e u : En} : u ∈ expE e ↔ ∃ k, k < e.run ∧ u = { e with id := e.id + k, run := 1 } := by
 unfold expE
 rw [xJ]
 exact ⟨fun ⟨k, hk, h⟩ => ⟨k, List.mem_range.1 hk, h.symm⟩, fun ⟨k, hk, h⟩ => ⟨k, List.mem_range.2 hk, h.symm⟩⟩
structure UnOk (u : En) : Prop where
 run : u.run = 1
 chk : chkE u = 0
 ok : u.ok
structure GrOk (us G : List En) : Prop where
 ex : G.flatMap expE = us
 ok : ∀ e ∈ G, 0 < e.run ∧ chkE e = 0 ∧ e.ok
 sep : ∀ i a b, G[i]? = some a → G[i + 1]? = some b → jK7 a < b.id ∧ oneQ a b = false
theorem vE8 {α : Type} (G : List α) (h : G ≠ []) : ∃ X a, G = X ++ [a] := ⟨G.dropLast, G.getLast h, (List.dropLast_concat_getLast h).symm⟩
theorem wH0 (X : List En) (a u : En) : put1 (X ++ [a]) u = if oneQ a u then X ++ [{ a with run := a.run + 1 }] else X ++ [a] ++ [u] := by
 have hl : (X ++ [a]).length - 1 = X.length := by simp
 have hg : (X ++ [a])[(X ++ [a]).length - 1]? = some a := by rw [hl]; simp
 rw [vE2 hg, hl]
 split
 ·rw [List.set_append_right _ _ (xB _), uL]; rfl
 ·rfl
theorem GrOk.step {us G : List En} (h : GrOk us G) {u : En} (hu : UnOk u) (hr : ∀ v ∈ us, v.id < u.id) (hl : us.length < 4294967295) : GrOk (us ++ [u]) (put1 G u) := by
 have hux : expE u = [u] := by
  unfold expE
  rw [hu.run]
  have : ({ u with id := u.id + 0, run := 1 } : En) = u := by
   obtain ⟨a, b, c, d⟩ := u
   have := hu.run
   simp only at this
   subst this
   rfl
  simpa using this
 by_cases h0 : G = []
 ·subst h0
  have : us = [] := h.ex.symm
  subst this
  refine ⟨by show [u].flatMap expE = _; simp [hux], fun e he => ?_, fun i a b h1 h2 => ?_⟩
  ·rw [show e = u from List.mem_singleton.1 he]
   exact ⟨by rw [hu.run]; exact Nat.one_pos, hu.chk, hu.ok⟩
  ·simp [put1] at h2
 ·obtain ⟨X, a, rfl⟩ := vE8 G h0
  obtain ⟨ha1, ha2, ha3⟩ := h.ok a (by simp)
  have hex := h.ex
  rw [zV] at hex
  have hexa : [a].flatMap expE = expE a := by simp
  rw [hexa] at hex
  have hal : a.run ≤ us.length := by rw [← hex, lX, kD9]; omega
  have hla := vL9 ha2 ha1
  have hlt : jK7 a < u.id := by
   have hm : ({ a with id := a.id + (a.run - 1), run := 1 } : En) ∈ us := by
    rw [← hex]
    exact x0 _ (expE_mem.2 ⟨a.run - 1, by omega, rfl⟩)
   have := hr _ hm
   simp only at this
   omega
  rw [wH0]
  split
  ·rename_i hone
   obtain ⟨o1, o2, o3⟩ := of_decide_eq_true hone
   obtain ⟨c1, c2, c3, c4⟩ := kI6 ha3 ha2
   obtain ⟨d1, d2, d3, d4⟩ := kI6 hu.ok hu.chk
   obtain ⟨k1, k2, k3, k4⟩ := ha3
   have hwu : u.wide = 1 := by unfold En.wide; rw [hu.run]; rfl
   have hsame : ({ a with id := a.id + a.run, run := 1 } : En) = u := by
    obtain ⟨p, q, r, s⟩ := u
    have := hu.run
    simp only at this o1 o2 o3 ⊢
    subst this; subst o2; subst o3
    congr 1
    omega
   refine ⟨?_, fun e he => ?_, fun i x y h1 h2 => ?_⟩
   ·rw [zV, ← hex, xF]
    congr 1
    show [({ a with run := a.run + 1 } : En)].flatMap expE = _
    simp only [xX, List.flatMap_nil, lH]
    unfold expE
    rw [List.range_succ, x8]
    simp only [xN, qJ]
    rw [hsame]
   ·rcases List.mem_append.1 he with he | he
    ·exact h.ok e (xI _ he)
    ·rw [List.mem_singleton.1 he]
     have hn : a.next = a.off + a.len := by unfold En.next; omega
     exact ⟨Nat.succ_pos _, yJ1 c1 (by show a.id + max 1 (a.run + 1) ≤ _; omega) (by show a.off + a.len ≤ _; omega), k1, k2, k3, by show a.run + 1 < _; omega⟩
   ·have hil : i + 1 < (X ++ [({ a with run := a.run + 1 } : En)]).length := (List.getElem?_eq_some_iff.1 h2).1
    rw [lX, zD] at hil
    have hx : X[i]? = some x := by rwa [qK (by omega)] at h1
    rcases xP (i + 1) X.length with hlt2 | hge
    ·rw [qK hlt2] at h2
     exact h.sep i x y (by rw [qK (by omega)]; exact hx) (by rw [qK hlt2]; exact h2)
    ·have hi : i + 1 = X.length := by omega
     have hs := h.sep i x a (by rw [qK (by omega)]; exact hx) (by rw [hi]; simp)
     rw [hi] at h2
     simp only [List.getElem?_concat_length, x5] at h2
     subst h2
     exact ⟨hs.1, hs.2⟩
  ·rename_i hone
   refine ⟨?_, fun e he => ?_, fun i x y h1 h2 => ?_⟩
   ·rw [zV, zV, hexa, hex]
    simp [hux]
   ·rcases List.mem_append.1 he with he | he
    ·exact h.ok e he
    ·rw [List.mem_singleton.1 he]
     exact ⟨by rw [hu.run]; exact Nat.one_pos, hu.chk, hu.ok⟩
   ·have hil : i + 1 < (X ++ [a] ++ [u]).length := (List.getElem?_eq_some_iff.1 h2).1
    rw [lX, lX, zD, zD] at hil
    rcases xP (i + 1) (X ++ [a]).length with hlt2 | hge
    ·rw [qK hlt2] at h2
     rw [qK (by omega)] at h1
     exact h.sep i x y h1 h2
    ·have hi : i + 1 = (X ++ [a]).length := by rw [lX, zD] at hge ⊢; omega
     rw [hi] at h2
     simp only [List.getElem?_concat_length, x5] at h2
     subst h2
     have hi2 : i = X.length := by simpa using hi
     rw [qK (by omega), hi2] at h1
     simp only [List.getElem?_concat_length, x5] at h1
     subst h1
     exact ⟨hlt, by simpa using hone⟩
theorem GrOk.nil : GrOk [] [] := ⟨rfl, fun e he => absurd he (by simp), fun i a b h1 => absurd h1 (by simp)⟩
theorem wL2 : ∀ (us G0 us0 : List En), GrOk us0 G0 → (∀ u ∈ us, UnOk u) → (us0 ++ us).Pairwise (fun a b => a.id < b.id) → (us0 ++ us).length < 4294967295 → GrOk (us0 ++ us) (us.foldl put1 G0)
 | [], G0, us0, h, _, _, _ => by simpa using h
 | u :: r, G0, us0, h, hu, hp, hl => by
  have hr : ∀ v ∈ us0, v.id < u.id := fun v hv => (List.pairwise_append.1 hp).2.2 v hv u lO
  have h1 := h.step (hu u lO) hr (by rw [lX] at hl; omega)
  have := wL2 r (put1 G0 u) (us0 ++ [u]) h1 (fun v hv => hu v (lW _ hv)) (by rw [xF]; exact hp) (by rw [xF]; exact hl)
  rw [xF] at this
  exact this
theorem kG1 {α : Type} [DecidableEq α] : ∀ (L M : List α), L.Nodup → (∀ x ∈ L, x ∈ M) → L.length ≤ M.length
 | [], _, _, _ => xD _
 | a :: r, M, hn, h => by
  have ha := h a lO
  have hr := List.nodup_cons.1 hn
  have := kG1 r (M.erase a) hr.2 (fun x hx => (List.mem_erase_of_ne (fun (e : x = a) => hr.1 (by rw [← e]; exact hx))).2 (h x (lW _ hx)))
  rw [List.length_erase_of_mem ha] at this
  have hp := List.length_pos_of_mem ha
  rw [lE]
  omega
theorem wW3 {a : En} {r : List En} (h : ∀ i x y, (a :: r)[i]? = some x → (a :: r)[i + 1]? = some y → jK7 x < y.id ∧ oneQ x y = false) : ∀ i x y, r[i]? = some x → r[i + 1]? = some y → jK7 x < y.id ∧ oneQ x y = false :=
 fun i x y h1 h2 => h (i + 1) x y (by rwa [xE]) (by rwa [xE])
theorem wF1 : ∀ (G : List En) (free : Nat), (∀ e ∈ G, 0 < e.run ∧ chkE e = 0 ∧ e.ok) → (∀ i x y, G[i]? = some x → G[i + 1]? = some y → jK7 x < y.id ∧ oneQ x y = false) → (∀ x, G[0]? = some x → free ≤ x.id) → rowQ free G = 0
 | [], _, _, _, _ => rfl
 | a :: r, free, h1, h2, h3 => by
  have ha := h3 a rfl
  rw [rowQ, if_pos (h1 a lO).2.1, if_neg (by omega)]
  exact wF1 r _ (fun e he => h1 e (lW _ he)) (wW3 h2) (fun x hx => (h2 0 a x rfl (by rwa [xE])).1)
theorem wR4 (M : CtM) (k k' : Nat × Nat) (v : Nat) : k' ∈ jD8 (aput M k v) ↔ k' = k ∨ k' ∈ jD8 M := by
 have h1 := kE7 (M := aput M k v) (k := k')
 have h2 := kE7 (M := M) (k := k')
 rw [kE6] at h1
 by_cases h : k = k'
 ·rw [if_pos h] at h1
  have : k' ∈ jD8 (aput M k v) := Classical.byContradiction fun hn => by have := h1.2 hn; cases this
  exact ⟨fun _ => .inl h.symm, fun _ => this⟩
 ·rw [if_neg h, h2] at h1
  constructor
  ·intro hm
   exact .inr (Classical.byContradiction fun hn => h1.1 hn hm)
  ·rintro (e | hm)
   ·exact absurd e.symm h
   ·exact Classical.byContradiction fun hn => h1.2 hn hm
theorem kK8 : ∀ (L : List En) (M : CtM), (jD8 M).Nodup → (jD8 (L.foldl cst1 M)).Nodup ∧ ∀ k, k ∈ jD8 (L.foldl cst1 M) ↔ k ∈ jD8 M ∨ ∃ e ∈ L, (chkE e = 0 ∧ 0 < e.run) ∧ (e.off, e.len) = k
 | [], M, h => ⟨h, fun k => by simp⟩
 | a :: r, M, h => by
  rw [zA]
  unfold cst1
  split
  ·rename_i hc
   obtain ⟨h1, h2⟩ := kK8 r (seeC M (a.off, a.len)) (kD2 h _ _)
   refine ⟨h1, fun k => ?_⟩
   have := h2 k
   unfold cst1 at this
   rw [this]
   unfold seeC
   rw [wR4]
   constructor
   ·rintro ((e | h) | ⟨e, he, h⟩)
    ·exact .inr ⟨a, lO, hc, e.symm⟩
    ·exact .inl h
    ·exact .inr ⟨e, lW _ he, h⟩
   ·rintro (h | ⟨e, he, h⟩)
    ·exact .inl (.inr h)
    ·rcases List.mem_cons.1 he with rfl | he
     ·exact .inl (.inl h.2.symm)
     ·exact .inr ⟨e, he, h⟩
  ·rename_i hc
   obtain ⟨h1, h2⟩ := kK8 r M h
   refine ⟨h1, fun k => ?_⟩
   have := h2 k
   unfold cst1 at this
   rw [this]
   constructor
   ·rintro (h | ⟨e, he, h⟩)
    ·exact .inl h
    ·exact .inr ⟨e, lW _ he, h⟩
   ·rintro (h | ⟨e, he, h⟩)
    ·exact .inl h
    ·rcases List.mem_cons.1 he with rfl | he
     ·exact absurd h.1 hc
     ·exact .inr ⟨e, he, h⟩
theorem yW1 (L : List En) : (jD8 (cstM L)).length = (cstM L).length := by simp [jD8]
theorem yS9 (e : En) (D : List UInt8) : jU3 e D = (expE e).map fun u => ⟨u.id, txOf u D⟩ := by
 unfold jU3 expE
 rw [uJ]
 rfl
theorem wK1 (D : List UInt8) : ∀ L : List En, L.flatMap (fun e => jU3 e D) = (L.flatMap expE).map fun u => ⟨u.id, txOf u D⟩
 | [] => rfl
 | a :: r => by rw [xX, xX, x8, wK1 D r, yS9]
theorem yH9 (D : List UInt8) : ∀ (L : List En) (many : Nat) (out : List It), (∀ e ∈ L, 0 < e.run ∧ e.off + e.len ≤ D.length ∧ e.len ≤ 65536) → many + (L.flatMap expE).length ≤ 2048 → mbR D many out L = (0, out ++ L.flatMap fun e => jU3 e D)
 | [], _, out, _, _ => by rw [mbR]; simp
 | a :: r, many, out, h, hm => by
  obtain ⟨h1, h2, h3⟩ := h a lO
  rw [xX, lX, kD9] at hm
  have hw : mwrQ a (many + a.run) D = 0 := by
   unfold mwrQ
   rw [if_neg (by omega), if_neg (by omega), if_neg (by omega), if_neg (by omega)]
  rw [mbR, if_pos hw, yH9 D r _ _ (fun e he => h e (lW _ he)) (by omega), xX, xF]
structure WhOk (C : List It) (R : List En) (D : List UInt8) : Prop where
 eq : jL3 C = (R, tsS C)
 fl : (tsS C).flatten = D
 ts : TsOk (tsS C)
 tm : ∀ t, t ∈ tsS C ↔ ∃ x ∈ C, x.tx = t
 gr : GrOk (jY5 C) R
 no : R.length ≤ 2048
 dl : D.length ≤ 134217728
theorem vV4 {C : List It} (h : ChOk C) : WhOk C (jL3 C).1 (jL3 C).2.flatten := by
 have hne : ∀ x ∈ C, x.tx ≠ [] := fun x hx => (h.tx x hx).1
 have hr := yO4 hne
 have hrs := kX0 h C.length (xB _)
 rw [x6] at hrs
 have hlen := h.len
 obtain ⟨h1, h2⟩ := wB5 hne C.length (xB _)
 rw [x6] at h1 h2
 have h22 : (jL3 C).2 = tsS C := by rw [hr]
 have hfl := hrs.fl
 have hno := hrs.no
 refine ⟨by rw [hr], by rw [h22], h1, h2, ?_, by omega, by omega⟩
 rw [hr]
 rw [h22] at hfl
 have := wL2 (jY5 C) [] [] GrOk.nil (fun u hu => ?_) ?_ ?_
 ·simpa using this
 ·obtain ⟨x, hx, rfl⟩ := List.mem_map.1 hu
  obtain ⟨x1, x2⟩ := h.tx x hx
  have x3 := h.lt x hx
  obtain ⟨c1, c2, c3⟩ := kE8 h1.nd ((h2 x.tx).2 ⟨x, hx, rfl⟩)
  have hpos := List.length_pos_iff.2 x1
  refine ⟨rfl, yJ1 (by show (addC (tsS C) x.tx).2 ≠ 0; omega) (by show x.id + max 1 1 ≤ _; omega) (by show (addC (tsS C) x.tx).1 + (addC (tsS C) x.tx).2 ≤ _; omega), by show x.id < _; omega, by show (addC (tsS C) x.tx).1 < _; omega, by show (addC (tsS C) x.tx).2 < _; omega, by show 1 < _; omega⟩
 ·rw [lD]
  exact List.pairwise_map.2 h.rise
 ·simp only [lD, jY5, zG]
  omega
section
variable {C : List It} {R : List En} {D : List UInt8}
theorem WhOk.ent (h : WhOk C R D) {e : En} (he : e ∈ R) : ∃ x ∈ C, (addC (tsS C) x.tx).1 = e.off ∧ (addC (tsS C) x.tx).2 = e.len ∧ x.id = e.id := by
 have hr := (h.gr.ok e he).1
 have hu : ({ e with id := e.id + 0, run := 1 } : En) ∈ jY5 C := by
  rw [← h.gr.ex]
  exact List.mem_flatMap.2 ⟨e, he, expE_mem.2 ⟨0, hr, rfl⟩⟩
 obtain ⟨x, hx, hxe⟩ := List.mem_map.1 hu
 refine ⟨x, hx, congrArg En.off hxe, congrArg En.len hxe, ?_⟩
 have := congrArg En.id hxe
 simpa [enOf] using this
theorem WhOk.it (h : WhOk C R D) {x : It} (hx : x ∈ C) : ∃ e ∈ R, ∃ k, k < e.run ∧ x.id = e.id + k ∧ (addC (tsS C) x.tx).1 = e.off ∧ (addC (tsS C) x.tx).2 = e.len := by
 have hu : enOf (tsS C) x ∈ jY5 C := List.mem_map.2 ⟨x, hx, rfl⟩
 rw [← h.gr.ex] at hu
 obtain ⟨e, he, hm⟩ := List.mem_flatMap.1 hu
 obtain ⟨k, hk, hke⟩ := expE_mem.1 hm
 exact ⟨e, he, k, hk, congrArg En.id hke, congrArg En.off hke, congrArg En.len hke⟩
theorem WhOk.pos (h : WhOk C R D) {x : It} (hx : x ∈ C) : (D.drop (addC (tsS C) x.tx).1).take (addC (tsS C) x.tx).2 = x.tx ∧ (addC (tsS C) x.tx).1 + (addC (tsS C) x.tx).2 ≤ D.length ∧ (addC (tsS C) x.tx).2 = x.tx.length := by
 have := kE8 h.ts.nd ((h.tm x.tx).2 ⟨x, hx, rfl⟩)
 rwa [h.fl] at this
theorem WhOk.ens (h : WhOk C R D) : jF4 R := fun e he => (h.gr.ok e he).2.2
theorem WhOk.exl (h : WhOk C R D) : (R.flatMap expE).length = C.length := by rw [h.gr.ex]; simp [jY5]
theorem WhOk.row (h : WhOk C R D) : rowC R = 0 := by
 unfold rowC
 have := h.no
 rw [if_neg (by omega)]
 exact wF1 R 0 h.gr.ok h.gr.sep (fun _ _ => xD _)
theorem WhOk.nxt (h : WhOk C R D) {e : En} (he : e ∈ R) : e.off + e.len ≤ D.length ∧ e.next = e.off + e.len := by
 obtain ⟨x, hx, h1, h2, _⟩ := h.ent he
 have h3 := (h.pos hx).2.1
 have h4 := h.dl
 rw [h1, h2] at h3
 exact ⟨h3, by unfold En.next; omega⟩
theorem WhOk.back (h : WhOk C R D) (hok : ChOk C) : mbQ R D = (0, C) := by
 unfold mbQ
 rw [if_pos h.row]
 have hl := hok.len
 rw [yH9 D R 0 [] (fun e he => by
  obtain ⟨x, hx, h1, h2, _⟩ := h.ent he
  have h3 := (h.pos hx).2.2
  have h4 := (hok.tx x hx).2
  exact ⟨(h.gr.ok e he).1, (h.nxt he).1, by omega⟩) (by rw [h.exl]; omega), wK1, h.gr.ex, lD]
 congr 1
 unfold jY5
 rw [uJ]
 have : ∀ x ∈ C, ((fun u : En => (⟨u.id, txOf u D⟩ : It)) ∘ enOf (tsS C)) x = x := fun x hx => by
  show (⟨x.id, (D.drop (addC (tsS C) x.tx).1).take (addC (tsS C) x.tx).2⟩ : It) = x
  rw [(h.pos hx).1]
 rw [List.map_congr_left this, List.map_id']
end
theorem wD6 (a b : Tx) : (str a == str b) = decide (a = b) := by
 have e : (str a == str b) = (a.toArray == b.toArray) := rfl
 rw [e, lR, beq_iff_eq, decide_eq_true_iff]
 exact ⟨fun h => by simpa using h, fun h => by rw [h]⟩
theorem yZ1 (a b : Tx) : (a == b) = decide (a = b) := by rw [lR, decide_eq_true_iff, beq_iff_eq]
theorem keyT : KeyOk Tryz.prog 9 (fun s : Tx => .string (str s)) where
 eq a b w := by
  simp [go_sem, Op.equal, Op.maxDepth, run_underlying Tryz.underlying9, vJ4, yZ1]
 chk e a w := by
  rw [show (10000 : Nat) = 9999 + 1 from rfl, Instr.checkKey]
  simp [run_underlying Tryz.underlying9]
 und := ⟨_, Tryz.underlying9, .inr fun a b => by simp [Instr.sameNow, wD6]⟩
 same a := by simp [Instr.sameBits, wD6]
abbrev TxM := List (Tx × Nat)
theorem vS7 {e : En} (h : 0 < e.run ∧ chkE e = 0) (k : Nat) : kA3 e k = true ↔ ∃ u ∈ expE e, u.id = k := by
 have hl := vL9 h.2 h.1
 unfold kA3
 rw [decide_eq_true_iff]
 constructor
 ·rintro ⟨h1, h2, h3, h4⟩
  exact ⟨_, expE_mem.2 ⟨k - e.id, by omega, rfl⟩, by show e.id + (k - e.id) = k; omega⟩
 ·rintro ⟨u, hu, rfl⟩
  obtain ⟨j, hj, rfl⟩ := expE_mem.1 hu
  exact ⟨h.2, h.1, by show e.id ≤ e.id + j; omega, by show e.id + j ≤ _; omega⟩
theorem wB6 : ∀ (C : List It) (ts : List Tx), (C.foldl (fun ts x => addT ts x.tx) ts).flatten.length ≤ ts.flatten.length + jF2 C
 | [], ts => by simp [jF2]
 | x :: r, ts => by
  rw [zA]
  have h1 := wB6 r (addT ts x.tx)
  have h2 := (wR7 ts x.tx).2
  have h3 : jF2 (x :: r) = x.tx.length + jF2 r := by simp [jF2]
  omega
theorem wH9 (L : List It) : jF2 (ownQ L) ≤ jF2 L := by
 have : ∀ (L acc : List It), ChOk acc → jF2 (L.foldl (fun acc e => putQ e.id e.tx acc) acc) ≤ jF2 acc + jF2 L := by
  intro L
  induction L with
  | nil => intro acc _; simp [jF2]
  | cons x r ih =>
   intro acc h
   rw [zA]
   have h1 := ih _ (h.putQ x.id x.tx)
   have h2 : jF2 (putQ x.id x.tx acc) ≤ jF2 acc + x.tx.length := by
    unfold putQ
    split
    ·exact wG7 h.rise _ _
    ·omega
   have h3 : jF2 (x :: r) = x.tx.length + jF2 r := by simp [jF2]
   omega
 have := this L [] ChOk.nil
 simpa [ownQ, jF2] using this
def zeroEn : En := ⟨0, 0, 0, 0⟩
def jK6 (L : List En) (i : Nat) : En := if i = 0 then zeroEn else L.getD (i - 1) zeroEn
def atE (L : List En) (i : Nat) : En := L.getD i zeroEn
def numQ (c i : Nat) (a e : En) : Nat :=
 if c = 0 then (e.id + 18446744073709551616 - a.id) % 18446744073709551616 else if c = 1 then e.run else if c = 2 then e.len
 else if 0 < i ∧ e.off = a.next then 0 else (e.off + 1) % 18446744073709551616
def colQ (L : List En) (c : Nat) : List Nat := (List.range L.length).map fun i => numQ c i (jK6 L i) (atE L i)
def jF3 (L : List En) : List Nat := L.length :: (colQ L 0 ++ (colQ L 1 ++ (colQ L 2 ++ colQ L 3)))
theorem vH7 : zeroEn.ok := ⟨by decide, by decide, by decide, by decide⟩
theorem jW5 {L : List En} (h : jF4 L) (i : Nat) : (atE L i).ok := by
 unfold atE
 rcases xP i L.length with hl | hl
 ·rw [uD, xC hl]; exact h _ (uA _)
 ·rw [uD, qL hl]; exact vH7
theorem kX5 {L : List En} (h : jF4 L) (i : Nat) : (jK6 L i).ok := by
 unfold jK6
 split
 ·exact vH7
 ·exact jW5 h (i - 1)
theorem jW6 {L : List En} {i : Nat} (h : i < L.length) : L[i]? = some (atE L i) := by simp [atE, h]
theorem kR1 (L : List En) (i : Nat) : jK6 L (i + 1) = atE L i := by simp [jK6, atE]
theorem wI8 {c i : Nat} {a e : En} (h : e.ok) : numQ c i a e < 18446744073709551616 := by
 obtain ⟨h1, h2, h3, h4⟩ := h
 unfold numQ
 split
 ·omega
 split
 ·omega
 split
 ·omega
 split <;> omega
theorem vU2 (L : List En) (c : Nat) : (colQ L c).length = L.length := by simp [colQ]
theorem jO5 (L : List En) : (jF3 L).length = 1 + 4 * L.length := by simp [jF3, vU2]; omega
theorem vA0 {L : List En} {c i : Nat} (h : i < L.length) : (colQ L c)[i]? = some (numQ c i (jK6 L i) (atE L i)) := by simp [colQ, h]
theorem vR8 {L : List En} {c i : Nat} (hc : c < 4) (h : i < L.length) : (jF3 L)[1 + c * L.length + i]? = some (numQ c i (jK6 L i) (atE L i)) := by
 have key : ∀ c, (colQ L c).length = L.length := vU2 L
 unfold jF3
 rw [show 1 + c * L.length + i = (c * L.length + i) + 1 by omega, xE]
 match c, hc with
 | 0, _ => rw [qK (by rw [key]; omega), xK, lA]; exact vA0 h
 | 1, _ =>
  rw [qQ (by rw [key]; omega), key, qK (by rw [key]; omega)]
  rw [show 1 * L.length + i - L.length = i by omega]; exact vA0 h
 | 2, _ =>
  rw [qQ (by rw [key]; omega), key, qQ (by rw [key]; omega), key, qK (by rw [key]; omega)]
  rw [show 2 * L.length + i - L.length - L.length = i by omega]; exact vA0 h
 | 3, _ =>
  rw [qQ (by rw [key]; omega), key, qQ (by rw [key]; omega), key, qQ (by rw [key]; omega), key]
  rw [show 3 * L.length + i - L.length - L.length - L.length = i by omega]; exact vA0 h
theorem kD1 {L : List En} (h : jF4 L) (hl : L.length < 18446744073709551616) : ∀ x ∈ jF3 L, x < 18446744073709551616 := fun x hx => by
 have hcol : ∀ c, x ∈ colQ L c → x < 18446744073709551616 := fun c hc => by
  obtain ⟨i, _, rfl⟩ := List.mem_map.1 hc
  exact wI8 (jW5 h i)
 simp only [jF3, lY, xH] at hx
 rcases hx with rfl | hx | hx | hx | hx
 ·exact hl
 ·exact hcol _ hx
 ·exact hcol _ hx
 ·exact hcol _ hx
 ·exact hcol _ hx
theorem kK7 (e : En) (h : e.ok) : Fn Tryz.prog 153 [e.val] [] fun v _ => v = uq e.next := by
 obtain ⟨h1, h2, h3, h4⟩ := h
 refine Fn.enter (N := 9) Tryz.func153 rfl (by kernel_rfl) rfl (fun w0 => ?_)
 refine aR (fun Z hZ => jB5 (fun g1 => ?_))
 refine sAN hZ rfl rfl <| f1K 1 rfl <| aR (fun Z hZ => sFA0 jH7 ?_)
 first | refine sL0 0 tyA25 tyS25 ?_
 refine sFA0 jL8 ?_
 first | refine sL0 0 tyA78 tyS78 ?_
 refine jB7 Tryz.underlying78 Tryz.underlying25 rfl ((e.len : Nat) : Int) (by rw [l6 _ (by omega)]) rfl ?_
 refine jZ5 ((e.next : Nat) : Int) (by rw [← Int.natCast_add, wT6]; rfl) ?_
 refine sAN hZ rfl rfl <| f1K 2 rfl <| aE <| nR10 rfl
theorem yL4 {a b : Nat} (ha : a < 18446744073709551616) (hb : b < 18446744073709551616) : IntKind.u64.wrap ((a : Int) - (b : Int)) = (((a + 18446744073709551616 - b) % 18446744073709551616 : Nat) : Int) := by
 have : IntKind.u64.wrap ((a : Int) - (b : Int)) = ((a : Int) - b) % 18446744073709551616 := by simp [IntKind.wrap, IntKind.bits, IntKind.signed]
 rw [this]
 omega
theorem vY9 (c i : Nat) (a e : En) (hc : c < 4) (hi : i ≤ 1000000) (ha : a.ok) (he : e.ok) : Fn Tryz.prog 107 [iq c, iq i, a.val, e.val] [] fun v _ => v = uq (numQ c i a e) := by
 have hao := ha
 have heo := he
 obtain ⟨a1, a2, a3, a4⟩ := ha
 obtain ⟨e1, e2, e3, e4⟩ := he
 have hn : a.next < 18446744073709551616 := by simp only [En.next]; omega
 refine Fn.enter (N := 42) Tryz.func107 rfl (by kernel_rfl) rfl (fun w0 => ?_)
 refine aR (fun Z hZ => jB5 (fun g1 => ?_))
 refine jB5 (fun g2 => ?_)
 refine sAN hZ rfl rfl <| f4K 0 1 6 7 rfl <| aS (aB <| aR fun Z hZ => sM rfl rfl <| jB0 ?_)
 refine sAN hZ rfl rfl <| f5K 0 1 6 7 9 rfl <| aC0 (fun h => ?_) (fun h => ?_)
 ·have h0 : c = 0 := by simp at h; omega
  rw [show numQ c i a e = (e.id + 18446744073709551616 - a.id) % 18446744073709551616 by unfold numQ; rw [if_pos h0]]
  refine aR (fun Z hZ => sFA0 jK0 ?_)
  refine sL0 0 tyA25 tyS25 ?_
  refine sFA0 jK0 ?_
  refine sL0 1 tyA25 tyS25 ?_
  refine jN3 rfl rfl _ (yL4 e1 a1) rfl <| sAN hZ rfl rfl <| f1K 8 rfl <| aE ?_
  repeat (with_reducible (first | refine nTR ?_ | refine nBR ?_))
  exact nR10 rfl
 have h0 : c ≠ 0 := by simp at h; omega
 refine aR fun Z hZ => sM rfl rfl <| jB0 ?_
 refine sAN hZ rfl rfl <| f5K 0 1 6 7 17 rfl <| aC0 (fun h1 => ?_) (fun h1 => ?_)
 ·have h1' : c = 1 := by simp at h1; omega
  rw [show numQ c i a e = e.run by unfold numQ; rw [if_neg h0, if_pos h1']]
  refine aR (fun Z hZ => sFA0 jN0 ?_)
  refine sL0 0 tyA78 tyS78 ?_
  refine jB7 Tryz.underlying78 Tryz.underlying25 rfl ((e.run : Nat) : Int) (by rw [l6 _ (by omega)]) rfl ?_
  refine sAN hZ rfl rfl <| f1K 8 rfl <| aE ?_
  repeat (with_reducible (first | refine nTR ?_ | refine nBR ?_))
  exact nR10 rfl
 have h1' : c ≠ 1 := by simp at h1; omega
 refine aR fun Z hZ => sM rfl rfl <| jB0 ?_
 refine sAN hZ rfl rfl <| f4K 1 6 7 23 rfl <| aC0 (fun h2 => ?_) (fun h2 => ?_)
 ·have h2' : c = 2 := by simp at h2; omega
  rw [show numQ c i a e = e.len by unfold numQ; rw [if_neg h0, if_neg h1', if_pos h2']]
  refine aR (fun Z hZ => sFA0 jL8 ?_)
  refine sL0 0 tyA78 tyS78 ?_
  refine jB7 Tryz.underlying78 Tryz.underlying25 rfl ((e.len : Nat) : Int) (by rw [l6 _ (by omega)]) rfl ?_
  refine sAN hZ rfl rfl <| f1K 8 rfl <| aE ?_
  repeat (with_reducible (first | refine nTR ?_ | refine nBR ?_))
  exact nR10 rfl
 have h2' : c ≠ 2 := by simp at h2; omega
 refine jE8 [(7, ptr g2 0), (29, .bool (decide (0 < i ∧ e.off = a.next)))] [.own g2 80 e.cells, .own g1 80 a.cells] mixed (by kernel_rfl) (fun Z hZ => ?_) ?_
 ·refine qM rfl rfl <| kQ7 rfl rfl rfl <| qM rfl rfl <| jL6 32 rfl (fun hb2 => ?_) (fun hb2 => ?_)
  ·refine jA4 ?_
   refine qFA0 jH7 ?_
   refine jA4 ?_
   refine jB6 0 tyA25 tyS25 ?_
   refine jA4 ?_
   refine jP6 1 rfl rfl tyA80 tyS80 rfl (by simp only [qS, Value.cells]; rfl) rfl ?_
   refine jA4 ?_
   refine jH4 (kK7 a hao) rfl rfl <| jA4 ?_
   refine jM6 rfl rfl rfl <| jE3 rfl rfl rfl <| jC8 rfl rfl <| jF0 (hZ _ _ ?_ ?_)
   ·exact Kn.cons rfl (Kn.cons (congrArg some (congrArg Value.bool (by simp at hb2; rw [lR]; simp; omega))) Kn.nil)
   ·exact HLe.refl _
  ·refine qO0 ?_
   refine qO0 ?_
   refine qO0 ?_
   refine qO0 ?_
   refine qO0 ?_
   refine jE3 rfl rfl rfl <| jC8 rfl rfl <| jF0 (hZ _ _ ?_ ?_)
   ·exact Kn.cons rfl (Kn.cons (congrArg some (congrArg Value.bool (by simp at hb2; rw [lR]; simp; omega))) Kn.nil)
   ·exact HLe.refl _
 refine aC0 (fun h3 => ?_) (fun h3 => ?_)
 ·have h3' : 0 < i ∧ e.off = a.next := by simpa using h3
  rw [show numQ c i a e = 0 by unfold numQ; rw [if_neg h0, if_neg h1', if_neg h2', if_pos h3']]
  refine aA rfl rfl <| f1K 8 rfl <| aE ?_
  repeat (with_reducible (first | refine nTR ?_ | refine nBR ?_))
  exact nR10 rfl
 have h3' : ¬ (0 < i ∧ e.off = a.next) := by simpa using h3
 rw [show numQ c i a e = (e.off + 1) % 18446744073709551616 by unfold numQ; rw [if_neg h0, if_neg h1', if_neg h2', if_neg h3']]
 refine aK ?_
 repeat refine nBN ?_
 refine nN <| aR (fun Z hZ => sFA0 jH7 ?_)
 refine sL0 0 tyA25 tyS25 ?_
 refine jZ5 (((e.off + 1) % 18446744073709551616 : Nat) : Int) (by rw [show (e.off : Int) + 1 = ((e.off + 1 : Nat) : Int) by omega, wT6]) ?_
 refine sAN hZ rfl rfl <| f1K 8 rfl <| aE <| nR10 rfl
end V
namespace V
open Go.RowKit
theorem vH8 {T K A : Heap} (h : Wrs T) : HLe T (A ++ (T.filter Ent.wr ++ K)) := by
 rw [h.filter]
 exact HLe.sub ((lS T K).trans (lP A _))
theorem kR5 (A : Option Addr) (n c : Nat) : Fn Tryz.prog 55 [.slice A n c] [] fun v H' => ∃ g, v = .func (.func 106) #[] #[ptr g 0] ∧ H' = [.own g 58 [.slice A n c]] := by
 refine Fn.enter (N := 4) Tryz.func55 rfl (by kernel_rfl) rfl (fun w0 => ?_)
 refine aR (fun Z hZ => jB5 (fun g1 => ?_))
 refine sAN hZ rfl rfl <| f1K 1 rfl <| aR (fun Z hZ => jH1 rfl rfl <| sAN hZ rfl rfl <| f1K 2 rfl <| aE <| nR10 ⟨g1, rfl, rfl⟩)
theorem kR4 (g : Nat) (A : Option Addr) (cp : Nat) (L : List En) (T : Heap) (hA : jH6 A L.length) (hT : 0 < L.length → T = roE A (jA1 L)) (hL : L.length ≤ 100000) (hE : jF4 L) :
  Iter Tryz.prog 106 [ptr g 0] (.ro g 0 [.slice A L.length cp] :: T) ((jF3 L).map fun x => [uq x]) := by
 intro l J Jr S hJ hS hJr hY T0 hT0
 have hlen : ((jF3 L).map fun x => [uq x]).length = 1 + 4 * L.length := by rw [zG, jO5]
 rw [hlen]
 have hitem : ∀ k x, (jF3 L)[k]? = some x → ((jF3 L).map fun x => [uq x])[k]? = some [uq x] := fun k x h => by rw [xR, h]; rfl
 refine Fn.enter (N := 34) Tryz.func106 rfl (by kernel_rfl) rfl (fun w0 => ?_)
 refine jA6 (.ro g 0 [.slice A L.length cp] :: (T ++ (T0 ++ Jr))) (HLe.refl _) <| aS <| jM2 (fun Z hZ => sy_x rfl <| sM rfl rfl <| sN <| sy_x rfl <| jB4 0 rfl rfl 0 rfl tyA58 tyS58 rfl rfl <| sN <| sy_x rfl ?_)
 refine jE2 Tryz.underlying58 rfl rfl <| sN <| sy_x rfl <| jB7 Tryz.underlying3 Tryz.underlying25 rfl ((L.length : Nat) : Int) (by rw [l6 _ (by omega)]) rfl ?_
 refine sN <| kB8 (.ro g 0 [.slice A L.length cp] :: T) T0 Jr Jr (hY 0 [uq L.length] T0 (hitem 0 _ rfl) hT0) rfl rfl rfl (xU _) hJr rfl ?_
 rintro v T1 ⟨b, rfl, hb1, hb2⟩
 refine sy_x rfl <| jI8 rfl rfl <| sN <| vB7 (hZ _ _ <| f3K 0 1 12 rfl <| aC0 (fun h => ?_) (fun h => ?_))
 ·have hb : b = false := by simpa using h
  refine aE ?_
  repeat refine nTR ?_
  exact jK3 T1 rfl (vH8 (A := _ :: T) (hS T1 (hb2 hb))) (.inr (hb2 hb))
 have hb : b = true := by simpa using h
 have hT1 := hb1 hb
 rw [(hJ _ T1 hT1).filter]
 refine aK <| nN <| aR fun Z hZ => sMN hZ rfl rfl <| f3K 0 1 13 rfl <| aB ?_
 refine jB9 (ι := Nat × Heap) (fun i => [(0, .func (.yield l) #[] #[]), (1, ptr g 0), (13, iq (i.1 : Nat))]) (fun i => .ro g 0 [.slice A L.length cp] :: (T ++ (i.2 ++ Jr)))
  (fun i => i.1 ≤ 4 ∧ J (1 + i.1 * L.length) i.2) (fun i => 4 - i.1) (0, T1) ⟨by simp, by simpa using hT1⟩ (kR rfl) (HLe.refl _) ?_
 rintro ⟨c, T2⟩ ⟨hc, hT2⟩
 simp only at hc hT2
 refine aR (fun Z hZ => jB2 ?_)
 refine sN (hZ _ _ <| f4K 0 1 13 14 rfl <| aS (aC0 (fun h => ?_) (fun h => ?_)))
 ·have hc4 : c < 4 := by simp at h; omega
  refine aK <| nN <| aS (aB <| aR fun Z hZ => sM rfl rfl <| sAN hZ rfl rfl <| f4K 0 1 3 13 rfl <| aR (fun Z hZ => sAl tyZ80 rfl (fun g1 => sN (hZ _ _ <| f5K 0 1 3 4 13 rfl <| aR (fun Z hZ => ?_)))))
  refine jB4 1 rfl rfl 0 rfl tyA58 tyS58 rfl rfl <| jE2 Tryz.underlying58 rfl rfl <| sMN hZ rfl rfl <| f8K 0 1 3 4 13 16 17 18 rfl <| aB ?_
  refine jB9 (ι := Nat × Heap) (fun i => [(0, .func (.yield l) #[] #[]), (1, ptr g 0), (3, iq (c : Nat)), (4, ptr g1 0), (13, iq (c : Nat)), (16, .slice A L.length cp), (17, iq (L.length : Nat)), (18, iq (i.1 : Nat))]) (fun i => .own g1 80 (jK6 L i.1).cells :: .ro g 0 [.slice A L.length cp] :: (T ++ (i.2 ++ Jr)))
   (fun i => i.1 ≤ L.length ∧ J (1 + c * L.length + i.1) i.2) (fun i => L.length - i.1) (0, T2) ⟨by simp, by simpa using hT2⟩ (kR rfl) (HLe.refl _) ?_
  rintro ⟨i, T3⟩ ⟨hi, hT3⟩
  simp only at hi hT3
  refine aR (fun Z hZ => jB2 ?_)
  refine sN (hZ _ _ <| f9K 0 1 3 4 13 16 17 18 19 rfl <| aS (aC0 (fun hh => ?_) (fun hh => ?_)))
  ·have hlt : i < L.length := by simpa using hh
   have hx := jW6 hlt
   have hxo := jW5 hE i
   have hpo := kX5 hE i
   obtain ⟨ga, o, rfl⟩ := hA (by omega)
   obtain rfl := hT (by omega)
   refine jA6 (.own g1 80 (jK6 L i).cells :: .ro g 0 [.slice (some ⟨ga, o, none⟩) L.length cp] :: .ro ga o (jA1 L) :: (T3 ++ Jr)) (HLe.refl _) <| aK <| nN <| aS (aB <| aR fun Z hZ => sM rfl rfl <| jB3 (o + i * 4) Tryz.underlying58 tyS80 rfl rfl (by omega) (by simp) rfl ?_)
   refine jB4 2 rfl rfl (i * 4) rfl tyA80 tyS80 (jG4 hx) rfl <| sAl tyZ80 rfl (fun g2 => sA rfl rfl <| sS0 0 tyS80 ?_)
   refine sN (hZ _ _ <| f10K 0 1 3 4 5 6 13 16 17 18 rfl <| aS <| jM2 (fun Z hZ => sy_x rfl <| sM rfl rfl <| sN <| sy_x rfl <| sM rfl rfl <| sN ?_))
   refine sy_x rfl <| sM rfl rfl <| sN <| sy_x rfl <| sLA0 1 tyA80 tyS80 ?_
   refine sN <| sy_x rfl <| sLA0 0 tyA80 tyS80 ?_
   refine sN <| sy_x rfl <| sCP0 (vY9 c i (jK6 L i) (atE L i) hc4 (by omega) hpo hxo) ?_
   refine sN <| kB8 [_, _, _, _] T3 Jr Jr (hY (1 + c * L.length + i) _ T3 (hitem _ _ (vR8 hc4 hlt)) hT3) rfl rfl rfl (xU _) hJr rfl ?_
   rintro v T4 ⟨b, rfl, hb1, hb2⟩
   refine sy_x rfl <| jI8 rfl rfl <| sN <| vB7 (hZ _ _ <| f10K 0 1 3 4 6 13 16 17 18 30 rfl <| aC0 (fun h3 => ?_) (fun h3 => ?_))
   ·have hb : b = false := by simpa using h3
    refine aE ?_
    repeat (with_reducible (first | refine nTR ?_ | refine nBR ?_))
    exact jK3 T4 rfl (vH8 (A := [_, _, _, _]) (hS T4 (hb2 hb))) (.inr (hb2 hb))
   have hb : b = true := by simpa using h3
   have hT4 := hb1 hb
   rw [(hJ _ T4 hT4).filter]
   refine aK <| nN <| aG (fun Z hZ => sLA0 0 tyA80 tyS80 ?_)
   refine sS0 1 tyS80 ?_
   refine sN (hZ _ _ <| nF [(0, _), (1, _), (3, _), (4, _), (13, _), (16, _), (17, _), (18, _)] (kR rfl) ?_)
   repeat refine nBN ?_
   refine nN ?_
   refine aG (fun Z hZ => ?_)
   refine jC2 rfl rfl ((i + 1 : Nat) : Int) (by rw [lT _ (by omega)]; omega) rfl ?_
   refine sMN hZ rfl rfl <| nF [(0, _), (1, _), (3, _), (4, _), (13, _), (16, _), (17, _), (18, _)] (kR rfl) <| jB8 (i + 1, T4) ⟨by show i + 1 ≤ _; omega, hT4⟩ (by simp; omega) (kR rfl) ?_
   simp only [kR1]
   exact HLe.drop 1 rfl
  ·refine jB1 ?_
   repeat refine nTE ?_
   refine nBE ?_
   repeat refine nBN ?_
   refine nN ?_
   have hie : i = L.length := by simp at hh; omega
   subst hie
   refine aG (fun Z hZ => ?_)
   refine jC2 rfl rfl ((c + 1 : Nat) : Int) (by rw [lT _ (by omega)]; omega) rfl ?_
   refine sMN hZ rfl rfl <| nF [(0, _), (1, _), (13, _)] (kR rfl) <| jB8 (c + 1, T3) ⟨by show c + 1 ≤ _; omega, ?_⟩ (by simp; omega) (kR rfl) (HLe.drop 1 rfl)
   rw [show 1 + (c + 1) * L.length = 1 + c * L.length + L.length by rw [Nat.add_mul]; omega]
   exact hT3
 ·have hc4 : c = 4 := by simp at h; omega
  subst hc4
  refine jB1 ?_
  repeat refine nTE ?_
  refine nBE <| jH5 T2 rfl (HLe.sub (((lS T2 Jr).trans (lP T _)).trans (x4 _ _))) (.inl hT2)
end V
namespace V
open Go.RowKit
theorem yU5 : ElemOk Tryz.prog 127 25 1 8 := ElemOk.mk_ (z := .int .u64 0) Tryz.underlying127 (by kernel_rfl) rfl (by omega)
theorem yL1 (l : List Nat) : (uqL l).length = l.length := by simp
def sumB (l : List Nat) : Nat := (allB l).length
theorem wD5 {xs : List Nat} {k : Nat} (h : k < xs.length) : sumB (xs.take (k + 1)) = sumB (xs.take k) + (vb xs[k]).length := by unfold sumB; rw [kO9 h]; simp
theorem wR1 (xs : List Nat) (k : Nat) : sumB (xs.take k) ≤ sumB xs := by
 have := congrArg (fun l => (allB l).length) (List.take_append_drop k xs)
 simp only [allB, zV, lX] at this
 unfold sumB allB
 omega
def jM8 (L : List En) : Nat := if rowC L = 0 then sumB (jF3 L) else 0
theorem kZ8 (A : Option Addr) (c : Nat) (L : List En) (T : Heap) (hA : jH6 A L.length) (hT : 0 < L.length → T = roE A (jA1 L)) (hro : Ro T) (hL : L.length ≤ 100000) (hE : jF4 L) :
  Fn Tryz.prog 52 [.slice A L.length c] T fun v _ => v = iq (jM8 L) := by
 have hmax : L.length ≤ maxLen := by show _ ≤ 9223372036854775807; omega
 have hnl := kD1 hE (by omega)
 have hall := jT8 hnl
 have hlen := jO5 L
 refine Fn.enterM (n := 16) Tryz.func52 rfl (by kernel_rfl) rfl (fun w0 => ?_)
 refine aA rfl rfl <| f1K 0 rfl <| aS <| aR fun Z hZ => sM rfl rfl <| jD1 T (kA6 A c L T hA hT hro hmax hE) rfl (xU _) hro rfl <| jC7 ?_
 refine sN (hZ _ _ <| f2K 0 7 rfl <| aC0 (fun h => ?_) (fun h => ?_))
 ·have h0 : rowC L ≠ 0 := by simp at h; omega
  rw [show jM8 L = 0 by unfold jM8; rw [if_neg h0]]
  refine aA rfl rfl <| f1K 2 rfl <| aE ?_
  repeat refine nTR ?_
  exact jJ5 [] trivial (nR10 rfl)
 have h0 : rowC L = 0 := by simp at h; omega
 rw [show jM8 L = sumB (jF3 L) by unfold jM8; rw [if_pos h0]]
 refine aK <| nN <| aR (fun Z hZ => sAl tyZ3 rfl (fun g1 => ?_))
 first | refine sS10 0 tyS3 ?_
 refine sN (hZ _ _ <| f2K 0 3 rfl <| aS <| aR fun Z hZ => sM rfl rfl <| jA5 [] (.own g1 3 [iq 0] :: T) (kR5 A L.length c) rfl (HLe.refl _) rfl ?_)
 rintro v H' ⟨g, rfl, rfl⟩
 refine jC3 (.own g1 3 [iq 0] :: .ro g 0 [.slice A L.length c] :: T) ((HLe.comm3 [_] [_] T).trans (HLe.toRo [] _)) <| sN (hZ _ _ <| f2K 3 9 rfl <| aB <| kE5 (fun k H => H = [.own g1 3 [iq (sumB ((jF3 L).take k))]]) [] (fun _ _ => False) _ (kR4 g A c L T hA hT hL hE) rfl (fun k H h => by subst h; exact .cons rfl .nil) (fun _ _ h => h.elim) Ro.nil (fun x hx => by rcases List.mem_cons.1 hx with rfl | hx; rfl; exact hro x hx) (fun k vs h => by rw [xR] at h; cases hk : (jF3 L)[k]? with | none => rw [hk] at h; cases h | some x => rw [hk] at h; obtain rfl := lV h; rfl) rfl rfl (by rw [lH]; exact HLe.refl _) rfl ?_ ?_ (fun _ _ _ h => h.elim))
 ·intro k vs H hk hH l w1
  subst hH
  rw [xR] at hk
  cases hkx : (jF3 L)[k]? with
  | none => rw [hkx] at hk; cases hk
  | some x =>
   rw [hkx] at hk
   obtain rfl := lV hk
   have hlt : k < (jF3 L).length := (List.getElem?_eq_some_iff.1 hkx).1
   have hxe : (jF3 L)[k] = x := (List.getElem?_eq_some_iff.1 hkx).2
   have hx : x < 18446744073709551616 := hnl x (xM hkx)
   have hs := wD5 hlt
   rw [hxe] at hs
   have hm := wR1 (jF3 L) (k + 1)
   unfold sumB at hm hs
   refine aG (fun Z hZ => sAN hZ rfl rfl <| nF [(3, _), (4, _)] (kR rfl) <| jV7 [] Wrs.nil (HLe.refl _) fun w2 => aB <| jA6 [.own g1 3 [iq (sumB ((jF3 L).take k))]] (HLe.refl _) <| vZ5 [0, 1, 2, 3] [4] mixed (by kernel_rfl) rfl rfl (fun Z hZ => ?_))
   first | refine jB6 0 tyA3 tyS3 ?_
   refine qM rfl rfl <| jH4 (wT4 x hx) rfl rfl <| vQ0 rfl rfl ((sumB ((jF3 L).take (k + 1)) : Nat) : Int) (by unfold sumB; rw [lT _ (by omega)]; omega) rfl ?_
   refine jF0 ?_
   first | refine sS10 0 tyS3 ?_
   refine sN (hZ _ _ <| nF [] (Kn.nil) <| nBN <| kA2 _ rfl (HLe.refl _))
 ·intro D H hH
  subst hH
  rw [zG, x6]
  refine nBN ?_
  with_reducible refine jN8 ?_
  refine jA6 (.ob D jL4 :: .own g1 3 [iq (sumB (jF3 L))] :: (.ro g 0 [.slice A L.length c] :: T)) (by rw [lH]; exact HLe.refl _) ?_
  refine aR (fun Z hZ => sL0 1 tyA3 tyS3 ?_)
  refine sAN hZ rfl rfl <| f1K 2 rfl <| aE <| jJ5 [0] ⟨rfl, trivial⟩ (nR10 rfl)
end V
namespace V
open Go.RowKit
def encQ (L : List En) : List UInt8 × Nat := if rowC L = 0 then (if 65536 < sumB (jF3 L) then ([], 5) else (allB (jF3 L), 0)) else ([], rowC L)
theorem vA6 (L : List En) : 0 < (allB (jF3 L)).length := by
 have := vB1 L.length
 simp only [allB, jF3, xX, lX]
 omega
theorem kS5 (A : Option Addr) (c : Nat) (L : List En) (T : Heap) (hA : jH6 A L.length) (hT : 0 < L.length → T = roE A (jA1 L)) (hro : Ro T) (hL : L.length ≤ 10000) (hE : jF4 L) :
  Fn Tryz.prog 23 [.slice A L.length c] T fun v _ => v = .tuple #[.string (str (encQ L).1), iq (encQ L).2] := by
 have hmax : L.length ≤ maxLen := by show _ ≤ 9223372036854775807; omega
 have hnl := kD1 hE (by omega)
 have hall := jT8 hnl
 have hlen := jO5 L
 refine Fn.enterM (n := 25) Tryz.func23 rfl (by kernel_rfl) rfl (fun w0 => ?_)
 refine aR fun Z hZ => sA rfl rfl <| sAN hZ rfl rfl <| f1K 0 rfl <| aS <| aR fun Z hZ => sM rfl rfl <| jD1 T (kA6 A c L T hA hT hro hmax hE) rfl (xU _) hro rfl <| sAN hZ rfl rfl <| f2K 0 4 rfl <| aR fun Z hZ => sM rfl rfl <| jC7 ?_
 refine sN (hZ _ _ <| f3K 0 4 10 rfl <| aC0 (fun h => ?_) (fun h => ?_))
 ·have h0 : rowC L ≠ 0 := by simp at h; omega
  rw [show encQ L = ([], rowC L) by unfold encQ; rw [if_neg h0]]
  refine aR fun Z hZ => sM rfl rfl <| sA rfl rfl <| sAN hZ rfl rfl <| f2K 2 3 rfl <| aE ?_
  repeat refine nTR ?_
  exact jJ5 [] trivial (jF8 rfl rfl rfl rfl)
 have h0 : rowC L = 0 := by simp at h; omega
 have hsz : jM8 L = sumB (jF3 L) := by unfold jM8; rw [if_pos h0]
 refine aK <| nN <| aS <| aR fun Z hZ => sM rfl rfl <| jD1 T (kZ8 A c L T hA hT hro (by omega) hE) rfl (xU _) hro rfl ?_
 refine jC4 ?_
 refine sN (hZ _ _ <| f2K 0 14 rfl ?_)
 rw [hsz]
 refine aC0 (fun h1 => ?_) (fun h1 => ?_)
 ·have h1' : 65536 < sumB (jF3 L) := by simp at h1; omega
  rw [show encQ L = ([], 5) by unfold encQ; rw [if_pos h0, if_pos h1']]
  refine aR fun Z hZ => sA rfl rfl <| sAN hZ rfl rfl <| f2K 2 3 rfl <| aE ?_
  repeat refine nTR ?_
  exact jJ5 [] trivial (jF8 rfl rfl rfl rfl)
 have h1' : ¬ 65536 < sumB (jF3 L) := by simp at h1; omega
 rw [show encQ L = (allB (jF3 L), 0) by unfold encQ; rw [if_pos h0, if_neg h1']]
 refine aK <| nN <| aR (fun Z hZ => sAl tyZ127 rfl (fun g1 => sN (hZ _ _ <| f2K 0 5 rfl <| aS <| aR fun Z hZ => sM rfl rfl <| jA5 [] (.own g1 127 [.slice none 0 0] :: T) (kR5 A L.length c) rfl (HLe.refl _) rfl ?_)))
 rintro v H' ⟨g, rfl, rfl⟩
 refine jC3 (.own g1 127 [.slice none 0 0] :: .ro g 0 [.slice A L.length c] :: T) ((HLe.comm3 [_] [_] T).trans (HLe.toRo [] _)) <| sN (hZ _ _ <| f2K 5 16 rfl <| aB <| kE5 (fun k H => ∃ v, RowOk v k ∧ H = .own g1 127 [v] :: rowE v 25 1 (uqL ((jF3 L).take k))) [] (fun _ _ => False) [.own g1 127 [.slice none 0 0]] (kR4 g A c L T hA hT (by omega) hE) rfl (fun k H ⟨v, _, h⟩ => by subst h; exact .cons rfl (jI9 _ _ _ _)) (fun _ _ h => h.elim) Ro.nil (fun x hx => by rcases List.mem_cons.1 hx with rfl | hx; rfl; exact hro x hx) (fun k vs h => by rw [xR] at h; cases hk : (jF3 L)[k]? with | none => rw [hk] at h; cases h | some x => rw [hk] at h; obtain rfl := lV h; rfl) rfl ⟨_, RowOk.nil, rfl⟩ (by rw [lH]; exact HLe.refl _) rfl ?_ ?_ (fun _ _ _ h => h.elim))
 ·rintro k vs H hk ⟨v, hv, rfl⟩ l w1
  rw [xR] at hk
  cases hkx : (jF3 L)[k]? with
  | none => rw [hkx] at hk; cases hk
  | some x =>
   rw [hkx] at hk
   obtain rfl := lV hk
   have hlt : k < (jF3 L).length := (List.getElem?_eq_some_iff.1 hkx).1
   have htk : uqL ((jF3 L).take (k + 1)) = uqL ((jF3 L).take k) ++ [uq x] := by
    rw [qB hlt, (List.getElem?_eq_some_iff.1 hkx).2]; simp
   refine aG (fun Z hZ => sAN hZ rfl rfl <| nF [(5, _), (6, _)] (kR rfl) <| jV7 [] Wrs.nil (HLe.refl _) fun w2 => aB <| jA6 (.own g1 127 [v] :: rowE v 25 1 (uqL ((jF3 L).take k))) (by rw [lH]; exact HLe.refl _) ?_)
   refine aG (fun Z hZ => ?_)
   first | refine sL0 0 tyA127 tyS127 ?_
   refine sM rfl rfl <| sBS0 Tryz.underlying127 tyS25 tyZ25 (fun g2 => ?_)
   refine jC9 [_, _] yU5 rfl hv (by rw [yL1, xS, uP (by omega)]; omega) rfl (fun w hw => jJ3 (i := 0) (xs := [uq x]) rfl rfl hw) rfl (by show _ ≤ 9223372036854775807; omega) (by omega) (HLe.refl _) rfl (fun v2 hv2 => ?_)
   obtain ⟨g4, c4, rfl⟩ := hv2.some (by omega)
   refine sS10 1 tyS127 ?_
   refine sN (hZ _ _ <| nF [] (Kn.nil) <| nBN <| kA2 _ ⟨.slice (some ⟨g4, 0, none⟩) (k + 1) c4, RowOk.mk _ _ _, rfl⟩ (by rw [htk]; exact HLe.drop 1 rfl))
 ·rintro D H ⟨v, hv, rfl⟩
  rw [zG] at hv ⊢
  rw [x6]
  obtain ⟨gv, cv, rfl⟩ := hv.some (by omega)
  refine nBN ?_
  with_reducible refine jN8 ?_
  refine jA6 (.ob D jL4 :: .own g1 127 [.slice (some ⟨gv, 0, none⟩) (jF3 L).length cv] :: .ob gv (RowP 25 1 (jF3 L).length cv (uqL (jF3 L))) :: .ro g 0 [.slice A L.length c] :: T) (by rw [lH]; exact HLe.refl _) ?_
  refine aR (fun Z hZ => sL0 1 tyA127 tyS127 ?_)
  refine jA5 [_] (.ob D jL4 :: .own g1 127 [.slice (some ⟨gv, 0, none⟩) (jF3 L).length cv] :: .ro g 0 [.slice A L.length c] :: T) (zG4 gv cv (jF3 L) hnl (by omega)) rfl (HLe.comm3 [_, _] [_] _) rfl ?_
  rintro u H' ⟨hu, rfl⟩
  rw [jF1]
  obtain ⟨gu, cu, rfl⟩ := hu.some (vA6 L)
  refine kM3 (l := allB (jF3 L)) Tryz.underlying44 Tryz.underlying5 Tryz.underlying9 rfl (fun w hw => jV4 (i := 0) rfl hw) rfl <| sA rfl rfl <| sAN hZ rfl rfl <| f2K 2 3 rfl <| aE <| jJ5 [1] ⟨rfl, trivial⟩ (jF8 rfl rfl rfl rfl)
end V
namespace V
open Go.RowKit
theorem zC8 (i : Nat) (a e : En) : numQ 0 i a e = (e.id + 18446744073709551616 - a.id) % 18446744073709551616 := by unfold numQ; rw [if_pos rfl]
theorem zC7 (i : Nat) (a e : En) : numQ 1 i a e = e.run := by unfold numQ; rw [if_neg (by decide), if_pos rfl]
theorem zC6 (i : Nat) (a e : En) : numQ 2 i a e = e.len := by unfold numQ; rw [if_neg (by decide), if_neg (by decide), if_pos rfl]
theorem zC5 (i : Nat) (a e : En) : numQ 3 i a e = if 0 < i ∧ e.off = a.next then 0 else (e.off + 1) % 18446744073709551616 := by unfold numQ; rw [if_neg (by decide), if_neg (by decide), if_neg (by decide)]
def errQ (c i : Nat) (a : En) (x : Nat) : Nat :=
 if c = 0 then (if (a.id + x) % 18446744073709551616 < x then 11 else 0)
 else if c = 1 ∨ c = 2 then (if 4294967296 ≤ x then 11 else 0)
 else if i = 0 ∧ x = 0 ∨ 0 < i ∧ 0 < x ∧ x - 1 = a.next then 4 else 0
def putQ (c : Nat) (a e : En) (x : Nat) : En :=
 if c = 0 then { e with id := (a.id + x) % 18446744073709551616 }
 else if c = 1 then { e with run := x % 4294967296 }
 else if c = 2 then { e with len := x % 4294967296 }
 else { e with off := if x = 0 then a.next else x - 1 }
theorem wJ0 (e : En) : e.next < 18446744073709551616 := by simp only [En.next]; omega
theorem wG8 {c x : Nat} {a e : En} (he : e.ok) (hx : x < 18446744073709551616) : (putQ c a e x).ok := by
 obtain ⟨h1, h2, h3, h4⟩ := he
 have := wJ0 a
 unfold putQ
 split
 ·exact ⟨by show _ % _ < _; omega, h2, h3, h4⟩
 split
 ·exact ⟨h1, h2, h3, by show _ % _ < _; omega⟩
 split
 ·exact ⟨h1, h2, by show _ % _ < _; omega, h4⟩
 ·exact ⟨h1, by show (if x = 0 then a.next else x - 1) < _; split <;> omega, h3, h4⟩
theorem zB0 {M : List En} {k : Nat} {e : En} (h : M[k]? = some e) (y : Nat) : (jA1 M).set (k * 4) (uq y) = jA1 (M.set k { e with id := y }) := kS1 (x := e) (y := { e with id := y }) (j := 0) jW3 rfl (by omega) h
theorem wE6 {M : List En} {k : Nat} {e : En} (h : M[k]? = some e) (y : Nat) : (jA1 M).set (k * 4 + 1) (uq y) = jA1 (M.set k { e with off := y }) := kS1 (x := e) (y := { e with off := y }) (j := 1) jW3 rfl (by omega) h
theorem yN9 {M : List En} {k : Nat} {e : En} (h : M[k]? = some e) (y : Nat) : (jA1 M).set (k * 4 + 2) (wq4 y) = jA1 (M.set k { e with len := y }) := kS1 (x := e) (y := { e with len := y }) (j := 2) jW3 rfl (by omega) h
theorem yN8 {M : List En} {k : Nat} {e : En} (h : M[k]? = some e) (y : Nat) : (jA1 M).set (k * 4 + 3) (wq4 y) = jA1 (M.set k { e with run := y }) := kS1 (x := e) (y := { e with run := y }) (j := 3) jW3 rfl (by omega) h
theorem wG0 {M : List En} {k : Nat} {e : En} (h : M[k]? = some e) : rdV false 1 (jA1 M) (k * 4) = some (uq e.id) := by have := vF5 (j := 0) jW3 h rfl; simpa using this
theorem yH0 {M : List En} {k : Nat} {e : En} (h : M[k]? = some e) : rdV false 1 (jA1 M) (k * 4 + 1) = some (uq e.off) := vF5 (j := 1) jW3 h rfl
theorem wQ8 {M : List En} {k : Nat} {e y : En} (h : M[k]? = some e) : (M.set k y)[k]? = some y := by
 have := (List.getElem?_eq_some_iff.1 h).1
 simp [this]
theorem jS3 {M : List En} {k : Nat} {e : En} (h : M[k]? = some e) {j : Nat} (hj : j < 4) : Nat.ble (k * 4 + j + 1) (jA1 M).length = true := by
 have := (List.getElem?_eq_some_iff.1 h).1
 rw [jG6]
 exact zF9 (by omega)
theorem zG8 {x : Nat} (h : x < 18446744073709551616) : IntKind.u64.wrap ((x : Int) - 1) = ((if x = 0 then 18446744073709551615 else x - 1 : Nat) : Int) := by
 have : IntKind.u64.wrap ((x : Int) - 1) = ((x : Int) - 1) % 18446744073709551616 := by simp [IntKind.wrap, IntKind.bits, IntKind.signed]
 rw [this]
 split <;> omega
theorem yL5 (x : Nat) : IntKind.u32.wrap (x : Int) = ((x % 4294967296 : Nat) : Int) := by simp [IntKind.wrap, IntKind.bits, IntKind.signed]
theorem yV0 (c i k g : Nat) (a e : En) (x : Nat) (M : List En) (hc : c < 4) (hi : i ≤ 1000000) (ha : a.ok) (hx : x < 18446744073709551616) (he : M[k]? = some e) :
  Fn Tryz.prog 123 [iq c, iq i, a.val, ptr g (k * 4), uq x] [.own g 80 (jA1 M)] fun v H' => v = iq (errQ c i a x) ∧ ∃ M' : List En, H' = [.own g 80 (jA1 M')] ∧ (errQ c i a x = 0 → M' = M.set k (putQ c a e x)) := by
 have hao := ha
 obtain ⟨a1, a2, a3, a4⟩ := ha
 have hn := wJ0 a
 refine Fn.enter (N := 79) Tryz.func123 rfl (by kernel_rfl) rfl (fun w0 => ?_)
 refine aR (fun Z hZ => jB5 (fun g1 => ?_))
 refine sAN hZ rfl rfl <| f5K 0 1 3 4 7 rfl <| aS <| aR fun Z hZ => sMN hZ rfl rfl <| f6K 0 1 3 4 7 11 rfl <| vA4 (ι := Unit) (fun _ => []) (fun _ => [.own g 80 (jA1 (M.set k (putQ c a e x)))]) (fun _ => errQ c i a x = 0) ?_ ?_
 ·refine aB <| aR (fun Z hZ => jB0 ?_)
  refine sAN hZ rfl rfl <| f7K 0 1 3 4 7 11 47 rfl <| aC0 (fun h => ?_) (fun h => ?_)
  ·have h0 : c = 0 := by simp at h; omega
   refine aR fun Z hZ => sM rfl rfl <| sFA0 jK0 ?_
   refine sL0 0 tyA25 tyS25 ?_
   refine sM rfl rfl <| jZ5 (((a.id + x) % 18446744073709551616 : Nat) : Int) (by rw [← Int.natCast_add, wT6]) ?_
   refine jA0 ?_
   refine sFA0 jK0 ?_
   refine sS1 1 rfl rfl rfl tyS25 rfl (jS3 he (j := 0) (by omega)) (zB0 he _) rfl ?_
   refine sN (hZ _ _ <| f2K 3 4 rfl <| aR fun Z hZ => sM rfl rfl <| jA0 ?_)
   refine sFA0 jK0 ?_
   refine sL 1 rfl rfl tyA25 tyS25 (wG0 (wQ8 he)) rfl <| sM rfl rfl <| jB2 ?_
   refine sN (hZ _ _ <| f1K 61 rfl <| aC0 (fun h1 => ?_) (fun h1 => ?_))
   ·have h1' : (a.id + x) % 18446744073709551616 < x := by simp at h1; omega
    have hee : errQ c i a x = 11 := by unfold errQ; rw [if_pos h0, if_pos h1']
    rw [hee]
    refine aA rfl rfl <| f1K 10 rfl <| aE ?_
    repeat (with_reducible (first | refine nTR ?_ | refine nBR ?_))
    exact jC1 _ rfl rfl (HLe.pick [1] (by simp) rfl) ⟨rfl, _, rfl, fun h => by cases h⟩
   ·have h1' : ¬ (a.id + x) % 18446744073709551616 < x := by simp at h1; omega
    refine aK ?_
    repeat refine nBN ?_
    refine jE4 () (by unfold errQ; rw [if_pos h0, if_neg h1']) Kn.nil ?_
    rw [show putQ c a e x = { e with id := (a.id + x) % 18446744073709551616 } by unfold putQ; rw [if_pos h0]]
    exact HLe.pick [1] (by simp) rfl
  have h0 : c ≠ 0 := by simp at h; omega
  refine jJ7 (ι := Unit) (fun _ => [(0, iq c), (1, iq i), (3, ptr g (k * 4)), (4, uq x), (7, ptr g1 0), (62, .bool (decide (c = 1 ∨ c = 2)))]) (fun _ => [.own g1 80 a.cells, .own g 80 (jA1 M)]) (fun _ => True) ?_ ?_
  ·refine aR (fun Z hZ => jB0 ?_)
   refine sAN hZ rfl rfl <| f7K 0 1 3 4 7 11 62 rfl <| aC0 (fun h1 => ?_) (fun h1 => ?_)
   ·have h1' : c = 1 := by simp at h1; omega
    refine aK <| jE4 () trivial (Kn.cons rfl (Kn.cons rfl (Kn.cons rfl (Kn.cons rfl (Kn.cons rfl (Kn.cons (congrArg some (congrArg Value.bool (by rw [lR]; simp; omega))) Kn.nil)))))) (HLe.refl _)
   ·have h1' : c ≠ 1 := by simp at h1; omega
    refine aG (fun Z hZ => jB0 ?_)
    refine sAN hZ rfl rfl <| nF [(0, _), (1, _), (3, _), (4, _), (7, _), (62, _)] (kR rfl) <| jE4 () trivial (Kn.cons rfl (Kn.cons rfl (Kn.cons rfl (Kn.cons rfl (Kn.cons rfl (Kn.cons (congrArg some (congrArg Value.bool (by rw [lR]; simp; omega))) Kn.nil)))))) (HLe.refl _)
  rintro ⟨⟩ -
  refine aC0 (fun h2 => ?_) (fun h2 => ?_)
  ·have h2' : c = 1 ∨ c = 2 := by simpa using h2
   refine aS <| aR fun Z hZ => sM rfl rfl <| jO3 rfl rfl rfl <| sN (hZ _ _ <| f4K 0 3 4 66 rfl <| aC0 (fun h3 => ?_) (fun h3 => ?_))
   ·have h3' : 4294967296 ≤ x := by simp at h3; omega
    have hee : errQ c i a x = 11 := by unfold errQ; rw [if_neg h0, if_pos h2', if_pos h3']
    rw [hee]
    refine aA rfl rfl <| f1K 10 rfl <| aE ?_
    repeat (with_reducible (first | refine nTR ?_ | refine nBR ?_))
    exact jC1 _ rfl rfl (HLe.pick [1] (by simp) rfl) ⟨rfl, _, rfl, fun h => by cases h⟩
   have h3' : ¬ 4294967296 ≤ x := by simp at h3; omega
   have hee : errQ c i a x = 0 := by unfold errQ; rw [if_neg h0, if_pos h2', if_neg h3']
   refine aK <| nN <| aR fun Z hZ => sM rfl rfl <| jB0 ?_
   refine sN (hZ _ _ <| f3K 3 4 68 rfl <| aC0 (fun h4 => ?_) (fun h4 => ?_))
   ·have h4' : c = 1 := by simp at h4; omega
    refine aG (fun Z hZ => sM rfl rfl <| sM rfl rfl <| jB7 Tryz.underlying25 Tryz.underlying78 rfl ((x % 4294967296 : Nat) : Int) (yL5 x) rfl <| jA0 ?_)
    refine sFA0 jN0 ?_
    refine sS1 1 rfl rfl rfl tyS78 rfl (jS3 he (j := 3) (by omega)) (yN8 he _) rfl ?_
    refine sN (hZ _ _ <| nF [] (Kn.nil) ?_)
    repeat refine nBN ?_
    refine jE4 () hee Kn.nil ?_
    rw [show putQ c a e x = { e with run := x % 4294967296 } by unfold putQ; rw [if_neg h0, if_pos h4']]
    exact HLe.pick [1] (by simp) rfl
   ·have h4' : c ≠ 1 := by simp at h4; omega
    refine aG (fun Z hZ => sM rfl rfl <| sM rfl rfl <| jB7 Tryz.underlying25 Tryz.underlying78 rfl ((x % 4294967296 : Nat) : Int) (yL5 x) rfl <| jA0 ?_)
    refine sFA0 jL8 ?_
    refine sS1 1 rfl rfl rfl tyS78 rfl (jS3 he (j := 2) (by omega)) (yN9 he _) rfl ?_
    refine sN (hZ _ _ <| nF [] (Kn.nil) ?_)
    repeat refine nBN ?_
    refine jE4 () hee Kn.nil ?_
    rw [show putQ c a e x = { e with len := x % 4294967296 } by unfold putQ; rw [if_neg h0, if_neg h4', if_pos (by omega)]]
    exact HLe.pick [1] (by simp) rfl
  have h2' : ¬ (c = 1 ∨ c = 2) := by simpa using h2
  have hput : putQ c a e x = { e with off := if x = 0 then a.next else x - 1 } := by unfold putQ; rw [if_neg h0, if_neg (by omega), if_neg (by omega)]
  obtain ⟨z, hz⟩ := xZ9 ((if x = 0 then 18446744073709551615 else x - 1))
  have hzx : x = 0 ∨ z + 1 = x := by rw [← hz]; split <;> omega
  have e1 : (M.set k { e with off := z })[k]? = some { e with off := z } := wQ8 he
  refine aR fun Z hZ => sM rfl rfl <| sM rfl rfl <| jN3 rfl rfl ((z : Nat) : Int) (by rw [zG8 hx, hz]) rfl ?_
  refine jA0 ?_
  refine sFA0 jH7 ?_
  refine sS1 1 rfl rfl rfl tyS25 rfl (jS3 he (j := 1) (by omega)) (wE6 he _) rfl ?_
  refine sN (hZ _ _ <| f4K 1 3 4 7 rfl ?_)
  clear hz
  refine aS <| jE8 [(3, ptr g (k * 4)), (4, uq x), (7, ptr g1 0), (39, .bool (decide (i = 0 ∧ x = 0 ∨ 0 < i ∧ 0 < x ∧ x - 1 = a.next)))] [.own g1 80 a.cells, .own g 80 (jA1 (M.set k { e with off := z }))] mixed (by kernel_rfl) (fun Z hZ => ?_) ?_
  ·refine qM rfl rfl <| jM6 rfl rfl rfl <| qM rfl rfl <| jL6 19 rfl (fun hb2 => ?_) (fun hb2 => ?_)
   ·refine jA4 ?_
    refine qM rfl rfl <| jA4 ?_
    refine jM6 rfl rfl rfl <| jE3 rfl rfl rfl <| qM rfl rfl <| jL6 23 rfl (fun hb6 => ?_) (fun hb6 => ?_)
    ·refine qO0 ?_
     refine qO0 ?_
     refine qO0 ?_
     refine jS9 rfl rfl rfl rfl <| jS9 rfl rfl rfl rfl <| qO0 ?_
     refine qO0 ?_
     refine jS9 rfl rfl rfl rfl <| jS9 rfl rfl rfl rfl <| jS9 rfl rfl rfl rfl <| jS9 rfl rfl rfl rfl <| jS9 rfl rfl rfl rfl <| jS9 rfl rfl rfl rfl <| jS9 rfl rfl rfl rfl <| qO0 ?_
     refine jE3 rfl rfl rfl <| jF0 (hZ _ _ ?_ ?_)
     ·exact Kn.cons rfl (Kn.cons rfl (Kn.cons rfl (Kn.cons (congrArg some (congrArg Value.bool (by first | (simp at *; done) | (simp at *; omega) | (simp at *; rw [lR]; simp; omega)))) Kn.nil)))
     ·exact HLe.refl _
    ·refine jA4 ?_
     refine qM rfl rfl <| jA4 ?_
     refine kQ7 rfl rfl rfl <| jA4 ?_
     refine qM rfl rfl <| jL6 26 rfl (fun hb9 => ?_) (fun hb9 => ?_)
     ·refine jA4 ?_
      refine qM rfl rfl <| jA4 ?_
      refine kQ7 rfl rfl rfl <| jA4 ?_
      refine jE3 rfl rfl rfl <| jA4 ?_
      refine qM rfl rfl <| jL6 30 rfl (fun hb13 => ?_) (fun hb13 => ?_)
      ·refine jA4 ?_
       refine qM rfl rfl <| jA4 ?_
       refine jA9 rfl rfl <| jA4 ?_
       refine qFA0 jH7 ?_
       refine jA4 ?_
       refine kW5 1 rfl rfl tyA25 tyS25 (yH0 e1) rfl <| jA4 ?_
       refine jP6 0 rfl rfl tyA80 tyS80 rfl (by simp only [qS]; rfl) rfl ?_
       refine jA4 ?_
       refine jH4 (kK7 a hao) rfl rfl <| jA4 ?_
       refine jM6 rfl rfl rfl <| jA4 ?_
       refine jE3 rfl rfl rfl <| jE3 rfl rfl rfl <| jF0 (hZ _ _ ?_ ?_)
       ·exact Kn.cons rfl (Kn.cons rfl (Kn.cons rfl (Kn.cons (congrArg some (congrArg Value.bool (by first | (simp at *; done) | (simp at *; omega) | (simp at *; rw [lR]; simp; omega)))) Kn.nil)))
       ·exact HLe.refl _
      ·refine qO0 ?_
       refine qO0 ?_
       refine qO0 ?_
       refine qO0 ?_
       refine qO0 ?_
       refine qO0 ?_
       refine qO0 ?_
       refine jA4 ?_
       refine jE3 rfl rfl rfl <| jE3 rfl rfl rfl <| jF0 (hZ _ _ ?_ ?_)
       ·exact Kn.cons rfl (Kn.cons rfl (Kn.cons rfl (Kn.cons (congrArg some (congrArg Value.bool (by first | (simp at *; done) | (simp at *; omega) | (simp at *; rw [lR]; simp; omega)))) Kn.nil)))
       ·exact HLe.refl _
     ·refine qO0 ?_
      refine qO0 ?_
      refine jA4 ?_
      refine jE3 rfl rfl rfl <| jA4 ?_
      refine qM rfl rfl <| qO0 ?_
      refine qO0 ?_
      refine qO0 ?_
      refine qO0 ?_
      refine qO0 ?_
      refine qO0 ?_
      refine qO0 ?_
      refine jA4 ?_
      refine jE3 rfl rfl rfl <| jE3 rfl rfl rfl <| jF0 (hZ _ _ ?_ ?_)
      ·exact Kn.cons rfl (Kn.cons rfl (Kn.cons rfl (Kn.cons (congrArg some (congrArg Value.bool (by first | (simp at *; done) | (simp at *; omega) | (simp at *; rw [lR]; simp; omega)))) Kn.nil)))
      ·exact HLe.refl _
   ·refine qO0 ?_
    refine qO0 ?_
    refine jE3 rfl rfl rfl <| qM rfl rfl <| jA4 ?_
    refine qM rfl rfl <| jA4 ?_
    refine kQ7 rfl rfl rfl <| jA4 ?_
    refine qM rfl rfl <| jL6 26 rfl (fun hb9 => ?_) (fun hb9 => ?_)
    ·refine jA4 ?_
     refine qM rfl rfl <| jA4 ?_
     refine kQ7 rfl rfl rfl <| jA4 ?_
     refine jE3 rfl rfl rfl <| jA4 ?_
     refine qM rfl rfl <| jL6 30 rfl (fun hb13 => ?_) (fun hb13 => ?_)
     ·refine jA4 ?_
      refine qM rfl rfl <| jA4 ?_
      refine jA9 rfl rfl <| jA4 ?_
      refine qFA0 jH7 ?_
      refine jA4 ?_
      refine kW5 1 rfl rfl tyA25 tyS25 (yH0 e1) rfl <| jA4 ?_
      refine jP6 0 rfl rfl tyA80 tyS80 (by simp only [qS, Nat.reduceAdd]; rfl) (by simp only [qS]; rfl) rfl ?_
      refine jA4 ?_
      refine jH4 (kK7 a hao) rfl rfl <| jA4 ?_
      refine jM6 rfl rfl rfl <| jA4 ?_
      refine jE3 rfl rfl rfl <| jE3 rfl rfl rfl <| jF0 (hZ _ _ ?_ ?_)
      ·exact Kn.cons rfl (Kn.cons rfl (Kn.cons rfl (Kn.cons (congrArg some (congrArg Value.bool (by first | (simp at *; done) | (simp at *; omega) | (simp at *; rw [lR]; simp; omega)))) Kn.nil)))
      ·exact HLe.refl _
     ·refine qO0 ?_
      refine qO0 ?_
      refine qO0 ?_
      refine qO0 ?_
      refine qO0 ?_
      refine qO0 ?_
      refine qO0 ?_
      refine jA4 ?_
      refine jE3 rfl rfl rfl <| jE3 rfl rfl rfl <| jF0 (hZ _ _ ?_ ?_)
      ·exact Kn.cons rfl (Kn.cons rfl (Kn.cons rfl (Kn.cons (congrArg some (congrArg Value.bool (by first | (simp at *; done) | (simp at *; omega) | (simp at *; rw [lR]; simp; omega)))) Kn.nil)))
      ·exact HLe.refl _
    ·refine qO0 ?_
     refine qO0 ?_
     refine jA4 ?_
     refine jE3 rfl rfl rfl <| jA4 ?_
     refine qM rfl rfl <| qO0 ?_
     refine qO0 ?_
     refine qO0 ?_
     refine qO0 ?_
     refine qO0 ?_
     refine qO0 ?_
     refine qO0 ?_
     refine jA4 ?_
     refine jE3 rfl rfl rfl <| jE3 rfl rfl rfl <| jF0 (hZ _ _ ?_ ?_)
     ·exact Kn.cons rfl (Kn.cons rfl (Kn.cons rfl (Kn.cons (congrArg some (congrArg Value.bool (by first | (simp at *; done) | (simp at *; omega) | (simp at *; rw [lR]; simp; omega)))) Kn.nil)))
     ·exact HLe.refl _
  refine aC0 (fun h3 => ?_) (fun h3 => ?_)
  ·have h3' : i = 0 ∧ x = 0 ∨ 0 < i ∧ 0 < x ∧ x - 1 = a.next := by simpa using h3
   have hee : errQ c i a x = 4 := by unfold errQ; rw [if_neg h0, if_neg h2', if_pos h3']
   rw [hee]
   refine aA rfl rfl <| f1K 10 rfl <| aE ?_
   repeat (with_reducible (first | refine nTR ?_ | refine nBR ?_))
   exact jC1 _ rfl rfl (HLe.pick [1] (by simp) rfl) ⟨rfl, _, rfl, fun h => by cases h⟩
  have h3' : ¬ (i = 0 ∧ x = 0 ∨ 0 < i ∧ 0 < x ∧ x - 1 = a.next) := by simpa using h3
  have hee : errQ c i a x = 0 := by unfold errQ; rw [if_neg h0, if_neg h2', if_neg h3']
  rw [hput]
  refine aK <| nN <| aR fun Z hZ => sM rfl rfl <| jB0 ?_
  refine sN (hZ _ _ <| f3K 3 7 41 rfl <| aC0 (fun h4 => ?_) (fun h4 => ?_))
  ·have h4' : x = 0 := by simp at h4; omega
   rw [if_pos h4']
   refine aG (fun Z hZ => sM rfl rfl <| sLA0 0 tyA80 tyS80 ?_)
   refine sCP0 (kK7 a hao) ?_
   refine jA0 ?_
   refine sFA0 jH7 ?_
   refine sS1 1 rfl rfl rfl tyS25 rfl (jS3 e1 (j := 1) (by omega)) (wE6 e1 _) rfl ?_
   refine sN (hZ _ _ <| nF [] (Kn.nil) ?_)
   repeat refine nBN ?_
   refine jE4 () hee Kn.nil ?_
   rw [List.set_set]
   exact HLe.pick [1] (by simp) rfl
  ·have h4' : x ≠ 0 := by simp at h4; omega
   rw [if_neg h4', show x - 1 = z by omega]
   refine aK ?_
   repeat refine nBN ?_
   exact jE4 () hee Kn.nil (HLe.pick [1] (by simp) rfl)
 ·rintro ⟨⟩ hee
  refine nN ?_
  rw [hee]
  refine aA rfl rfl <| f1K 10 rfl <| aE <| jC1 _ rfl rfl (HLe.refl _) ⟨rfl, _, rfl, fun _ => rfl⟩
end V
namespace V
open Go.RowKit
end V
namespace V
open Go.RowKit
def decG (s : List UInt8) : Nat → Nat → List En → Nat → List En × Nat × Nat
 | 0, _, L, p => if p < s.length then ([], p, 4) else if rowC L ≠ 0 then ([], s.length, rowC L) else (L, s.length, 0)
 | k + 1, j, L, p =>
  if (getQ s p).2.2 ≠ 0 then ([], p, (getQ s p).2.2)
  else if errQ (j / L.length) (j % L.length) (jK6 L (j % L.length)) (getQ s p).1 ≠ 0 then ([], p, errQ (j / L.length) (j % L.length) (jK6 L (j % L.length)) (getQ s p).1)
  else decG s k (j + 1) (L.set (j % L.length) (putQ (j / L.length) (jK6 L (j % L.length)) (atE L (j % L.length)) (getQ s p).1)) (getQ s p).2.1
def decQ (s : List UInt8) : List En × Nat × Nat :=
 if 65536 < s.length then ([], 0, 5) else if (getQ s 0).2.2 ≠ 0 then ([], 0, (getQ s 0).2.2)
 else if 4096 < (getQ s 0).1 then ([], 0, 21) else decG s (4 * (getQ s 0).1) 0 (List.replicate (getQ s 0).1 zeroEn) (getQ s 0).2.1
theorem jX9 (s : List UInt8) (p : Nat) (hp : p ≤ s.length) : (getQ s p).1 < 18446744073709551616 ∧ (getQ s p).2.1 ≤ s.length ∧ (getQ s p).2.2 ≤ 11 := by
 unfold getQ
 have hl : (s.drop p).length = s.length - p := xY
 by_cases h : (jE1 (s.drop p)).1 = 0
 ·rw [if_pos h]
  obtain ⟨h1, h2, h3, h4⟩ := wS9 h
  refine ⟨?_, ?_, by show 0 ≤ 11; omega⟩
  ·show valL _ < _
   rw [h1]
   have := kU2 (t := s.drop p) (k := cnt 10 (s.drop p)) (by omega) h3 h4
   omega
  ·show p + _ ≤ _
   rw [h1]
   omega
 ·rw [if_neg h]
  refine ⟨by show 0 < _; omega, hp, ?_⟩
  show (jE1 _).1 ≤ 11
  unfold jE1
  split
  ·exact xB _
  split
  ·show 3 ≤ 11; omega
  split
  ·exact xB _
  split
  ·show 4 ≤ 11; omega
  ·show 0 ≤ 11; omega
theorem wO9 (s : List UInt8) (j : Nat) (L : List En) (p : Nat) : decG s 0 j L p = if p < s.length then ([], p, 4) else if rowC L ≠ 0 then ([], s.length, rowC L) else (L, s.length, 0) := rfl
theorem yI6 {s : List UInt8} {k j c i n : Nat} {L : List En} {p x q : Nat} (hn : L.length = n) (hj : j = c * n + i) (hi : i < n) (hg : getQ s p = (x, q, 0)) :
  decG s (k + 1) j L p = if errQ c i (jK6 L i) x ≠ 0 then ([], p, errQ c i (jK6 L i) x) else decG s k (j + 1) (L.set i (putQ c (jK6 L i) (atE L i) x)) q := by
 have h1 : j / n = c := by rw [hj, qN, Nat.mul_add_div (by omega), Nat.div_eq_of_lt hi, lM]
 have h2 : j % n = i := by rw [hj, qN, Nat.mul_add_mod, zU hi]
 rw [decG, hg, hn, h1, h2]
 simp only [ne_eq, not_true_eq_false, if_false]
theorem zE8 {s : List UInt8} {k j : Nat} {L : List En} {p x q e : Nat} (hg : getQ s p = (x, q, e)) (he : e ≠ 0) : decG s (k + 1) j L p = ([], p, e) := by
 rw [decG, hg]
 simp only [ne_eq, he, not_false_eq_true, if_true]
theorem vT6 (n : Nat) : jF4 (List.replicate n zeroEn) := fun e he => by rw [(List.mem_replicate.1 he).2]; exact vH7
theorem wO0 {L : List En} {i : Nat} {y : En} (h : jF4 L) (hy : y.ok) : jF4 (L.set i y) := fun e he => by
 rcases List.mem_or_eq_of_mem_set he with h1 | rfl
 ·exact h e h1
 ·exact hy
theorem vN0 (n : Nat) : (List.replicate n ([uq 0, uq 0, wq4 0, wq4 0] : List Value)).flatten = jA1 (List.replicate n zeroEn) := by
 simp only [jA1, List.flatMap, List.map_replicate]
 rfl
theorem vO7 (s : List UInt8) (p x q e : Nat) (hp : p ≤ s.length) (hs : s.length ≤ 1000000) (hg : getQ s p = (x, q, e)) : Fn Tryz.prog 122 [.agg #[.string (str s), iq p, iq 0]] [] fun v _ => v = .tuple #[uq x, .agg #[.string (str s), iq q, iq e]] := by
 have h := yK7 s p hp hs
 rw [hg] at h
 exact h
theorem jY1 (s : List UInt8) (hs : s.length ≤ 1000000) :
  Fn Tryz.prog 68 [.string (str s)] [] fun v H' => ∃ u, v = .tuple #[u, iq (decQ s).2.1, iq (decQ s).2.2] ∧ RowOk u (decQ s).1.length ∧ H' = rowE u 80 4 (jA1 (decQ s).1) := by
 refine Fn.enter (N := 92) Tryz.func68 rfl (by kernel_rfl) rfl (fun w0 => ?_)
 refine aR fun Z hZ => sA rfl rfl <| sA rfl rfl <| sAN hZ rfl rfl <| f1K 0 rfl <| aS <| aR fun Z hZ => sM rfl rfl <| jD6 Tryz.underlying9 rfl rfl <| jC4 ?_
 refine sN (hZ _ _ <| f2K 0 17 rfl <| aC0 (fun h => ?_) (fun h => ?_))
 ·have h0 : 65536 < s.length := by simp at h; omega
  rw [show decQ s = ([], 0, 5) by unfold decQ; rw [if_pos h0]]
  refine aR fun Z hZ => sA rfl rfl <| sA rfl rfl <| sAN hZ rfl rfl <| f3K 2 3 4 rfl <| aE ?_
  repeat refine nTR ?_
  exact jF6 [] rfl rfl rfl rfl (HLe.sub (lN _)) ⟨_, rfl, RowOk.nil, rfl⟩
 have h0 : ¬ 65536 < s.length := by simp at h; omega
 refine aK <| nN ?_
 obtain ⟨n, p0, e0, hg0⟩ : ∃ n p0 e0, getQ s 0 = (n, p0, e0) := ⟨_, _, _, rfl⟩
 obtain ⟨f1, f2, f3⟩ := jX9 s 0 (by omega)
 rw [hg0] at f1 f2 f3
 simp only at f1 f2 f3
 refine aR fun Z hZ => sM rfl rfl <| jD4 tyZ159 tyP159 ?_
 refine sCP0 (vO7 s 0 n p0 e0 (by omega) hs hg0) ?_
 refine sM rfl rfl <| sX rfl rfl rfl <| sX rfl rfl rfl <| sAl tyZ159 rfl (fun g1 => sA rfl rfl ?_)
 first | refine sS0 0 tyS159 ?_
 refine sN (hZ _ _ <| f3K 0 5 6 rfl <| aS (aB <| aR (fun Z hZ => sFA0 jX0 ?_)))
 first | refine sL0 0 tyA33 tyS33 ?_
 refine jC7 ?_
 refine sAN hZ rfl rfl <| f4K 0 5 6 24 rfl <| aC0 (fun h1 => ?_) (fun h1 => ?_)
 ·have he : e0 ≠ 0 := by simp at h1; omega
  rw [show decQ s = ([], 0, e0) by unfold decQ; rw [if_neg h0, hg0, if_pos he]]
  refine jC6 mixed (by kernel_rfl) (fun Z hZ => ?_)
  refine qFA0 jX0 ?_
  first | refine jB6 0 tyA33 tyS33 ?_
  refine jC8 rfl rfl <| jC8 rfl rfl <| jC8 rfl rfl <| jF0 (hZ _ _ <| f3K 2 3 4 rfl <| aE ?_)
  repeat (with_reducible (first | refine nTR ?_ | refine nBR ?_))
  exact jF6 [] rfl rfl rfl rfl (HLe.sub (lN _)) ⟨_, rfl, RowOk.nil, rfl⟩
 have he : e0 = 0 := by simp at h1; omega
 subst he
 refine aR fun Z hZ => sM rfl rfl <| jC4 ?_
 refine sAN hZ rfl rfl <| f4K 0 5 6 30 rfl <| aC0 (fun h2 => ?_) (fun h2 => ?_)
 ·have hn : 4096 < n := by simp at h2; omega
  rw [show decQ s = ([], 0, 21) by unfold decQ; rw [if_neg h0, hg0, if_neg (by simp), if_pos hn]]
  refine aR fun Z hZ => sA rfl rfl <| sA rfl rfl <| sAN hZ rfl rfl <| f3K 2 3 4 rfl <| aE ?_
  repeat (with_reducible (first | refine nTR ?_ | refine nBR ?_))
  exact jF6 [] rfl rfl rfl rfl (HLe.sub (lN _)) ⟨_, rfl, RowOk.nil, rfl⟩
 have hn : n ≤ 4096 := by simp at h2; omega
 have hD : decQ s = decG s (4 * n) 0 (List.replicate n zeroEn) p0 := by unfold decQ; rw [if_neg h0, hg0, if_neg (by simp), if_neg (by simp; omega)]
 rw [hD]
 obtain ⟨D, hDD⟩ := xZ9 (decG s (4 * n) 0 (List.replicate n zeroEn) p0)
 rw [hDD]
 refine aK ?_
 repeat refine nBN ?_
 refine nN <| aR fun Z hZ => sM rfl rfl <| kH6 (zs := [uq 0, uq 0, wq4 0, wq4 0]) (bytes := 24) (size := 4) (z := .agg #[uq 0, uq 0, wq4 0, wq4 0]) Tryz.underlying58 (by kernel_rfl) rfl rfl rfl rfl (by omega) (by show _ ≤ 9223372036854775807; omega) rfl (fun ga => ?_)
 rw [vN0]
 refine sAN hZ rfl rfl <| f3K 0 6 7 rfl <| aS <| aR fun Z hZ => sMN hZ rfl rfl <| f4K 0 6 7 35 rfl <| aB ?_
 refine jB9 (ι := Nat × List En × Nat) (fun i => [(0, .string (str s)), (6, ptr g1 0), (7, .slice (some ⟨ga, 0, none⟩) n n), (35, iq (i.1 : Nat))]) (fun i => [.own ga 80 (jA1 i.2.1), .own g1 159 [.string (str s), iq (i.2.2 : Nat), iq 0]])
  (fun i => i.1 ≤ 4 ∧ i.2.1.length = n ∧ jF4 i.2.1 ∧ i.2.2 ≤ s.length ∧ decG s (4 * n - i.1 * n) (i.1 * n) i.2.1 i.2.2 = D) (fun i => 4 - i.1) (0, List.replicate n zeroEn, p0) ⟨by simp, by simp, vT6 n, f2, by simpa using hDD⟩ (kR rfl) (HLe.refl _) ?_
 rintro ⟨c, M, p⟩ ⟨hc, hM, hE, hp, hq⟩
 simp only at hc hM hE hp hq
 refine aR (fun Z hZ => jB2 ?_)
 refine sN (hZ _ _ <| f5K 0 6 7 35 36 rfl <| aS (aC0 (fun h3 => ?_) (fun h3 => ?_)))
 ·have hc4 : c < 4 := by simp at h3; omega
  have hcn : c * n ≤ 3 * n := uN _ (by omega)
  refine aK <| nN <| aS (aB <| aR fun Z hZ => sM rfl rfl <| sAN hZ rfl rfl <| f5K 0 6 7 8 35 rfl <| aR (fun Z hZ => sAl tyZ80 rfl (fun g2 => sN (hZ _ _ <| f6K 0 6 7 8 9 35 rfl <| aR fun Z hZ => sM rfl rfl ?_))))
  refine jE2 Tryz.underlying58 rfl rfl <| sMN hZ rfl rfl <| f8K 0 6 7 8 9 35 39 40 rfl <| aB ?_
  refine jB9 (ι := Nat × List En × Nat) (fun i => [(0, .string (str s)), (6, ptr g1 0), (7, .slice (some ⟨ga, 0, none⟩) n n), (8, iq (c : Nat)), (9, ptr g2 0), (35, iq (c : Nat)), (39, iq (n : Nat)), (40, iq (i.1 : Nat))]) (fun i => [.own g2 80 (jK6 i.2.1 i.1).cells, .own ga 80 (jA1 i.2.1), .own g1 159 [.string (str s), iq (i.2.2 : Nat), iq 0]])
   (fun i => i.1 ≤ n ∧ i.2.1.length = n ∧ jF4 i.2.1 ∧ i.2.2 ≤ s.length ∧ decG s (4 * n - (c * n + i.1)) (c * n + i.1) i.2.1 i.2.2 = D) (fun i => n - i.1) (0, M, p) ⟨by simp, hM, hE, hp, hq⟩ (kR rfl) (HLe.refl _) ?_
  rintro ⟨i, M, p⟩ ⟨hi, hM, hE, hp, hq⟩
  simp only at hi hM hE hp hq
  refine aR (fun Z hZ => jB2 ?_)
  refine sN (hZ _ _ <| f9K 0 6 7 8 9 35 39 40 41 rfl <| aS (aC0 (fun h4 => ?_) (fun h4 => ?_)))
  ·have hlt : i < n := by simpa using h4
   have hat := jW6 (L := M) (i := i) (by omega)
   have hpo := kX5 hE i
   have hao := jW5 hE i
   obtain ⟨x, q, e, hg⟩ : ∃ x q e, getQ s p = (x, q, e) := ⟨_, _, _, rfl⟩
   obtain ⟨g1', g2', g3'⟩ := jX9 s p hp
   rw [hg] at g1' g2' g3'
   simp only at g1' g2' g3'
   obtain ⟨m, hm⟩ : ∃ m, 4 * n - (c * n + i) = m + 1 := ⟨4 * n - (c * n + i) - 1, by omega⟩
   rw [hm] at hq
   refine aK <| nN <| aS (aB <| aR fun Z hZ => sM rfl rfl <| sAN hZ rfl rfl <| f9K 0 6 7 8 9 10 35 39 40 rfl <| aR (fun Z hZ => sLA0 2 tyA159 tyS159 ?_))
   refine sCP0 (vO7 s p x q e hp hs hg) ?_
   refine sM rfl rfl <| sX rfl rfl rfl <| sX rfl rfl rfl <| sAl tyZ159 rfl (fun g3 => sA rfl rfl <| sS0 0 tyS159 ?_)
   refine sN (hZ _ _ <| f11K 0 6 7 8 9 10 11 12 35 39 40 rfl <| aS <| aR (fun Z hZ => sFA0 jX0 ?_))
   refine sL0 0 tyA33 tyS33 ?_
   refine jC7 ?_
   refine sN (hZ _ _ <| f12K 0 6 7 8 9 10 11 12 35 39 40 50 rfl <| aC0 (fun h5 => ?_) (fun h5 => ?_))
   ·have he : e ≠ 0 := by simp at h5; omega
    rw [zE8 hg he] at hq
    rw [← hq]
    refine jC6 mixed (by kernel_rfl) (fun Z hZ => ?_)
    refine qFA0 jP2 ?_
    refine jB6 3 tyA3 tyS3 ?_
    refine qFA0 jX0 ?_
    refine jB6 0 tyA33 tyS33 ?_
    refine jC8 rfl rfl <| jC8 rfl rfl <| jC8 rfl rfl <| jF0 (hZ _ _ <| f3K 2 3 4 rfl <| aE ?_)
    repeat (with_reducible (first | refine nTR ?_ | refine nBR ?_))
    exact jF6 [] rfl rfl rfl rfl (HLe.sub (lN _)) ⟨_, rfl, RowOk.nil, rfl⟩
   have he : e = 0 := by simp at h5; omega
   subst he
   rw [yI6 hM rfl hlt hg] at hq
   refine aK <| nN <| aS <| jD3 _ [(0, true), (1, true), (2, true), (3, true), (4, true), (5, true), (6, true), (7, false), (8, true)] mixed (by kernel_rfl) (HLe.pick [1] (by simp) (by simp only [pick, l7, qS]; rfl)) (fun Z hZ => ?_)
   refine tw_p rfl <| jA8 ?_
   refine vN <| tw_p rfl <| jA8 ?_
   refine vN <| tw_p rfl ?_
   first | refine jM3 0 rfl rfl tyA80 tyS80 rfl (by simp only [qS]; rfl) rfl ?_
   refine vN <| tw_p rfl <| jA8 ?_
   refine vN <| tw_p rfl <| jA8 ?_
   refine vN <| tw_p rfl <| jJ8 (i * 4) Tryz.underlying58 tyS80 rfl rfl (by omega) (by simp) rfl ?_
   refine vN <| tw_p rfl <| jA8 ?_
   refine vN <| tw_g rfl <| jA5 [_] [_, _, _] (yV0 c i i ga (jK6 M i) (atE M i) x M hc4 (by omega) hpo g1' hat) rfl (HLe.pick [2, 1, 0, 3] (by simp) rfl) rfl ?_
   rintro v H' ⟨rfl, M', rfl, hM'⟩
   refine sN ⟨HLe.pick [1] (by simp) rfl, ?_⟩
   refine tw_p rfl <| jE7 rfl rfl <| vN <| jI7 (hZ _ _ <| f11K 0 6 7 8 9 10 12 13 35 39 40 rfl <| aR fun Z hZ => sM rfl rfl <| jC7 ?_)
   refine sN (hZ _ _ <| f12K 0 6 7 8 9 10 12 13 35 39 40 64 rfl <| aC0 (fun h6 => ?_) (fun h6 => ?_))
   ·have he : errQ c i (jK6 M i) x ≠ 0 := by simp at h6; omega
    rw [if_pos he] at hq
    rw [← hq]
    refine jC6 mixed (by kernel_rfl) (fun Z hZ => ?_)
    refine qFA0 jP2 ?_
    refine jB6 3 tyA3 tyS3 ?_
    refine qM rfl rfl <| jC8 rfl rfl <| jC8 rfl rfl <| jC8 rfl rfl <| jF0 (hZ _ _ <| f3K 2 3 4 rfl <| aE ?_)
    repeat (with_reducible (first | refine nTR ?_ | refine nBR ?_))
    exact jF6 [] rfl rfl rfl rfl (HLe.sub (lN _)) ⟨_, rfl, RowOk.nil, rfl⟩
   have he : errQ c i (jK6 M i) x = 0 := by simp at h6; omega
   rw [if_neg (by simpa using he)] at hq
   have hM' := hM' he
   subst hM'
   have hat' : (M.set i (putQ c (jK6 M i) (atE M i) x))[i]? = some (putQ c (jK6 M i) (atE M i) x) := wQ8 hat
   have hE' : jF4 (M.set i (putQ c (jK6 M i) (atE M i) x)) := wO0 hE (wG8 hao g1')
   refine aK <| nN <| kG9 _ [(0, true), (1, true), (2, true), (3, true), (4, true), (5, false), (6, false)] mixed (by kernel_rfl) (HLe.pick [0, 2] (by simp) (by simp only [pick, l7, lZ]; rfl)) (fun Z hZ => ?_)
   refine tw_p rfl <| jA8 ?_
   refine vN <| tw_p rfl <| jA8 ?_
   refine vN <| tw_p rfl <| jJ8 (i * 4) Tryz.underlying58 tyS80 rfl rfl (by omega) (by simp) rfl ?_
   refine vN <| tw_p rfl <| jE6 0 rfl rfl tyA80 tyS80 (jG4 hat') rfl <| vN <| tw_p rfl <| jM3 1 rfl rfl tyA159 tyS159 rfl (by simp only [qS]; rfl) rfl ?_
   refine vN <| tw_g rfl <| sS0 1 tyS80 ?_
   refine sN ⟨HLe.pick [0, 2] (by simp) rfl, ?_⟩
   refine tw_g rfl <| sS0 3 tyS159 ?_
   refine sN ⟨HLe.pick [0, 2] (by simp) rfl, ?_⟩
   refine jI7 (hZ _ _ <| nF [(0, _), (6, _), (7, _), (8, _), (9, _), (35, _), (39, _), (40, _)] (kR rfl) ?_)
   repeat refine nBN ?_
   refine nN ?_
   refine aG (fun Z hZ => ?_)
   refine jC2 rfl rfl ((i + 1 : Nat) : Int) (by rw [lT _ (by omega)]; omega) rfl ?_
   refine sMN hZ rfl rfl <| nF [(0, _), (6, _), (7, _), (8, _), (9, _), (35, _), (39, _), (40, _)] (kR rfl) <| jB8 (i + 1, M.set i (putQ c (jK6 M i) (atE M i) x), q) ⟨by show i + 1 ≤ _; omega, by simpa using hM, hE', g2', ?_⟩ (by simp; omega) (kR rfl) ?_
   ·show decG s (4 * n - (c * n + (i + 1))) (c * n + (i + 1)) _ _ = D
    rw [show 4 * n - (c * n + (i + 1)) = m by omega, ← qI]
    exact hq
   ·simp only [kR1]
    have : atE (M.set i (putQ c (jK6 M i) (atE M i) x)) i = putQ c (jK6 M i) (atE M i) x := lV ((jW6 (by simp; omega)).symm.trans hat')
    rw [this]
    exact HLe.pick [1, 0, 3] (by simp) rfl
  ·refine jB1 ?_
   repeat refine nTE ?_
   refine nBE ?_
   repeat refine nBN ?_
   refine nN ?_
   have hie : i = n := by simp at h4; omega
   subst hie
   refine aG (fun Z hZ => ?_)
   refine jC2 rfl rfl ((c + 1 : Nat) : Int) (by rw [lT _ (by omega)]; omega) rfl ?_
   refine sMN hZ rfl rfl <| nF [(0, _), (6, _), (7, _), (35, _)] (kR rfl) <| jB8 (c + 1, M, p) ⟨by show c + 1 ≤ _; omega, hM, hE, hp, ?_⟩ (by simp; omega) (kR rfl) (HLe.drop 1 rfl)
   show decG s (4 * i - (c + 1) * i) ((c + 1) * i) M p = D
   rw [Nat.add_mul, Nat.one_mul]
   exact hq
 ·have hc4 : c = 4 := by simp at h3; omega
  subst hc4
  rw [uL, wO9] at hq
  refine jB1 ?_
  repeat refine nTE ?_
  refine nBE <| nN <| aS <| aR (fun Z hZ => sFA0 jP2 ?_)
  refine sL0 1 tyA3 tyS3 ?_
  refine sM rfl rfl <| jD6 Tryz.underlying9 rfl rfl <| jB2 ?_
  refine sN (hZ _ _ <| f4K 0 6 7 79 rfl <| aC0 (fun h4 => ?_) (fun h4 => ?_))
  ·have hl : p < s.length := by simp at h4; omega
   rw [if_pos hl] at hq
   rw [← hq]
   refine jC6 mixed (by kernel_rfl) (fun Z hZ => ?_)
   refine qFA0 jP2 ?_
   refine jB6 1 tyA3 tyS3 ?_
   refine jC8 rfl rfl <| jC8 rfl rfl <| jC8 rfl rfl <| jF0 (hZ _ _ <| f3K 2 3 4 rfl <| aE ?_)
   repeat refine nTR ?_
   exact jF6 [] rfl rfl rfl rfl (HLe.sub (lN _)) ⟨_, rfl, RowOk.nil, rfl⟩
  have hl : ¬ p < s.length := by simp at h4; omega
  rw [if_neg hl] at hq
  have hmax : M.length ≤ maxLen := by show _ ≤ 9223372036854775807; omega
  refine aK <| nN ?_
  subst hM
  refine aS <| aR fun Z hZ => sM rfl rfl <| jO2 [.ro ga 0 (jA1 M)] (kA6 (some ⟨ga, 0, none⟩) M.length M _ (fun _ => ⟨_, _, rfl⟩) (fun _ => rfl) (Ro.roE (some ⟨ga, 0, none⟩) (jA1 M)) hmax hE) rfl ((HLe.toRo [] []).trans (HLe.pick [0] (by simp) rfl)) (Ro.roE (some ⟨ga, 0, none⟩) (jA1 M)) rfl ?_
  refine sAN hZ rfl rfl <| f3K 0 7 14 rfl <| aR fun Z hZ => sM rfl rfl <| jC7 ?_
  refine sN (hZ _ _ <| f4K 0 7 14 85 rfl <| aC0 (fun h5 => ?_) (fun h5 => ?_))
  ·have hr : rowC M ≠ 0 := by simp at h5; omega
   rw [if_pos hr] at hq
   rw [← hq]
   refine aR fun Z hZ => sM rfl rfl <| jD6 Tryz.underlying9 rfl rfl <| sM rfl rfl <| sA rfl rfl <| sA rfl rfl <| sAN hZ rfl rfl <| f3K 2 3 4 rfl <| aE ?_
   repeat refine nTR ?_
   exact jF6 [] rfl rfl rfl rfl (HLe.sub (lN _)) ⟨_, rfl, RowOk.nil, rfl⟩
  have hr : rowC M = 0 := by simp at h5; omega
  rw [if_neg (by simpa using hr)] at hq
  rw [← hq]
  refine aK <| nN <| aR fun Z hZ => sM rfl rfl <| sM rfl rfl <| jD6 Tryz.underlying9 rfl rfl <| sA rfl rfl <| sA rfl rfl <| sAN hZ rfl rfl <| f3K 2 3 4 rfl <| aE <| jF6 _ rfl rfl rfl rfl ((HLe.ownRow [] [] (jG6 M) hmax).trans (HLe.pick [0] (by simp) rfl)) ⟨_, rfl, RowOk.mk _ _ _, rfl⟩
end V
namespace V
open Go.RowKit
end V
end Go.Proofs.YtfeopecgedbfpaaGreatDoor
