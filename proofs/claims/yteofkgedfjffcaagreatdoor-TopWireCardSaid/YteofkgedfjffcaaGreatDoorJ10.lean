/- Walks and plain laws for this claim (texts Wb9, Wc1, Wc2, Wc3, Wc4, Wc5, Wc6, Wc7, Wc8, Wd1, joined). Each theorem states its own conditions. -/
import Derived.Test.YteofkgedfjffcaaGreatDoorJ09
set_option linter.all false
namespace Go.Proofs.YteofkgedfjffcaaGreatDoor
section
open Go.RowKit
set_option maxRecDepth 100000
theorem zQ3 {n : Nat} (h : n < 1000) : Fn Tryz.prog 118 [.string (str (CLS ++ 58 :: 32 :: dd n))] [] fun v _ => v = .tuple #[.agg #[.string (str clS), .string (str (dd n))], iq 0] :=
 kB6 CLS (dd n) rfl (by decide) ⟨by decide, by decide, by decide⟩ (vZ1 n) (wR3 n) (by have := dd_3 h; simp [CLS]; omega)
theorem zQ0 {a b t : Nat} (ha : a < 1000) (hb : b < 1000) (ht : t < 1000) : Fn Tryz.prog 118 [.string (str (CRS ++ 58 :: 32 :: jF6 a b t))] [] fun v _ => v = .tuple #[.agg #[.string (str crS), .string (str (jF6 a b t))], iq 0] :=
 kB6 CRS (jF6 a b t) rfl (by decide) ⟨by decide, by decide, by decide⟩ (vI2 a b t) (vO8 a b t) (by have := kU9 ha hb ht; simp [CRS]; omega)
abbrev rpE (g k : Nat) (F : Value) (s : Bs) : Ent := .own g 52 [iq (k : Nat), F, .string (str s)]
abbrev ansM (a b t n : Nat) : Lf := [(CLS ++ 58 :: 32 :: dd n, (clS, dd n)), (CRS ++ 58 :: 32 :: jF6 a b t, (crS, jF6 a b t))]
theorem zC4 {a b t n : Nat} (ha : a < 1000) (hb : b < 1000) (ht : t < 1000) (hn : n < 1000) : LfOk (ansM a b t n) := fun x hx => by
 rcases List.mem_cons.1 hx with rfl | hx
 ·exact zQ3 hn
 ·rw [List.mem_singleton.1 hx]; exact zQ0 ha hb ht
theorem yA2 (g gl c a b t n : Nat) (hc : 3 ≤ c) (ha : a < 1000) (hb : b < 1000) (ht : t < 1000) (hn : n < 1000) :
  Fn Tryz.prog 64 [ptr g 0, .slice (some ⟨gl, 0, none⟩) 3 c] ([rpE g 0 (.slice none 0 0) []] ++ [.ro gl 0 (svs (ansL a b t n))]) fun v H' => v = .tuple #[iq (n : Nat), tknV] ∧ ∃ gf cf, H' = [rpE g 206 (.slice (some ⟨gf, 0, none⟩) 1 cf) [], .ob gf (RowP 97 2 1 cf (fcs [(crS, jF6 a b t)]))] := by
 obtain ⟨M, hM⟩ := xZ9 (ansM a b t n)
 have hMo := zC4 ha hb ht hn
 have hMl : M.length = 2 := by rw [← hM]; rfl
 have hLM : ansL a b t n = sttS :: M.map Prod.fst := by rw [← hM]; rfl
 rw [hM] at hMo
 rw [hLM]
 refine fE 91 Tryz.func64 rfl (fun w0 => aR fun Z hZ => sA rfl rfl <| sAN hZ rfl rfl <| f2K 0 1 rfl <| aS <| aR fun Z hZ => sM rfl rfl <| jE5 Tryz.underlying94 rfl rfl <| jB1 ?_)
 refine sN (hZ _ _ <| f3K 0 1 16 rfl <| aC0 (fun h1 => ?_) (fun h1 => ?_))
 ·cases h1
 refine aK <| nN <| aR fun Z hZ => sM rfl rfl <| jA8 0 Tryz.underlying94 tyS9 rfl rfl (by decide) rfl rfl ?_
 refine jE0 1 rfl rfl 0 rfl tyA9 tyS9 rfl rfl <| sCP0 wF8 ?_
 refine sM rfl rfl <| sX rfl rfl rfl <| sX rfl rfl rfl <| sA rfl rfl <| sAN hZ rfl rfl <| f4K 0 1 6 7 rfl <| aS <| aR fun Z hZ => sM rfl rfl <| jA6 ?_
 refine sN (hZ _ _ <| f5K 0 1 6 7 26 rfl <| aC0 (fun h2 => ?_) (fun h2 => ?_))
 ·cases h2
 refine aK <| nN <| aR fun Z hZ => sM rfl rfl <| sM rfl rfl <| jA1 ?_
 refine sFA0 vH7 ?_
 refine sS10 0 tyS3 ?_
 refine sN (hZ _ _ <| f2K 0 1 rfl <| aS <| aR fun Z hZ => sM rfl rfl <| jR6 (i := 1) (j := 3) Tryz.underlying94 tyS9 rfl rfl rfl (by decide) (by decide) (by omega) rfl (fun o1 ho1 => ?_))
 obtain rfl : o1 = 1 := ho1 (by decide)
 refine jE5 Tryz.underlying94 rfl rfl <| sMN hZ rfl rfl <| f4K 0 34 35 36 rfl <| aB ?_
 refine jC3 (ι := Nat × Value) (fun i => [(0, ptr g 0), (34, .slice (some ⟨gl, 1, none⟩) M.length (c - 1)), (35, iq (M.length : Nat)), (36, iq (i.1 : Nat))]) (fun i => [rpE g 206 i.2 [], .ro gl 0 (svs (sttS :: M.map Prod.fst))] ++ rowE i.2 97 2 (fcs ((M.take i.1).map Prod.snd)))
  (fun i => i.1 ≤ M.length ∧ RowOk i.2 i.1) (fun i => M.length - i.1) (0, .slice none 0 0) ⟨lZ _, kI⟩ (kE rfl (kE (by rw [hMl]; rfl) (kE (by rw [hMl]; rfl) (kE rfl kF)))) (hV _) ?_
 rintro ⟨i, u⟩ ⟨hi, hu⟩
 simp only at hi hu
 obtain ⟨A1, c1, rfl, hA1⟩ := hu.form
 refine jA7 ([rpE g 206 (.slice A1 i c1) [], .ro gl 0 (svs (sttS :: M.map Prod.fst))] ++ rowE (.slice A1 i c1) 97 2 (fcs ((M.take i).map Prod.snd))) (hV _) <| aR (fun Z hZ => jB0 ?_)
 refine sN (hZ _ _ <| f5K 0 34 35 36 37 rfl <| aS (aC0 (fun h3 => ?_) (fun h3 => ?_)))
 ·have hlt : i < M.length := by simpa using h3
  obtain ⟨x, hx⟩ : ∃ x, M[i]? = some x := ⟨_, xF hlt⟩
  have hf := hMo x (xN hx)
  have hxl : (sttS :: M.map Prod.fst)[i + 1]? = some x.1 := by rw [xC, xZ, hx]; rfl
  obtain ⟨xl, xf⟩ := x
  refine aK <| nN <| aS (aB <| aR (fun Z hZ => jA8 (i + 1) Tryz.underlying94 tyS9 rfl rfl (by omega) (by simp; omega) rfl ?_))
  refine jE0 1 rfl rfl ((i + 1) * 1) (by omega) tyA9 tyS9 (vP5 hxl) rfl ?_
  refine sAN hZ rfl rfl <| f5K 0 9 34 35 36 rfl <| aR fun Z hZ => sM rfl rfl <| sCP0 hf ?_
  refine sM rfl rfl <| sX rfl rfl rfl <| sX rfl rfl rfl <| sAl tyZ97 rfl (fun g1 => sS0 0 tyS97 ?_)
  refine sAN hZ rfl rfl <| f6K 0 10 11 34 35 36 rfl <| aS <| aR fun Z hZ => sM rfl rfl <| jA6 ?_
  refine sN (hZ _ _ <| f7K 0 10 11 34 35 36 46 rfl <| aC0 (fun h4 => ?_) (fun h4 => ?_))
  ·cases h4
  refine aK <| nN <| jR2 _ [(0, true), (1, true), (2, true), (3, true), (4, true), (5, true), (6, false), (7, false), (8, true), (9, true)] 10 rfl jF1 (by kernel_rfl) (HLe.pick [0, 1] (by simp) (by simp only [pick, l8, qS]; rfl)) (fun Z hZ => ?_)
  refine tw_p rfl <| jA5 ?_
  refine vN <| tw_p rfl <| jA5 ?_
  refine vN <| tw_p rfl <| jC0 rfl rfl <| vN <| tw_p rfl <| jA3 jT3 ?_
  refine vN <| tw_p rfl <| jD6 1 rfl rfl tyA50 tyS50 rfl rfl <| vN <| tw_p rfl <| jL1 0 rfl rfl tyA97 tyS97 rfl (by simp only [qS]; rfl) rfl ?_
  refine vN <| tw_g rfl <| sBS0 Tryz.underlying50 tyS97 tyZ97 (fun g2 => ?_)
  refine sN ⟨pH [1, 2] rfl, ?_⟩
  refine tw_g rfl <| jD3 [_, .own g1 97 [.string (str xf.1), .string (str xf.2)], rpE g 206 (.slice A1 i c1) [], .ro gl 0 (svs (sttS :: M.map Prod.fst))] yF3 rfl hu (by rw [vL8, qY, xV]; omega) rfl (fun w hw => jI0 (i := 0) (xs := fcl xf) rfl rfl hw) rfl (by show _ ≤ 9223372036854775807; omega) (by omega) (hV _) rfl (fun v2 hv2 => ?_)
  obtain ⟨A2, c2, rfl, hA2⟩ := hv2.form
  refine sN ⟨pH [1, 2] rfl, ?_⟩
  refine tw_p rfl <| jC0 rfl rfl <| vN <| tw_p rfl <| jA3 jT3 ?_
  refine vN <| jH1 <| sS10 2 tyS50 ?_
  refine sN (hZ _ _ ?_)
  refine nF [(0, _), (34, _), (35, _), (36, _)] (kR rfl) ?_
  repeat (with_reducible refine nBN ?_)
  refine nN ?_
  refine aG (fun Z hZ => ?_)
  refine jB7 rfl rfl ((i + 1 : Nat) : Int) (by rw [lT _ (by omega)]; omega) rfl ?_
  refine sMN hZ rfl rfl <| nF [(0, _), (34, _), (35, _), (36, _)] (kR rfl) <| jC2 (i + 1, .slice A2 (i + 1) c2) ⟨hlt, hv2⟩ (by simp; omega) (kR rfl) ?_
  simp only
  rw [show fcs ((M.take (i + 1)).map Prod.snd) = fcs ((M.take i).map Prod.snd) ++ fcl xf from by rw [qC hlt, x0, fcs, zI]; simp [(List.getElem?_eq_some_iff.1 hx).2]]
  exact kC 2 rfl
 ·refine jB5 ?_
  repeat (with_reducible refine nTE ?_)
  refine nBE ?_
  refine nN ?_
  have hie : i = M.length := by simp at h3; omega
  subst hie
  rw [xY]
  obtain ⟨gf, cf, he⟩ := hu.some (by omega)
  have hec := (Value.slice.inj he).2.2
  obtain rfl := (Value.slice.inj he).1
  subst hec
  have e2 : fcs (M.map Prod.snd) = fcs [(clS, dd n), (crS, jF6 a b t)] := by rw [← hM]; rfl
  rw [e2, hMl]
  have f1 := kY4 gf 0 c1 [(clS, dd n), (crS, jF6 a b t)] clS (dd n) 0 rfl (fun j x hj hx => by
   match j, hj with
   | 0, _ => rfl
   | 1, hj => obtain rfl := lV hj; cases hx
   | j + 2, hj => simp at hj) (by simp)
  have f2 := wN1 n (by omega)
  refine jA7 [rpE g 206 (.slice (some ⟨gf, 0, none⟩) 2 c1) [], .ob gf (RowP 97 2 2 c1 (fcs [(clS, dd n), (crS, jF6 a b t)]))] (pH [0, 2] rfl) <| aR fun Z hZ => sM rfl rfl <| jA1 ?_
  refine sFA0 jT3 ?_
  first | refine sL0 0 tyA50 tyS50 ?_
  refine jO0 [.ro gf 0 (fcs [(clS, dd n), (crS, jF6 a b t)])] f1 rfl ((HLe.rowRo [] []).trans (pH [1] rfl)) (kG (some ⟨gf, 0, none⟩) _) rfl <| sM rfl rfl <| sX rfl rfl rfl <| sX rfl rfl rfl <| sA rfl rfl <| sAN hZ rfl rfl <| f3K 0 7 12 rfl <| aS <| aR fun Z hZ => sM rfl rfl <| jA6 ?_
  refine sN (hZ _ _ <| f4K 0 7 12 69 rfl <| aC0 (fun h5 => ?_) (fun h5 => ?_))
  ·cases h5
  refine aK <| nN <| aR fun Z hZ => sM rfl rfl <| sCP0 f2 ?_
  refine sM rfl rfl <| sX rfl rfl rfl <| sX rfl rfl rfl <| sA rfl rfl <| sAN hZ rfl rfl <| f3K 0 7 13 rfl <| aS <| aR fun Z hZ => sM rfl rfl <| jA6 ?_
  refine sN (hZ _ _ <| f4K 0 7 13 78 rfl <| aC0 (fun h6 => ?_) (fun h6 => ?_))
  ·cases h6
  refine aK <| nN <| aR fun Z hZ => sM rfl rfl <| sM rfl rfl <| jA1 ?_
  refine sFA0 jT3 ?_
  first | refine sL0 0 tyA50 tyS50 ?_
  refine jB4 [.ob gf (RowP 97 2 2 c1 (fcs [(clS, dd n), (crS, jF6 a b t)]))] [rpE g 206 (.slice (some ⟨gf, 0, none⟩) 2 c1) []] (yZ1 gf c1 (clS, dd n) (crS, jF6 a b t) (show (clS == clS) = true by decide) (show (crS == clS) = false by decide)) rfl (pH [1, 0] rfl) rfl ?_
  rintro v H' ⟨rfl, rfl⟩
  refine jC6 [rpE g 206 (.slice (some ⟨gf, 0, none⟩) 2 c1) [], .ob gf (RowP 97 2 1 c1 (fcs [(crS, jF6 a b t)]))] (pH [1, 0] rfl) <| jA1 ?_
  refine sFA0 jT3 ?_
  first | refine sS10 0 tyS50 ?_
  refine sN (hZ _ _ <| f1K 13 rfl <| aR fun Z hZ => sM rfl rfl <| jQ7 (t := 146) Tryz.underlying146 rfl rfl rfl <| sA rfl rfl <| sAN hZ rfl rfl <| f2K 4 5 rfl <| aE <| jD8 _ rfl rfl rfl (hV _) ⟨rfl, _, _, rfl⟩)
abbrev rp0 : Value := .agg #[iq 0, .slice none 0 0, .string (str [])]
theorem zC5 {a b t n : Nat} (ha : a < 1000) (hb : b < 1000) (ht : t < 1000) (hn : n < 1000) : ∀ l ∈ ansL a b t n, LnOk l := fun l hl => by
 simp only [ansL, lW, List.not_mem_nil, or_false] at hl
 rcases hl with rfl | rfl | rfl
 ·exact ⟨rfl, by decide, by decide⟩
 ·exact ⟨(yF9 n hn).1, by simp [CLS], (yF9 n hn).2⟩
 ·exact ⟨(yF8 ha hb ht).1, by simp [CRS], (yF8 ha hb ht).2⟩
theorem kL4 (s u v body : Bs) (a b t n most : Nat) (ha : a < 1000) (hb : b < 1000) (ht : t < 1000) (hn : n < 1000) (hbl : body.length = n) (hm : n ≤ most) (hm2 : most ≤ 1000000) (hs : s.length ≤ 1000000) (hc : s ++ u = hdB (ansL a b t n) ++ (body ++ v)) :
  Fn Tryz.prog 27 [.string (str s), iq (most : Nat)] [] fun w H' => (s.length < (hdB (ansL a b t n)).length + n ∧ w = .tuple #[rp0, iq 0, iq 3] ∧ H' = []) ∨ ((hdB (ansL a b t n)).length + n ≤ s.length ∧ ∃ gf cf, w = .tuple #[.agg #[iq 206, .slice (some ⟨gf, 0, none⟩) 1 cf, .string (str body)], iq ((hdB (ansL a b t n)).length + n : Nat), iq 0] ∧ H' = [.ob gf (RowP 97 2 1 cf (fcs [(crS, jF6 a b t)]))]) := by
 have hd := wM4 s (ansL a b t n) u (body ++ v) hs (zC5 ha hb ht hn) (by simp [ansL]) hc
 obtain ⟨m, hmm⟩ := xZ9 ((hdB (ansL a b t n)).length)
 by_cases hlt : s.length < m
 ·have hd1 : Fn Tryz.prog 57 [.string (str s)] [] fun w H' => w = .tuple #[.slice none 0 0, iq 0, iq 3] := jP3 hd fun w H' hw => by
   rcases hw with ⟨_, h1, _⟩ | ⟨h1, _⟩
   ·exact h1
   ·omega
  rw [hmm]
  refine fE 62 Tryz.func27 rfl (fun w0 => aR (fun Z hZ => sAl tyZ52 rfl (fun g1 => sA rfl rfl <| sAN hZ rfl rfl <| f3K 0 1 4 rfl <| aR fun Z hZ => sM rfl rfl <| sCP0 hd1 ?_)))
  refine sM rfl rfl <| sX rfl rfl rfl <| sX rfl rfl rfl <| sX rfl rfl rfl <| sA rfl rfl <| sA rfl rfl <| sAN hZ rfl rfl <| f6K 0 1 4 5 6 7 rfl <| aS <| aR fun Z hZ => sM rfl rfl <| jA6 ?_
  refine sN (hZ _ _ <| f7K 0 1 4 5 6 7 19 rfl <| aC0 (fun h1 => ?_) (fun h1 => ?_))
  ·refine aR (fun Z hZ => jB6 tyZ52 tyP52 ?_)
   refine sM rfl rfl ?_
   first | refine sS0 0 tyS52 ?_
   refine sA rfl rfl <| sAN hZ rfl rfl ?_
   refine f3K 4 5 6 rfl ?_
   refine aE ?_
   repeat (with_reducible refine nTR ?_)
   exact jF8 [] rfl (kH 0 rfl rfl tyA52 tyS52 rfl) rfl rfl (kA (lO _)) (.inl ⟨by omega, rfl, rfl⟩)
  cases h1
 have hd1 : Fn Tryz.prog 57 [.string (str s)] [] fun w H' => ∃ A, w = .tuple #[A, iq (m : Nat), iq 0] ∧ RowOk A 3 ∧ H' = rowE A 9 1 (svs (ansL a b t n)) := jP3 hd fun w H' hw => by
  rcases hw with ⟨h1, _⟩ | ⟨_, h1⟩
  ·omega
  ·rw [hmm] at h1; exact h1
 rw [hmm]
 refine fE 62 Tryz.func27 rfl (fun w0 => aR (fun Z hZ => sAl tyZ52 rfl (fun g1 => sA rfl rfl <| sAN hZ rfl rfl <| f3K 0 1 4 rfl <| aR fun Z hZ => sM rfl rfl <| jB4 [] [rpE g1 0 (.slice none 0 0) []] hd1 rfl (hV _) rfl ?_)))
 rintro w H' ⟨A, rfl, hA, rfl⟩
 rw [jE2]
 obtain ⟨gl, c, rfl⟩ := hA.some (by decide)
 refine sM rfl rfl <| sX rfl rfl rfl <| sX rfl rfl rfl <| sX rfl rfl rfl <| sA rfl rfl <| sA rfl rfl <| sAN hZ rfl rfl <| f6K 0 1 4 5 6 7 rfl <| jW4 (fun w hw => row_cap hA (fun x hx => xI _ hx) hw) (fun hcap => jA7 [rpE g1 0 (.slice none 0 0) [], .ro gl 0 (svs (ansL a b t n))] ((kD [.ro gl 0 (svs (ansL a b t n))] [_]).trans (HLe.rowRo [] [_])) ?_)
 have hst := yA2 g1 gl c a b t n hcap.1 ha hb ht hn
 refine aS <| aR fun Z hZ => sM rfl rfl <| jA6 ?_
 refine sN (hZ _ _ <| f7K 0 1 4 5 6 7 19 rfl <| aC0 (fun h1 => ?_) (fun h1 => ?_))
 ·cases h1
 refine aK <| nN <| aR fun Z hZ => sM rfl rfl <| jO1 [rpE g1 0 (.slice none 0 0) []] [.ro gl 0 (svs (ansL a b t n))] [.ro gl 0 (svs (ansL a b t n))] hst rfl (hV _) (xO _) (kG (some ⟨gl, 0, none⟩) _) rfl ?_
 rintro v1 H' ⟨rfl, gf, cf, rfl⟩
 refine jC6 [rpE g1 206 (.slice (some ⟨gf, 0, none⟩) 1 cf) [], .ob gf (RowP 97 2 1 cf (fcs [(crS, jF6 a b t)]))] (kA (xE _ _)) <| sM rfl rfl <| sX rfl rfl rfl <| sX rfl rfl rfl <| sA rfl rfl <| sAN hZ rfl rfl <| f6K 0 1 4 5 8 9 rfl <| aS <| aR fun Z hZ => sM rfl rfl <| jQ7 (t := 146) Tryz.underlying146 rfl rfl rfl <| sCP0 zO8 ?_
 refine jE8 rfl rfl <| sN (hZ _ _ <| f7K 0 1 4 5 8 9 30 rfl <| aC0 (fun h2 => ?_) (fun h2 => ?_))
 ·cases h2
 refine aK <| nN <| aS (aB <| aR fun Z hZ => sM rfl rfl <| sM rfl rfl <| jC4 ?_)
 refine sAN hZ rfl rfl <| f5K 0 4 5 8 38 rfl <| aC0 (fun h3 => ?_) (fun h3 => ?_)
 ·simp at h3; omega
 have hle : m ≤ s.length := by omega
 refine aR fun Z hZ => sM rfl rfl <| sM rfl rfl <| jC8 Tryz.underlying9 rfl rfl <| sM rfl rfl <| jN0 rfl rfl ((s.length - m : Nat) : Int) (by rw [lT _ (by omega)]; omega) rfl ?_
 refine jC4 ?_
 refine sAN hZ rfl rfl <| f5K 0 4 5 8 43 rfl <| aC0 (fun h4 => ?_) (fun h4 => ?_)
 ·have h5 : s.length < m + n := by simp at h4; omega
  refine aR (fun Z hZ => jB6 tyZ52 tyP52 ?_)
  refine sS0 0 tyS52 ?_
  refine sA rfl rfl <| sAN hZ rfl rfl ?_
  refine f3K 4 5 6 rfl ?_
  refine aE ?_
  repeat (with_reducible (first | refine nTR ?_ | refine nBR ?_))
  exact jF8 [] rfl (kH 0 rfl rfl tyA52 tyS52 rfl) rfl rfl (kA (lO _)) (.inl ⟨h5, rfl, rfl⟩)
 have h5 : m + n ≤ s.length := by simp at h4; omega
 have hbd : (s.drop m).take n = body := by
  have h6 := kZ3 hc (by rw [hmm]; exact hle)
  rw [hmm] at h6
  have h7 := congrArg (List.take n) h6
  rw [List.take_append_of_le_length (by rw [qF]; omega), List.take_append_of_le_length (by omega), ← hbl, xY, hbl] at h7
  exact h7
 refine aK ?_
 repeat (with_reducible refine nBN ?_)
 refine nN ?_
 refine aR fun Z hZ => sM rfl rfl <| sM rfl rfl <| sM rfl rfl <| sM rfl rfl ?_
 refine jB7 rfl rfl ((m + n : Nat) : Int) (by rw [lT _ (by omega)]; omega) rfl ?_
 refine jF7 body Tryz.underlying9 rfl rfl rfl (by omega) (by omega) (by omega) (by simp only [x4]; rw [uF]; exact hbd) rfl ?_
 refine sFA0 kJ6 ?_
 refine sS10 0 tyS9 ?_
 refine sN (hZ _ _ <| f3K 4 5 8 rfl <| aR (fun Z hZ => sLA0 0 tyA52 tyS52 ?_))
 refine sM rfl rfl <| sM rfl rfl ?_
 refine jB7 rfl rfl ((m + n : Nat) : Int) (by rw [lT _ (by omega)]; omega) rfl ?_
 refine sS0 0 tyS52 ?_
 refine sA rfl rfl <| sAN hZ rfl rfl <| f3K 4 5 6 rfl <| aE <| jF8 [.ob gf (RowP 97 2 1 cf (fcs [(crS, jF6 a b t)]))] rfl (kH 0 rfl rfl tyA52 tyS52 rfl) rfl rfl (pH [1] rfl) (.inr ⟨h5, _, _, rfl, rfl⟩)
abbrev orV (h p F : Bs) : Value := .agg #[.string (str h), .string (str p), .string (str F)]
theorem vE3 (h p F : Bs) (ok : Bool) (f1 : Fn Tryz.prog 52 [rqV p h 0 0] [] fun v _ => v = iq ((if ok = true then 0 else 2 : Nat) : Int)) : Fn Tryz.prog 18 [orV h p F] [] fun v _ => v = iq ((if ok = true then 0 else 2 : Nat) : Int) := by
 refine fE 9 Tryz.func18 rfl (fun w0 => aR (fun Z hZ => jB2 (fun g1 => ?_)))
 refine sAN hZ rfl rfl <| f1K 1 rfl <| aR (fun Z hZ => sFA0 wC0 ?_)
 first | refine sL0 0 tyA9 tyS9 ?_
 refine sFA0 wC1 ?_
 first | refine sL0 0 tyA9 tyS9 ?_
 refine jB6 tyZ81 tyP81 ?_
 refine sCP0 f1 ?_
 refine sAN hZ rfl rfl <| f1K 2 rfl <| aE <| nR10 rfl
abbrev ptV (a b : Nat) (F : Bs) : Value := .agg #[iq (a : Nat), iq (b : Nat), .string (str F)]
theorem yB6 (h p F : Bs) (a b : Nat) (hp : jQ5 p) (hh : jP6 h) (hab : a ≤ b) (hb : b < F.length) (hF : F.length ≤ 500) :
  Fn Tryz.prog 121 [orV h p F, .string (str (reqB p h a b))] [] fun v _ => v = .iface 329 (ptV a b F) := by
 have hl := kI3 p h a b hp hh (by omega) (by omega)
 have f1 := kN6 (reqB p h a b) [] [] p h a b hp hh hab (by omega) (by omega) rfl
 rw [if_neg (Nat.lt_irrefl _)] at f1
 have f2 := zB7 a b F.length hab hb (by omega)
 refine fE 56 Tryz.func121 rfl (fun w0 => aR (fun Z hZ => jB2 (fun g1 => ?_)))
 refine sAN hZ rfl rfl <| f2K 1 2 rfl <| aR fun Z hZ => sM rfl rfl <| sCP0 f1 ?_
 refine sM rfl rfl <| sX rfl rfl rfl <| sX rfl rfl rfl <| sX rfl rfl rfl <| sAl tyZ81 rfl (fun g2 => sS0 0 tyS81 ?_)
 refine sA rfl rfl <| sAN hZ rfl rfl <| f5K 1 2 5 6 7 rfl <| aS (aB <| jA0 [(2, ptr g1 0), (5, ptr g2 0), (15, .bool false)] [.own g2 81 [.string (str p), .string (str h), iq (a : Nat), iq (b : Nat)], .own g1 33 [.string (str h), .string (str p), .string (str F)]] (fun Z hZ => ?_) ?_)
 ·refine sM rfl rfl <| jA6 ?_
  refine sM rfl rfl <| jB9 18 rfl false (by rfl) ?_
  refine sOn0 ?_
  refine sM rfl rfl <| sOn0 ?_
  refine sM rfl rfl <| sOn0 ?_
  refine jC8 Tryz.underlying9 rfl rfl <| sOn0 ?_
  refine jB0 ?_
  refine sP rfl rfl rfl <| sA rfl rfl <| sN (hZ _ _ ?_ ?_)
  ·exact kE rfl (kE rfl (kE (congrArg some (congrArg Value.bool (by simp))) kF))
  ·exact hV _
 refine aC0 (fun h1 => ?_) (fun h1 => ?_)
 ·cases h1
 refine jA0 [(2, ptr g1 0), (5, ptr g2 0), (25, .bool false)] [.own g2 81 [.string (str p), .string (str h), iq (a : Nat), iq (b : Nat)], .own g1 33 [.string (str h), .string (str p), .string (str F)]] (fun Z hZ => ?_) ?_
 ·refine sFA0 vH4 ?_
  refine sL0 0 tyA9 tyS9 ?_
  refine sFA0 wC0 ?_
  refine sL0 1 tyA9 tyS9 ?_
  refine jT9 rfl rfl rfl <| sM rfl rfl <| jB9 31 rfl false (by simp) ?_
  refine sOn0 ?_
  refine sFA0 kT8 ?_
  refine sOn0 ?_
  refine sL0 0 tyA9 tyS9 ?_
  refine sOn0 ?_
  refine sFA0 wC1 ?_
  refine sOn0 ?_
  refine sL0 1 tyA9 tyS9 ?_
  refine sOn0 ?_
  refine jT9 rfl rfl rfl <| sP rfl rfl rfl <| sA rfl rfl <| sN (hZ _ _ ?_ ?_)
  ·exact kE rfl (kE rfl (kE (congrArg some (congrArg Value.bool (by simp))) kF))
  ·exact hV _
 refine aC0 (fun h2 => ?_) (fun h2 => ?_)
 ·cases h2
 refine aK ?_
 repeat (with_reducible refine nBN ?_)
 refine nN ?_
 refine aR (fun Z hZ => ?_)
 refine sFA0 vH3 ?_
 refine sLA0 0 tyA54 tyS54 ?_
 refine sFA0 wB9 ?_
 refine sL0 1 tyA9 tyS9 ?_
 refine jC8 Tryz.underlying9 rfl rfl <| sCP0 f2 ?_
 refine sM rfl rfl <| sX rfl rfl rfl <| sX rfl rfl rfl <| sAl tyZ54 rfl (fun g3 => sS0 0 tyS54 ?_)
 refine sAN hZ rfl rfl <| f3K 2 7 8 rfl <| aS <| aR fun Z hZ => sM rfl rfl <| jA6 ?_
 refine sN (hZ _ _ <| f3K 2 8 49 rfl <| aC0 (fun h3 => ?_) (fun h3 => ?_))
 ·cases h3
 refine aK <| nN <| aR (fun Z hZ => sLA0 0 tyA54 tyS54 ?_)
 refine sFA0 wB9 ?_
 refine sL0 2 tyA9 tyS9 ?_
 refine jB6 tyZ329 tyP329 ?_
 refine jQ7 (t := 329) Tryz.underlying329 rfl rfl rfl <| sAN hZ rfl rfl <| f1K 4 rfl <| aE <| nR10 rfl
def cutB (F : Bs) (a b : Nat) : Bs := (F.drop a).take (b - a + 1)
theorem kC2 {F : Bs} {a b : Nat} (hab : a ≤ b) (hb : b < F.length) : (cutB F a b).length = b - a + 1 := by
 rw [cutB, xV, qF]; omega
theorem wJ0 (a b : Nat) (F : Bs) (hab : a ≤ b) (hb : b < F.length) (hF : F.length ≤ 500) :
  Fn Tryz.prog 348 [ptV a b F] TP fun v H' => ∃ gf, v = .agg #[iq 206, .slice (some ⟨gf, 0, none⟩) 1 1, .string (str (cutB F a b))] ∧ H' = [.own gf 97 (fcs [(crS, jF6 a b F.length)])] := by
 have f1 := yP8 a b F.length hab hb (by omega)
 refine fE 28 Tryz.func348 rfl (fun w0 => aR (fun Z hZ => jB2 (fun g1 => ?_)))
 refine sAl tyZ52 rfl (fun g2 => sN (hZ _ _ <| f2K 1 2 rfl <| aR (fun Z hZ => sFA0 kU1 ?_)))
 refine sLA0 1 tyA54 tyS54 ?_
 refine sFA0 vO0 ?_
 refine sL0 1 tyA9 tyS9 ?_
 refine jC8 Tryz.underlying9 rfl rfl <| jD7 TP f1 rfl (by repeat (first | exact xO _ | exact lO _ | exact lX _ _ | refine qI ?_ (xE _ _) | exact xJ _ (lO _) | refine qA _ ?_)) jQ4 rfl ?_
 refine sM rfl rfl <| sX rfl rfl rfl <| sX rfl rfl rfl <| sA rfl rfl <| sAN hZ rfl rfl <| f3K 1 2 3 rfl ?_
 have hsl : (F.drop (a : Int).toNat).take (((b + 1 : Nat) : Int).toNat - (a : Int).toNat) = cutB F a b := by
  rw [cutB, x4, x4, show b + 1 - a = b - a + 1 from by omega]
 refine aR fun Z hZ => sM rfl rfl <| jB6 tyZ97 tyP97 ?_
 refine sBS0 Tryz.underlying50 tyS97 tyZ97 (fun g3 => ?_)
 refine sFA0 vO0 ?_
 refine sL0 2 tyA9 tyS9 ?_
 refine sFA0 kU1 ?_
 refine sFA0 kD1 ?_
 refine sL0 2 tyA3 tyS3 ?_
 refine sFA0 kU1 ?_
 refine sFA0 jT2 ?_
 refine sL0 2 tyA3 tyS3 ?_
 refine jB7 rfl rfl ((b + 1 : Nat) : Int) (by rw [lT _ (by omega)]; omega) rfl ?_
 refine jF7 (cutB F a b) Tryz.underlying9 rfl rfl rfl (by omega) (by omega) (by omega) hsl rfl ?_
 refine jB6 tyZ52 tyP52 ?_
 refine sS0 1 tyS52 ?_
 refine sN (hZ _ _ <| f1K 2 rfl <| aE <| jD9 [.own g3 97 (fcs [(crS, jF6 a b F.length)])] rfl (kH 1 rfl rfl tyA52 tyS52 rfl) (pH [0] rfl) ⟨_, rfl, rfl⟩)
theorem yN6 (g o : Nat) (xs : List Value) : Ro ([.ro g o xs] ++ TP) := fun e he => by
 rcases List.mem_append.1 he with he | he
 ·rw [List.mem_singleton.1 he]; rfl
 ·exact jQ4 e he
def ansB (a b : Nat) (F : Bs) : Bs := hdB (ansL a b F.length (b - a + 1)) ++ cutB F a b
theorem yT7 (a b : Nat) (F : Bs) (w : World) : (Go.method (Tryz.prog.types.size + Made.depth) 329 (ptV a b F) "gazetteer/origin.reply").run Tryz.prog w = .ok (348, ptV a b F) w := by kernel_rfl
theorem vX6 (h p F : Bs) (a b : Nat) (hp : jQ5 p) (hh : jP6 h) (hab : a ≤ b) (hb : b < F.length) (hF : F.length ≤ 500) :
  Fn Tryz.prog 63 [orV h p F, .string (str (reqB p h a b))] TP fun v _ => v = .string (str (ansB a b F)) := by
 obtain ⟨ok, _, hok, fk⟩ := vG9 p h (by have := hp.2.1; omega) (by have := hh.2.1; omega)
 obtain rfl : ok = true := hok hp hh
 have f1 := vE3 h p F true fk
 have f2 := yB6 h p F a b hp hh hab hb hF
 have f3 := wJ0 a b F hab hb hF
 have hcl := kC2 hab hb
 refine fE 19 Tryz.func63 rfl (fun w0 => aR (fun Z hZ => jB2 (fun g1 => ?_)))
 refine sAN hZ rfl rfl <| f2K 1 2 rfl <| aS <| aR (fun Z hZ => sLA0 0 tyA33 tyS33 ?_)
 refine sCP0 f1 ?_
 refine jA6 ?_
 refine sN (hZ _ _ <| f3K 1 2 9 rfl <| aC0 (fun h1 => ?_) (fun h1 => ?_))
 ·cases h1
 refine aK <| nN <| aR (fun Z hZ => sLA0 0 tyA33 tyS33 ?_)
 refine sM rfl rfl <| sCP0 f2 ?_
 refine wD6 [] TP (.own g1 33 [.string (str h), .string (str p), .string (str F)] :: TP) rfl (yT7 a b F) f3 (hV _) (by repeat (first | exact xO _ | exact lO _ | exact lX _ _ | refine qI ?_ (xE _ _) | exact xJ _ (lO _) | refine qA _ ?_)) jQ4 rfl ?_
 rintro v H' ⟨gf, rfl, rfl⟩
 refine jC6 ([.ro gf 0 (fcs [(crS, jF6 a b F.length)])] ++ TP) ((HLe.toRo [] TP).trans (pH [0, 2] rfl)) <| jD7 ([.ro gf 0 (fcs [(crS, jF6 a b F.length)])] ++ TP) (vQ3 gf 0 1 a b F.length (cutB F a b) (by omega) (by omega) (by omega) (by omega)) rfl (xO _) (yN6 _ _ _) rfl ?_
 refine sM rfl rfl <| sX rfl rfl rfl <| sX rfl rfl rfl <| sA rfl rfl <| sAN hZ rfl rfl ?_
 refine f1K 5 rfl ?_
 refine aR fun Z hZ => sM rfl rfl <| sAN hZ rfl rfl ?_
 refine f1K 4 rfl ?_
 refine aE ?_
 exact nR1 rfl rfl (by rw [ansB, hcl])
abbrev cnE (g : Nat) (h p F : Bs) (op : Bool) (l : Bs) (k : Nat) : Ent := .own g 71 [.string (str h), .string (str p), .string (str F), .bool op, .string (str l), iq (k : Nat)]
theorem yR7 (h p F : Bs) (ok : Bool) (f1 : Fn Tryz.prog 52 [rqV p h 0 0] [] fun v _ => v = iq ((if ok = true then 0 else 2 : Nat) : Int)) :
  Fn Tryz.prog 6 [orV h p F] [] fun v H' => if ok = true then ∃ g, v = .tuple #[ptr g 0, iq 0] ∧ H' = [cnE g h p F true [] 0] else v = .tuple #[.pointer none, iq 2] ∧ H' = [] := by
 have f2 := vE3 h p F ok f1
 cases ok with
 | true =>
  refine fE 13 Tryz.func6 rfl (fun w0 => aR (fun Z hZ => jB2 (fun g1 => ?_)))
  refine sA rfl rfl <| sAN hZ rfl rfl <| f1K 1 rfl <| aS <| aR (fun Z hZ => ?_)
  first | refine sLA0 0 tyA33 tyS33 ?_
  refine sCP0 f2 ?_
  refine sAN hZ rfl rfl <| f2K 1 4 rfl <| aR fun Z hZ => sM rfl rfl <| jA6 ?_
  refine sN (hZ _ _ <| f3K 1 4 8 rfl <| aC0 (fun h1 => ?_) (fun h1 => ?_))
  ·cases h1
  refine aK <| nN <| aR (fun Z hZ => ?_)
  first | refine sLA0 0 tyA33 tyS33 ?_
  refine jB6 tyZ71 tyP71 ?_
  refine jB2 (fun g2 => ?_)
  refine sA rfl rfl <| sAN hZ rfl rfl <| f2K 2 3 rfl <| aE <| jD8 [cnE g2 h p F true [] 0] rfl rfl rfl (pH [0] rfl) ⟨_, rfl, rfl⟩
 | false =>
  refine fE 13 Tryz.func6 rfl (fun w0 => aR (fun Z hZ => jB2 (fun g1 => ?_)))
  refine sA rfl rfl <| sAN hZ rfl rfl <| f1K 1 rfl <| aS <| aR (fun Z hZ => ?_)
  first | refine sLA0 0 tyA33 tyS33 ?_
  refine sCP0 f2 ?_
  refine sAN hZ rfl rfl <| f2K 1 4 rfl <| aR fun Z hZ => sM rfl rfl <| jA6 ?_
  refine sN (hZ _ _ <| f3K 1 4 8 rfl <| aC0 (fun h1 => ?_) (fun h1 => ?_))
  ·refine aR (fun Z hZ => ?_)
   refine sM rfl rfl <| sA rfl rfl <| sAN hZ rfl rfl ?_
   refine f2K 2 3 rfl ?_
   refine aE ?_
   repeat (with_reducible refine nTR ?_)
   exact jD8 [] rfl rfl rfl (kA (lO _)) ⟨rfl, rfl⟩
  cases h1
theorem wS3 (g : Nat) (h p F l : Bs) (k : Nat) : Fn Tryz.prog 21 [ptr g 0] [cnE g h p F true l k] fun v H' => v = .bool false ∧ H' = [cnE g h p F true l k] := by
 refine fE 12 Tryz.func21 rfl (fun w0 => aA rfl rfl <| f1K 0 rfl <| jA0 [(2, .bool false)] [cnE g h p F true l k] (fun Z hZ => ?_) ?_)
 ·refine sM rfl rfl <| jN1 Tryz.underlying29 rfl rfl <| sM rfl rfl <| jB9 5 rfl false (by rfl) ?_
  refine sOn0 ?_
  refine sM rfl rfl <| sOn0 ?_
  refine jA1 ?_
  refine sOn0 ?_
  refine sFA0 vH5 ?_
  refine sOn0 ?_
  first | refine sL0 0 tyA4 tyS4 ?_
  refine sOn0 ?_
  refine jE8 rfl rfl <| sP rfl rfl rfl <| sA rfl rfl <| sN (hZ _ _ ?_ ?_)
  ·exact kE rfl kF
  ·exact hV _
 refine aE <| nR10 ⟨rfl, rfl⟩
theorem wY8 (g : Nat) (h p F y : Bs) (k a b : Nat) (hp : jQ5 p) (hh : jP6 h) (hab : a ≤ b) (hb : b < F.length) (hF : F.length ≤ 500) (hk : k ≤ 1000) :
  Fn Tryz.prog 25 [ptr g 0, iq ((reqB p h a b).length : Nat)] ([cnE g h p F true (reqB p h a b ++ y) k] ++ TP) fun v H' => v = .string (str (ansB a b F)) ∧ H' = [cnE g h p F true y (k + 1)] := by
 have f1 := vX6 h p F a b hp hh hab hb hF
 have hl := kI3 p h a b hp hh (by omega) (by omega)
 obtain ⟨n, hn⟩ := xZ9 ((reqB p h a b).length)
 rw [hn] at hl ⊢
 refine fE 34 Tryz.func25 rfl (fun w0 => aA rfl rfl <| f2K 0 1 rfl <| jD5 _ [(0, true), (1, true), (2, true), (3, true), (4, true), (5, true), (6, true), (7, true), (8, true), (9, true), (10, false), (11, true)] jF1 (by kernel_rfl) (HLe.pick [0] (by simp) (by simp only [pick, l8, lY]; rfl)) (fun Z hZ => ?_))
 refine tw_p rfl <| jA5 ?_
 refine vN <| tw_p rfl <| jC0 rfl rfl <| vN <| tw_p rfl <| jA3 yP6 ?_
 refine vN <| tw_p rfl ?_
 first | refine jL1 0 rfl rfl tyA33 tyS33 rfl (by simp only [qS]; rfl) rfl ?_
 refine vN <| tw_p rfl <| jA5 ?_
 refine vN <| tw_p rfl <| jC0 rfl rfl <| vN <| tw_p rfl <| jA3 jX5 ?_
 refine vN <| tw_p rfl ?_
 first | refine jD6 0 rfl rfl tyA9 tyS9 rfl rfl ?_
 refine vN <| tw_p rfl <| jA5 ?_
 refine vN <| tw_p rfl <| vB9 (reqB p h a b) Tryz.underlying9 rfl rfl rfl (by omega) (by omega) (by rw [lN]; omega) (by rw [← hn]; simp) rfl ?_
 refine vN <| tw_g rfl <| jD7 TP f1 rfl (by repeat (first | exact xO _ | exact lO _ | exact lX _ _ | refine qI ?_ (xE _ _) | exact xJ _ (lO _) | refine qA _ ?_)) jQ4 rfl ?_
 refine sN ⟨pH [0] rfl, ?_⟩
 refine tw_p rfl <| jE3 rfl rfl <| vN <| jH1 (hZ _ _ <| f3K 0 1 5 rfl <| aR fun Z hZ => sM rfl rfl <| sM rfl rfl <| jA1 ?_)
 refine sFA0 jX5 ?_
 refine sL0 0 tyA9 tyS9 ?_
 refine sM rfl rfl <| jF7 y Tryz.underlying9 rfl rfl rfl (by omega) (by rw [lN]; omega) (by simp) (by rw [← hn, x4, x4, uC, lN, uF, xY]) rfl ?_
 refine jA1 ?_
 refine sFA0 jX5 ?_
 refine sS10 0 tyS9 ?_
 refine sN (hZ _ _ <| f2K 0 5 rfl <| aR fun Z hZ => sM rfl rfl <| jA1 ?_)
 refine sFA0 wB2 ?_
 refine sL0 0 tyA3 tyS3 ?_
 refine jB7 rfl rfl ((k + 1 : Nat) : Int) (by rw [lT _ (by omega)]; omega) rfl ?_
 refine jA1 ?_
 refine sFA0 wB2 ?_
 refine sS10 0 tyS3 ?_
 refine sN (hZ _ _ <| f1K 5 rfl <| aR fun Z hZ => sM rfl rfl <| sAN hZ rfl rfl <| f1K 4 rfl <| aE <| jD9 [cnE g h p F true y (k + 1)] rfl rfl (kA (xJ _ (lO _))) ⟨rfl, rfl⟩)
def catR (p h : Bs) (R : List (Nat × Nat)) : Bs := R.flatMap fun r => reqB p h r.1 r.2
def catA (F : Bs) (R : List (Nat × Nat)) : Bs := R.flatMap fun r => ansB r.1 r.2 F
theorem kZ9 (a b : Nat) (F : Bs) : 0 < (ansB a b F).length := by
 simp only [ansB, ansL, jS2, lN, lD]; omega
theorem vA0 {a b : Nat} {F : Bs} (hab : a ≤ b) (hb : b < F.length) (hF : F.length ≤ 500) : (ansB a b F).length ≤ 1300 := by
 have h1 := (yF9 (b - a + 1) (by omega)).2
 have h2 := (yF8 (a := a) (b := b) (t := F.length) (by omega) (by omega) (by omega)).2
 have h3 := kC2 hab hb
 have h4 : sttS.length = 28 := rfl
 simp only [ansB, ansL, jS2, kM6, lN, qS] at h1 h2 ⊢
 omega
def wV3 (F : Bs) (R : List (Nat × Nat)) : Prop := R.length ≤ 10 ∧ ∀ r ∈ R, r.1 ≤ r.2 ∧ r.2 < F.length
theorem kC3 {F : Bs} (hF : F.length ≤ 500) : ∀ {R : List (Nat × Nat)}, (∀ r ∈ R, r.1 ≤ r.2 ∧ r.2 < F.length) → (catA F R).length ≤ R.length * 1300
 | [], _ => lZ _
 | r :: R, h => by
  have h1 := kC3 hF (R := R) fun x hx => h x (lU _ hx)
  have h2 := h r lP
  have h3 := vA0 h2.1 h2.2 hF
  show (ansB r.1 r.2 F ++ catA F R).length ≤ _
  rw [lN, lD]
  omega
theorem kI7 {p h : Bs} (hp : jQ5 p) (hh : jP6 h) {F : Bs} (hF : F.length ≤ 500) : ∀ {R : List (Nat × Nat)}, (∀ r ∈ R, r.1 ≤ r.2 ∧ r.2 < F.length) → (catR p h R).length ≤ R.length * 1000
 | [], _ => lZ _
 | r :: R, hr => by
  have h1 := kI7 hp hh hF (R := R) fun x hx => hr x (lU _ hx)
  have h2 := hr r lP
  have h3 := kI3 p h r.1 r.2 hp hh (by omega) (by omega)
  show (reqB p h r.1 r.2 ++ catR p h R).length ≤ _
  rw [lN, lD]
  omega
theorem vX5 (p h F : Bs) (R : List (Nat × Nat)) (hp : jQ5 p) (hh : jP6 h) (hF : F.length ≤ 500) (hR : ∀ r ∈ R, r.1 ≤ r.2 ∧ r.2 < F.length) (L y : Bs) (hl : L.length ≤ 1000000) (hc : L ++ y = catR p h R) :
  ((y = [] → R = [] ∧ L = []) ∧ Fn Tryz.prog 22 [.string (str L)] [] fun w _ => w = .tuple #[rqV [] [] 0 0, iq 0, iq 3]) ∨
  ∃ a b T L', R = (a, b) :: T ∧ L = reqB p h a b ++ L' ∧ L' ++ y = catR p h T ∧ Fn Tryz.prog 22 [.string (str L)] [] fun w _ => w = .tuple #[rqV p h a b, iq ((reqB p h a b).length : Nat), iq 0] := by
 cases R with
 | nil =>
  have he : L ++ y = [] := hc
  have hL := (List.append_eq_nil_iff.1 he).1
  subst hL
  have f1 := kN6 [] (reqB p h 0 0) [] p h 0 0 hp hh (by decide) (by decide) (by decide) (by simp)
  rw [if_pos (by simp only [reqB, reqL, jS2, lN, qS]; omega)] at f1
  exact .inl ⟨fun _ => ⟨rfl, rfl⟩, f1⟩
 | cons r T =>
  obtain ⟨a, b⟩ := r
  have h1 := hR (a, b) lP
  have hc' : L ++ y = reqB p h a b ++ catR p h T := hc
  have f1 := kN6 L y (catR p h T) p h a b hp hh h1.1 (by have := h1.2; simp only at this; omega) hl hc'
  by_cases hlt : L.length < (reqB p h a b).length
  ·rw [if_pos hlt] at f1
   refine .inl ⟨fun hy => ?_, f1⟩
   subst hy
   have h2 := congrArg List.length hc'
   simp only [lN, lF] at h2
   omega
  ·rw [if_neg hlt] at f1
   have h2 := kZ3 hc' (by omega)
   have h3 : L = reqB p h a b ++ L.drop (reqB p h a b).length := by
    have h4 := congrArg (List.take (reqB p h a b).length) hc'
    rw [List.take_append_of_le_length (by omega), uD] at h4
    have h5 := (zZ (reqB p h a b).length L).symm
    rw [h4] at h5
    exact h5
   exact .inr ⟨a, b, T, _, rfl, h3, h2, f1⟩
theorem wS5 {F : Bs} {R : List (Nat × Nat)} {j : Nat} {a b : Nat} {T : List (Nat × Nat)} (h : R.drop j = (a, b) :: T) : catA F (R.take (j + 1)) = catA F (R.take j) ++ ansB a b F ∧ R.drop (j + 1) = T ∧ j < R.length := by
 have hlt : j < R.length := by
  rcases xX j R.length with h1 | h1
  ·exact h1
  ·rw [List.drop_eq_nil_of_le h1] at h; cases h
 rw [zA hlt] at h
 injection h with h1 h2
 refine ⟨?_, h2, hlt⟩
 rw [qC hlt, h1, catA, zI]
 simp [catA]
theorem wF6 (g : Nat) (h p F : Bs) (R : List (Nat × Nat)) (k : Nat) (L s y : Bs) (hp : jQ5 p) (hh : jP6 h) (hF : F.length ≤ 500) (hR : wV3 F R) (hk : k ≤ 100) (hc : (L ++ s) ++ y = catR p h R) :
  Fn Tryz.prog 9 [ptr g 0, .string (str s)] ([cnE g h p F true L k] ++ TP) fun v H' => ∃ j L', j ≤ R.length ∧ L' ++ y = catR p h (R.drop j) ∧ (y = [] → R.drop j = [] ∧ L' = []) ∧ v = .string (str (catA F (R.take j))) ∧ H' = [cnE g h p F true L' (k + j)] := by
 have hlen : (L ++ s).length ≤ 10000 := by
  have h1 := kI7 hp hh hF hR.2
  rw [← hc, lN] at h1
  have := hR.1
  omega
 have hLs : L.length + s.length ≤ 10000 := by rw [← lN]; exact hlen
 refine fE 51 Tryz.func9 rfl (fun w0 => aA rfl rfl <| f2K 0 1 rfl <| aS <| aR fun Z hZ => sM rfl rfl <| jB4 [cnE g h p F true L k] TP (wS3 g h p F L k) rfl (hV _) rfl ?_)
 rintro v H' ⟨rfl, rfl⟩
 refine sN (hZ _ _ <| f3K 0 1 10 rfl <| aC0 (fun h1 => ?_) (fun h1 => ?_))
 ·cases h1
 refine aK <| nN <| aR fun Z hZ => sM rfl rfl <| jA1 ?_
 refine sFA0 jX5 ?_
 refine sL0 0 tyA9 tyS9 ?_
 refine sM rfl rfl <| jN3 rfl rfl (by omega) rfl ?_
 refine jA1 ?_
 refine sFA0 jX5 ?_
 refine sS10 0 tyS9 ?_
 refine sN (hZ _ _ <| f1K 0 rfl <| aR (fun Z hZ => sAl tyZ79 rfl (fun g1 => sN (hZ _ _ <| f2K 0 5 rfl <| jA7 ([bldE g1 (.pointer none) (.slice none 0 0)] ++ rowE (.slice none 0 0) 5 1 (bv (catA F (R.take 0))) ++ (cnE g h p F true (L ++ s) (k + 0) :: TP)) (hV _) <| aS (aB ?_)))))
 refine jC3 (ι := (Nat × Bs) × (Value × Value)) (fun i => [(0, ptr g 0), (5, ptr g1 0)]) (fun i => [bldE g1 i.2.1 i.2.2] ++ rowE i.2.2 5 1 (bv (catA F (R.take i.1.1))) ++ (cnE g h p F true i.1.2 (k + i.1.1) :: TP))
  (fun i => i.1.1 ≤ R.length ∧ i.1.2.length ≤ 10000 ∧ i.1.2 ++ y = catR p h (R.drop i.1.1) ∧ (i.2.1 = .pointer none ∨ i.2.1 = ptr g1 0) ∧ RowOk i.2.2 (catA F (R.take i.1.1)).length ∧ (catA F (R.take i.1.1) = [] → i.2.2 = .slice none 0 0)) (fun i => R.length - i.1.1) ((0, L ++ s), (.pointer none, .slice none 0 0)) ⟨lZ _, hlen, hc, .inl rfl, kI, fun _ => rfl⟩ (kR rfl) (hV _) ?_
 rintro ⟨⟨j, M⟩, q, v⟩ ⟨hj, hMl, hM, hq, hv, hv0⟩
 simp only at hj hMl hM hq hv hv0
 have hRd : ∀ r ∈ R.drop j, r.1 ≤ r.2 ∧ r.2 < F.length := fun r hr => hR.2 r (List.mem_of_mem_drop hr)
 have hRt : ∀ r ∈ R.take j, r.1 ≤ r.2 ∧ r.2 < F.length := fun r hr => hR.2 r (List.mem_of_mem_take hr)
 have hAl : (catA F (R.take j)).length ≤ 13000 := by
  have h1 := kC3 hF hRt
  have h2 : (R.take j).length ≤ 10 := by rw [xV]; have := hR.1; omega
  omega
 rcases vX5 p h F (R.drop j) hp hh hF hRd M y (by omega) hM with ⟨h2, f1⟩ | ⟨a, b, T, M', hT, hM1, hM2, f1⟩
 ·have f2 := wS8 g1 q v (catA F (R.take j)) hv hv0
  obtain ⟨A, c, rfl, hA⟩ := hv.form
  refine jA7 (cnE g h p F true M (k + j) :: ([bldE g1 q (.slice A (catA F (R.take j)).length c)] ++ rowE (.slice A (catA F (R.take j)).length c) 5 1 (bv (catA F (R.take j))) ++ TP)) (HLe.comm3 ([bldE g1 q (.slice A (catA F (R.take j)).length c)] ++ rowE (.slice A (catA F (R.take j)).length c) 5 1 (bv (catA F (R.take j)))) [cnE g h p F true M (k + j)] TP) <| aS <| aR fun Z hZ => sM rfl rfl <| jA1 ?_
  refine sFA0 vH5 ?_
  first | refine sL0 0 tyA4 tyS4 ?_
  refine sN (hZ _ _ <| f3K 0 5 22 rfl <| aC0 (fun h3 => ?_) (fun h3 => ?_))
  ·refine aK <| nN <| aB <| aR fun Z hZ => sM rfl rfl <| jA1 ?_
   refine sFA0 jX5 ?_
   first | refine sL0 0 tyA9 tyS9 ?_
   refine sCP0 f1 ?_
   refine sM rfl rfl <| sX rfl rfl rfl <| sX rfl rfl rfl <| sX rfl rfl rfl <| sAl tyZ81 rfl (fun g2 => sS0 0 tyS81 ?_)
   refine sA rfl rfl <| sAN hZ rfl rfl <| f4K 0 5 7 8 rfl <| aS <| aR fun Z hZ => sMN hZ rfl rfl <| f4K 0 5 7 32 rfl <| aB <| aR (fun Z hZ => jB1 ?_)
   refine sAN hZ rfl rfl <| f5K 0 5 7 32 41 rfl <| aC0 (fun h4 => ?_) (fun h4 => ?_)
   ·cases h4
   refine aR (fun Z hZ => jB1 ?_)
   refine sAN hZ rfl rfl <| f3K 0 5 43 rfl <| aC0 (fun h5 => ?_) (fun h5 => ?_)
   ·refine jA7 (([bldE g1 q (.slice A (catA F (R.take j)).length c)] ++ rowE (.slice A (catA F (R.take j)).length c) 5 1 (bv (catA F (R.take j)))) ++ [cnE g h p F true M (k + j)]) ((kD [_] _).trans (kA (qA _ (xJ _ (xE _ _))))) <| aR (fun Z hZ => jB4 ([bldE g1 q (.slice A (catA F (R.take j)).length c)] ++ rowE (.slice A (catA F (R.take j)).length c) 5 1 (bv (catA F (R.take j)))) [cnE g h p F true M (k + j)] f2 rfl (hV _) rfl ?_)
    rintro v1 H' rfl
    refine jC6 [cnE g h p F true M (k + j)] (kA (lX _ _)) ?_
    refine sAN hZ rfl rfl ?_
    refine f1K 4 rfl ?_
    refine aE ?_
    repeat (with_reducible (first | refine nTR ?_ | refine nBR ?_))
    exact jD9 [cnE g h p F true M (k + j)] rfl rfl (hV _) ⟨j, M, hj, hM, h2, rfl, rfl⟩
   cases h5
  ·cases h3
 obtain ⟨hsn, hTd, hjl⟩ := wS5 (F := F) hT
 have hab : a ≤ b ∧ b < F.length := hRd (a, b) (by rw [hT]; exact lP)
 have f2 := wY8 g h p F M' (k + j) a b hp hh hab.1 hab.2 hF (by have := hR.1; omega)
 have f3 := yM5 g1 q v (catA F (R.take j)) (ansB a b F) hq hv (by have := vA0 hab.1 hab.2 hF; omega)
 rw [← hsn] at f3
 rw [← hM1] at f2
 obtain ⟨n, hn⟩ := xZ9 ((reqB p h a b).length)
 rw [hn] at f1 f2
 have hMl' : M'.length ≤ 10000 := by rw [hM1, lN] at hMl; omega
 obtain ⟨A, c, rfl, hA⟩ := hv.form
 refine jA7 (cnE g h p F true M (k + j) :: ([bldE g1 q (.slice A (catA F (R.take j)).length c)] ++ rowE (.slice A (catA F (R.take j)).length c) 5 1 (bv (catA F (R.take j))) ++ TP)) (HLe.comm3 ([bldE g1 q (.slice A (catA F (R.take j)).length c)] ++ rowE (.slice A (catA F (R.take j)).length c) 5 1 (bv (catA F (R.take j)))) [cnE g h p F true M (k + j)] TP) <| aS <| aR fun Z hZ => sM rfl rfl <| jA1 ?_
 refine sFA0 vH5 ?_
 first | refine sL0 0 tyA4 tyS4 ?_
 refine sN (hZ _ _ <| f3K 0 5 22 rfl <| aC0 (fun h3 => ?_) (fun h3 => ?_))
 ·refine aK <| nN <| aB <| aR fun Z hZ => sM rfl rfl <| jA1 ?_
  refine sFA0 jX5 ?_
  first | refine sL0 0 tyA9 tyS9 ?_
  refine sCP0 f1 ?_
  refine sM rfl rfl <| sX rfl rfl rfl <| sX rfl rfl rfl <| sX rfl rfl rfl <| sAl tyZ81 rfl (fun g3 => sS0 0 tyS81 ?_)
  refine sA rfl rfl <| sAN hZ rfl rfl <| f4K 0 5 7 8 rfl <| aS <| aR fun Z hZ => sMN hZ rfl rfl <| f4K 0 5 7 32 rfl <| aB <| aR (fun Z hZ => jB1 ?_)
  refine sAN hZ rfl rfl <| f5K 0 5 7 32 41 rfl <| aC0 (fun h4 => ?_) (fun h4 => ?_)
  ·refine aK ?_
   repeat (with_reducible refine nBN ?_)
   refine nN ?_
   refine jA7 ([cnE g h p F true M (k + j)] ++ (([bldE g1 q (.slice A (catA F (R.take j)).length c)] ++ rowE (.slice A (catA F (R.take j)).length c) 5 1 (bv (catA F (R.take j)))) ++ TP)) (kC 1 rfl) ?_
   refine aG (fun Z hZ => ?_)
   refine sM rfl rfl <| sM rfl rfl ?_
   refine jO1 [cnE g h p F true M (k + j)] TP (([bldE g1 q (.slice A (catA F (R.take j)).length c)] ++ rowE (.slice A (catA F (R.take j)).length c) 5 1 (bv (catA F (R.take j)))) ++ TP) f2 rfl (hV _) (lX _ _) jQ4 rfl ?_
   rintro v1 H' ⟨rfl, rfl⟩
   refine jB4 ([bldE g1 q (.slice A (catA F (R.take j)).length c)] ++ rowE (.slice A (catA F (R.take j)).length c) 5 1 (bv (catA F (R.take j)))) ([cnE g h p F true M' (k + j + 1)] ++ TP) f3 rfl (HLe.comm3 [cnE g h p F true M' (k + j + 1)] ([bldE g1 q (.slice A (catA F (R.take j)).length c)] ++ rowE (.slice A (catA F (R.take j)).length c) 5 1 (bv (catA F (R.take j)))) TP) rfl ?_
   rintro v1 H' ⟨rfl, v2, hv2, rfl⟩
   rw [qJ, jE2]
   refine sN (hZ _ _ <| nF [(0, _), (5, _)] (kR rfl) <| nBN <| jC2 ((j + 1, M'), (ptr g1 0, v2)) ⟨hjl, hMl', by rw [hTd]; exact hM2, .inr rfl, hv2, fun h => ?_⟩ (by show R.length - (j + 1) < R.length - j; omega) (kR rfl) (hV _))
   have h5 := congrArg List.length h
   have h6 := kZ9 a b F
   simp only [hsn, lN, lF] at h5
   omega
  cases h4
 ·cases h3
section
variable {P : Program} {N : Frm} {w0 w : World} {Wr : List Nat} {ops : Array Oper} {rest : List Oper} {fr : Fr} {H : Heap} {Z : Fr → Heap → Prop} {d ty : Nat} {pos : String} {after : Array Edge}
theorem vW5 {t e n g len c : Nat} {x lo hi mx : Operand} {i j : Nat} (ht : P.underlying t = some (.slice e)) (hs : tySize P e = some n) (hx : ev fr x = some (.slice (some ⟨g, 0, none⟩) len c)) (hl : ev fr lo = some (iq (i : Nat))) (hh : ev fr hi = some (iq (j : Nat))) (hm : ev fr mx = some (iq (j : Nat))) (h1 : i ≤ j) (h3 : j ≤ c) (hN : bN d N)
  (h : ∀ o', (i < j → o' = i * n) → sv P N w0 Wr ops rest ((d, .slice (some ⟨g, o', none⟩) (j - i) (j - i)) :: fr) H Z) : sv P N w0 Wr ops (⟨some d, .slice t x (some lo) (some hi) (some mx), ty, pos, after, none⟩ :: rest) fr H Z :=
 jK5 (.slice (some ⟨g, (if j = i then 0 else i * n), none⟩) (j - i) (j - i)) hN (fun a w ha _ => by
  have hb1 : ∀ code, (Instr.sliceBound (iq (j : Nat)) c code).run P w = .ok j w := fun code => by
   have := jG6 (P := P) (k := .i64) (i := (j : Int)) (y := c) (code := code) (w := w) ⟨by omega, by omega⟩
   simpa using this
  have hb2 : ∀ code, (Instr.sliceBound (iq (j : Nat)) j code).run P w = .ok j w := fun code => by
   have := jG6 (P := P) (k := .i64) (i := (j : Int)) (y := j) (code := code) (w := w) ⟨by omega, by omega⟩
   simpa using this
  have hb3 : ∀ code, (Instr.sliceBound (iq (i : Nat)) j code).run P w = .ok i w := fun code => by
   have := jG6 (P := P) (k := .i64) (i := (i : Int)) (y := j) (code := code) (w := w) ⟨by omega, by omega⟩
   simpa using this
  by_cases hc : j = i
  ·subst hc
   simp [execOp, Instr.sliceAt, Instr.slice, Instr.sliceBounds, ha.eval hx, ha.eval hl, ha.eval hh, ha.eval hm, lJ, run_underlying ht, jC5 hs, hb1, hb2, jG5]
  ·simp [execOp, Instr.sliceAt, Instr.slice, Instr.sliceBounds, ha.eval hx, ha.eval hl, ha.eval hh, ha.eval hm, lJ, run_underlying ht, jC5 hs, hb1, hb2, hb3, hc, jG5]) (h _ (fun hlt => by rw [if_neg (by omega)]))
end
abbrev fdE (g : Nat) (v : Value) : Ent := .own g 74 [.bool true, iq 500, v, iq 0]
theorem wN2 : Fn Tryz.prog 7 [iq 500] [] fun v H' => ∃ g, v = .tuple #[ptr g 0, iq 0] ∧ H' = [fdE g (.slice none 0 0)] := by
 refine fE 13 Tryz.func7 rfl (fun w0 => aR fun Z hZ => sA rfl rfl <| sAN hZ rfl rfl <| f1K 0 rfl <| aS <| jA0 [(0, iq 500), (9, .bool false)] [] (fun Z hZ => ?_) ?_)
 ·refine sM rfl rfl <| jB0 ?_
  refine sM rfl rfl <| jB9 6 rfl false (by rfl) ?_
  refine sOn0 ?_
  refine sM rfl rfl <| sOn0 ?_
  refine jC4 ?_
  refine sP0 ?_
  refine sN (hZ _ _ ?_ ?_)
  ·exact kR rfl
  ·exact hV _
 refine aC0 (fun h1 => ?_) (fun h1 => ?_)
 ·cases h1
 refine aK <| nN <| aR fun Z hZ => sM rfl rfl <| jB6 tyZ74 tyP74 ?_
 refine jB2 (fun g1 => ?_)
 refine sA rfl rfl <| sAN hZ rfl rfl <| f2K 2 3 rfl <| aE <| jD8 [fdE g1 (.slice none 0 0)] rfl rfl rfl (hV _) ⟨_, rfl, rfl⟩
theorem vS9 (g : Nat) (v : Value) : Fn Tryz.prog 26 [ptr g 0] [fdE g v] fun u H' => u = .bool false ∧ H' = [fdE g v] := by
 refine fE 12 Tryz.func26 rfl (fun w0 => aA rfl rfl <| f1K 0 rfl <| jA0 [(2, .bool false)] [fdE g v] (fun Z hZ => ?_) ?_)
 ·refine sM rfl rfl <| jN1 Tryz.underlying34 rfl rfl <| sM rfl rfl <| jB9 5 rfl false (by rfl) ?_
  refine sOn0 ?_
  refine sM rfl rfl <| sOn0 ?_
  refine jA1 ?_
  refine sOn0 ?_
  refine sFA0 yP5 ?_
  refine sOn0 ?_
  first | refine sL0 0 tyA4 tyS4 ?_
  refine sOn0 ?_
  refine jE8 rfl rfl <| sP rfl rfl rfl <| sA rfl rfl <| sN (hZ _ _ ?_ ?_)
  ·exact kE rfl kF
  ·exact hV _
 refine aE <| nR10 ⟨rfl, rfl⟩
theorem yZ0 (g : Nat) (v : Value) (hv : RowOk v 0) : Fn Tryz.prog 11 [ptr g 0] [fdE g v] fun u _ => u = iq 0 := by
 obtain ⟨A, c, rfl, hA⟩ := hv.form
 refine fE 23 Tryz.func11 rfl (fun w0 => aA rfl rfl <| f1K 0 rfl <| aS (aB <| aR fun Z hZ => sM rfl rfl <| jB4 [fdE g (.slice A 0 c)] [] (vS9 g _) rfl (hV _) rfl ?_))
 rintro v H' ⟨rfl, rfl⟩
 refine sAN hZ rfl rfl <| f2K 0 3 rfl <| aC0 (fun h1 => ?_) (fun h1 => ?_)
 ·cases h1
 refine aR fun Z hZ => sM rfl rfl <| jA1 ?_
 refine sFA0 wB1 ?_
 first | refine sL0 0 tyA30 tyS30 ?_
 refine jA6 ?_
 refine sAN hZ rfl rfl <| f2K 0 6 rfl <| aC0 (fun h2 => ?_) (fun h2 => ?_)
 ·cases h2
 refine aR fun Z hZ => sM rfl rfl <| jA1 ?_
 refine sFA0 jL7 ?_
 first | refine sL0 0 tyA72 tyS72 ?_
 refine jE5 Tryz.underlying72 rfl rfl <| jC4 ?_
 refine sAN hZ rfl rfl <| f1K 16 rfl <| aC0 (fun h3 => ?_) (fun h3 => ?_)
 ·cases h3
 refine aK ?_
 repeat (with_reducible refine nBN ?_)
 refine nN ?_
 refine aA rfl rfl ?_
 refine f1K 2 rfl ?_
 refine aE ?_
 exact nR10 rfl
theorem wT6 (g o c n : Nat) (L : List UInt8) (T : Heap) (hT : 0 < n → T = [.ro g o (bv L)]) (hro : Ro T) (hn : L.length = n) (hl : n ≤ 1000000) :
  Fn Tryz.prog 66 [.slice (some ⟨g, o, none⟩) n c] T fun v H' => RowOk v n ∧ H' = rowE v 5 1 (bv L) := by
 refine fE 8 Tryz.func66 rfl (fun w0 => aA rfl rfl <| f1K 0 rfl <| aS <| aR fun Z hZ => sM rfl rfl <| jR5 Tryz.underlying72 rfl rfl <| sN (hZ _ _ <| f2K 0 4 rfl <| aC0 (fun h => ?_) (fun h => ?_)))
 ·simp at h
 refine aK <| nN <| aR (fun Z hZ => jM5 Tryz.underlying72 tyS5 rfl (fun g1 => jC6 (T ++ rowE (.slice (some ⟨g1, 0, none⟩) 0 0) 5 1 []) ((kD _ _).trans (HLe.ownRow [] T rfl (lZ _))) <| sM rfl rfl <| jD3 T kR1 rfl (RowOk.mk g1 0 0) rfl rfl (fun w hw => yJ8 (A := some ⟨g, o, none⟩) (T := T) (fun _ => ⟨g, o, rfl⟩) hT (by rw [jF9, qN, hn]) (fun h => by cases h) (kA (xE _ _)) hw) (List.all_eq_true.2 (wS7 L)) (by show _ ≤ 9223372036854775807; omega) (by omega) (hV _) rfl (fun v2 hv2 => ?_)))
 rw [lE]
 rw [lA] at hv2
 refine sAN hZ rfl rfl <| f1K 2 rfl <| aE <| jD9 _ rfl rfl (kA (lX _ _)) ⟨hv2, rfl⟩
theorem yZ2 (g gl c : Nat) (A L : List UInt8) (n m : Nat) (hA : A.length = n) (hm : (A ++ L).length = m) (hl : m ≤ 1000000) :
  Fn Tryz.prog 28 [ptr g 0, iq (n : Nat)] [fdE g (.slice (some ⟨gl, 0, none⟩) m c), .ob gl (RowP 5 1 m c (bv (A ++ L)))] fun u H' => u = .tuple #[] ∧ ∃ v, RowOk v L.length ∧ H' = [fdE g v] ++ rowE v 5 1 (bv L) := by
 have hn : n + L.length = m := by rw [← hm, lN, hA]
 refine fE 26 Tryz.func28 rfl (fun w0 => jW4 (fun w hw => row_cap (RowOk.mk gl m c) (fun x hx => lU _ hx) hw) (fun hcap => ?_))
 have hc := hcap.1
 refine jD5 _ [(0, true), (1, true), (2, true), (3, true), (4, true), (5, true), (6, true), (7, true), (8, true), (9, true), (10, true), (11, true), (12, true), (13, true), (14, true), (15, true), (16, true)] jF1 (by kernel_rfl) (HLe.pick [0] (by simp) (by simp only [pick, l8, qS]; rfl)) (fun Z hZ => ?_)
 refine tw_p rfl <| jA5 ?_
 refine vN <| tw_p rfl <| jC0 rfl rfl <| vN <| tw_p rfl <| jA3 jL7 ?_
 refine vN <| tw_p rfl ?_
 first | refine jD6 0 rfl rfl tyA72 tyS72 rfl rfl ?_
 refine vN <| tw_p rfl <| jA5 ?_
 refine vN <| tw_p rfl <| jA5 ?_
 refine vN <| tw_p rfl <| jC0 rfl rfl <| vN <| tw_p rfl <| jA3 jL7 ?_
 refine vN <| tw_p rfl ?_
 first | refine jD6 0 rfl rfl tyA72 tyS72 rfl rfl ?_
 refine vN <| tw_p rfl <| jZ6 Tryz.underlying72 rfl rfl <| vN <| tw_p rfl <| jA5 ?_
 refine vN <| tw_p rfl <| jC0 rfl rfl <| vN <| tw_p rfl <| jA3 jL7 ?_
 refine vN <| tw_p rfl ?_
 first | refine jD6 0 rfl rfl tyA72 tyS72 rfl rfl ?_
 refine vN <| tw_p rfl <| jZ6 Tryz.underlying72 rfl rfl <| vN <| tw_p rfl <| vW5 Tryz.underlying72 tyS5 rfl rfl rfl rfl (by omega) hc rfl (fun o ho => ?_)
 refine vN <| tw_p rfl <| jE3 rfl rfl <| vN <| jH1 (hZ _ _ <| f2K 0 4 rfl ?_)
 obtain ⟨T, hT⟩ : ∃ T : Heap, T = if 0 < L.length then [.ro gl o (bv L)] else [] := ⟨_, rfl⟩
 have hT0 : 0 < L.length → T = [.ro gl o (bv L)] := fun h => by rw [hT, if_pos h]
 have hro : Ro T := by
  rw [hT]
  split
  ·exact kG (some ⟨gl, o, none⟩) _
  ·exact Ro.nil
 have hU : HLe T [fdE g (.slice (some ⟨gl, 0, none⟩) m c), .ob gl (RowP 5 1 m c (bv (A ++ L)))] := by
  by_cases h : 0 < L.length
  ·rw [hT0 h, ho (by omega), qN]
   have h1 : HLe [.ro gl 0 (bv (A ++ L))] [fdE g (.slice (some ⟨gl, 0, none⟩) m c), .ob gl (RowP 5 1 m c (bv (A ++ L)))] := (HLe.rowRo [] []).trans (pH [1] rfl)
   have h2 : HLe (.ro gl (0 + n) (bv L) :: [.ro gl 0 (bv (A ++ L))]) [.ro gl 0 (bv (A ++ L))] := HLe.view lP fun j u hu => by
    rw [jP4, qH (by rw [jF9, hA]; omega), jF9, hA, uF]
    exact hu
   rw [lA] at h2
   exact (kA (xJ _ (lO _))).trans (h2.trans h1)
  ·rw [hT, if_neg h]
   exact kA (lO _)
 have f1 := wT6 gl o (m - n) (m - n) L T (fun h => hT0 (by omega)) hro (by omega) (by omega)
 refine aG (fun Z hZ => sM rfl rfl <| sM rfl rfl <| jZ3 T f1 rfl hU hro rfl ?_)
 rintro v H' ⟨hv, rfl⟩
 rw [jE2]
 refine jC6 ([fdE g (.slice (some ⟨gl, 0, none⟩) m c)] ++ rowE v 5 1 (bv L)) ((kD _ [_]).trans (kA (uE (xJ _ (lO _)) _))) ?_
 rw [show m - n = L.length from by omega] at hv
 obtain ⟨A2, c2, rfl, hA2⟩ := hv.form
 refine jA1 ?_
 refine sFA0 jL7 ?_
 first | refine sS10 0 tyS72 ?_
 refine sN (hZ _ _ <| nF [] (kF) <| jM8 _ rfl (hV _) ⟨rfl, _, hv, rfl⟩)
abbrev Rp := (Nat × Nat) × (Nat × Nat)
def rpC (F : Bs) (x : Rp) : List Value := [iq 206, .slice (some ⟨x.1.1, 0, none⟩) 1 x.1.2, .string (str (cutB F x.2.1 x.2.2))]
def rpH (F : Bs) (x : Rp) : Ent := .ob x.1.1 (RowP 97 2 1 x.1.2 (fcs [(crS, jF6 x.2.1 x.2.2 F.length)]))
abbrev rpK (F : Bs) (out : Value) (X : List Rp) : Heap := X.map (rpH F) ++ rowE out 52 3 (X.flatMap (rpC F))
theorem HLe.ofPerm {A B : Heap} (h : B.Perm A) : HLe A B := fun _ _ _ hw => hw.perm h
theorem yL7 : ElemOk Tryz.prog 44 52 3 48 := ElemOk.mk_ (z := .agg #[iq 0, .slice none 0 0, .string ⟨#[]⟩]) Tryz.underlying44 (by kernel_rfl) rfl (by omega)
theorem kW4 (F : Bs) (X : List Rp) : (X.flatMap (rpC F)).length = X.length * 3 := by
 induction X with
 | nil => rfl
 | cons x r ih => rw [x5, lN, ih, lD]; show 3 + _ = _; omega
theorem yH7 (F : Bs) (R : List (Nat × Nat)) (hF : F.length ≤ 500) (hR : ∀ r ∈ R, r.1 ≤ r.2 ∧ r.2 < F.length) (M y : Bs) (hl : M.length ≤ 1000000) (hc : M ++ y = catA F R) :
  ((y = [] → R = [] ∧ M = []) ∧ Fn Tryz.prog 27 [.string (str M), iq 500] [] fun w _ => w = .tuple #[rp0, iq 0, iq 3]) ∨
  ∃ a b T M', R = (a, b) :: T ∧ a ≤ b ∧ b < F.length ∧ M = ansB a b F ++ M' ∧ M' ++ y = catA F T ∧ Fn Tryz.prog 27 [.string (str M), iq 500] [] fun w H' => ∃ gf cf, w = .tuple #[.agg (rpC F ((gf, cf), (a, b))).toArray, iq ((ansB a b F).length : Nat), iq 0] ∧ H' = [rpH F ((gf, cf), (a, b))] := by
 cases R with
 | nil =>
  have he : M ++ y = [] := hc
  have hM := (List.append_eq_nil_iff.1 he).1
  subst hM
  have f1 := kL4 [] (hdB (ansL 0 0 0 0)) [] [] 0 0 0 0 500 (by decide) (by decide) (by decide) (by decide) rfl (by decide) (by decide) (by decide) (by simp)
  refine .inl ⟨fun _ => ⟨rfl, rfl⟩, jP3 f1 fun w H' hw => ?_⟩
  rcases hw with ⟨_, h1, _⟩ | ⟨h1, _⟩
  ·exact h1
  ·simp only [ansL, jS2, lN, qS] at h1; omega
 | cons r T =>
  obtain ⟨a, b⟩ := r
  have h1 : a ≤ b ∧ b < F.length := hR (a, b) lP
  have hc' : M ++ y = ansB a b F ++ catA F T := hc
  have hcl := kC2 h1.1 h1.2
  have hAl : (ansB a b F).length = (hdB (ansL a b F.length (b - a + 1))).length + (b - a + 1) := by rw [ansB, lN, hcl]
  have f1 := kL4 M y (catA F T) (cutB F a b) a b F.length (b - a + 1) 500 (by omega) (by omega) (by omega) (by omega) hcl (by omega) (by decide) hl (by rw [hc', ansB, xD])
  rw [← hAl] at f1
  by_cases hlt : M.length < (ansB a b F).length
  ·refine .inl ⟨fun hy => ?_, jP3 f1 fun w H' hw => ?_⟩
   ·subst hy
    have h2 := congrArg List.length hc'
    simp only [lN, lF] at h2
    omega
   ·rcases hw with ⟨_, h1, _⟩ | ⟨h1, _⟩
    ·exact h1
    ·omega
  ·have h2 := kZ3 hc' (by omega)
   have h3 : M = ansB a b F ++ M.drop (ansB a b F).length := by
    have h4 := congrArg (List.take (ansB a b F).length) hc'
    rw [List.take_append_of_le_length (by omega), uD] at h4
    have h5 := (zZ (ansB a b F).length M).symm
    rw [h4] at h5
    exact h5
   refine .inr ⟨a, b, T, _, rfl, h1.1, h1.2, h3, h2, jP3 f1 fun w H' hw => ?_⟩
   rcases hw with ⟨h1, _⟩ | ⟨_, gf, cf, h1, h2⟩
   ·omega
   ·exact ⟨gf, cf, h1, h2⟩
theorem wM9 (g : Nat) (F : Bs) (R : List (Nat × Nat)) (L s y : Bs) (v : Value) (hv : RowOk v L.length) (hF : F.length ≤ 500) (hR : wV3 F R) (hc : (L ++ s) ++ y = catA F R) :
  Fn Tryz.prog 10 [ptr g 0, .string (str s)] ([fdE g v] ++ rowE v 5 1 (bv L)) fun u H' => ∃ X R' L' v' out, R = X.map Prod.snd ++ R' ∧ L' ++ y = catA F R' ∧ (y = [] → R' = [] ∧ L' = []) ∧ RowOk v' L'.length ∧ RowOk out X.length ∧ u = .tuple #[out, iq 0] ∧ H' = [fdE g v'] ++ (rowE v' 5 1 (bv L') ++ rpK F out X) := by
 have hlen : (L ++ s).length ≤ 13000 := by
  have h1 := kC3 hF hR.2
  rw [← hc, lN] at h1
  have := hR.1
  omega
 have hLs : L.length + s.length ≤ 13000 := by rw [← lN]; exact hlen
 obtain ⟨A, c, rfl, hA⟩ := hv.form
 refine fE 66 Tryz.func10 rfl (fun w0 => aR fun Z hZ => sA rfl rfl <| sAN hZ rfl rfl <| f2K 0 1 rfl <| aS <| aR fun Z hZ => sM rfl rfl <| jB4 [fdE g (.slice A L.length c)] (rowE (.slice A L.length c) 5 1 (bv L)) (vS9 g _) rfl (hV _) rfl ?_)
 rintro u H' ⟨rfl, rfl⟩
 refine sN (hZ _ _ <| f3K 0 1 11 rfl <| aC0 (fun h1 => ?_) (fun h1 => ?_))
 ·cases h1
 refine aK <| nN <| aS <| aR fun Z hZ => sM rfl rfl <| jA1 ?_
 refine sFA0 wB1 ?_
 first | refine sL0 0 tyA30 tyS30 ?_
 refine jA6 ?_
 refine sN (hZ _ _ <| f3K 0 1 16 rfl <| aC0 (fun h2 => ?_) (fun h2 => ?_))
 ·cases h2
 refine aK <| nN <| aR fun Z hZ => sM rfl rfl <| sM rfl rfl <| jA1 ?_
 refine sFA0 jL7 ?_
 first | refine sL0 0 tyA72 tyS72 ?_
 refine sM rfl rfl <| jP8 (l := L) (m := s) [fdE g (.slice A L.length c)] Tryz.underlying72 Tryz.underlying9 (by kernel_rfl) rfl hv rfl (by omega) (hV _) rfl (fun v2 hv2 => ?_)
 obtain ⟨A2, c2, rfl, hA2⟩ := hv2.form
 refine jA1 ?_
 refine sFA0 jL7 ?_
 first | refine sS10 0 tyS72 ?_
 refine sN (hZ _ _ <| f1K 0 rfl <| aA rfl rfl <| f2K 0 6 rfl <| jA7 ([fdE g (.slice A2 (L ++ s).length c2)] ++ (rowE (.slice A2 (L ++ s).length c2) 5 1 (bv (L ++ s)) ++ rpK F (.slice none 0 0) [])) (by rw [show rpK F (.slice none 0 0) [] = [] from rfl, lH]; exact hV _) ?_)
 refine aB ?_
 refine jC3 (ι := List Rp × List (Nat × Nat) × Bs × Value × Value) (fun i => [(0, ptr g 0), (6, i.2.2.2.2)]) (fun i => [fdE g i.2.2.2.1] ++ (rowE i.2.2.2.1 5 1 (bv i.2.2.1) ++ rpK F i.2.2.2.2 i.1))
  (fun i => R = i.1.map Prod.snd ++ i.2.1 ∧ i.2.2.1.length ≤ 13000 ∧ i.2.2.1 ++ y = catA F i.2.1 ∧ RowOk i.2.2.2.1 i.2.2.1.length ∧ RowOk i.2.2.2.2 i.1.length) (fun i => i.2.1.length) ([], R, L ++ s, .slice A2 (L ++ s).length c2, .slice none 0 0) ⟨rfl, hlen, hc, hv2, kI⟩ (kR rfl) (hV _) ?_
 rintro ⟨X, R', M, v3, out⟩ ⟨hX, hMl, hM, hv3, ho⟩
 simp only at hX hMl hM hv3 ho
 have hRd : ∀ r ∈ R', r.1 ≤ r.2 ∧ r.2 < F.length := fun r hr => hR.2 r (by rw [hX]; exact x7 _ hr)
 refine aB ?_
 obtain ⟨A3, c3, rfl, hA3⟩ := hv3.form
 rcases yH7 F R' hF hRd M y (by omega) hM with ⟨h3, f1⟩ | ⟨a, b, T, M', rfl, hab, hbF, hMe, hM2, f1⟩
 ·refine jA7 ([fdE g (.slice A3 M.length c3)] ++ (rowE (.slice A3 M.length c3) 5 1 (bv M) ++ rpK F out X)) (hV _) ?_
  refine jV2 (fun j : Nat => [(0, ptr g 0), (6, out), (7, ptr j 0), (8, iq 0), (9, iq 3)]) (fun _ => [fdE g (.slice A3 M.length c3)] ++ (rowE (.slice A3 M.length c3) 5 1 (bv M) ++ rpK F out X)) (fun _ => True) _ [4, 9, 14, 15] [(0, true), (1, true), (2, true), (3, true), (5, true), (6, true), (7, true), (8, true), (4, false), (9, false), (10, true), (11, true), (12, true), (13, true), (14, false), (15, false), (16, true), (17, true)] [(0, true), (1, true), (2, true), (3, true), (5, true), (6, true), (7, true), (8, true), (14, false), (4, false), (9, false), (10, true), (11, true), (12, true), (13, true), (15, false), (16, true), (17, true)] [(0, true), (1, true), (2, true), (3, true), (5, true), (6, true), (7, true), (8, true), (4, false), (14, false), (9, false), (10, true), (11, true), (12, true), (13, true), (15, false), (16, true), (17, true)] jF1 (by kernel_rfl) (HLe.pick [0] (by simp) (by simp only [pick, l8, lY]; rfl)) ?_ ?_ ?_ ?_
  ·refine tw_p rfl <| jA5 ?_
   refine vN <| tw_p rfl <| jC0 rfl rfl <| vN <| tw_p rfl <| jA3 jL7 ?_
   refine vN <| tw_p rfl ?_
   first | refine jD6 0 rfl rfl tyA72 tyS72 rfl rfl ?_
   refine vN <| tw_p rfl <| jA5 ?_
   refine vN <| tw_p rfl <| jC0 rfl rfl <| vN <| tw_p rfl <| jA3 kC9 ?_
   refine vN <| tw_p rfl ?_
   first | refine jD6 0 rfl rfl tyA3 tyS3 rfl rfl ?_
   refine vN <| tw_g rfl <| jO9 (l := M) Tryz.underlying72 Tryz.underlying5 Tryz.underlying9 rfl (fun w hw => jL3 (e := 5) hv3 (by rw [jF9, qN]) (fun x hx => by simp only [l9, lW, hx, true_or, or_true]) hw) rfl ?_
   refine sN ⟨pH [0] rfl, ?_⟩
   refine tw_g rfl <| sCP0 f1 ?_
   refine sN ⟨pH [0] rfl, ?_⟩
   refine tw_p rfl <| jA5 ?_
   refine vN <| tw_p rfl <| jE7 rfl rfl rfl <| vN <| tw_p rfl <| jE7 rfl rfl rfl <| vN <| tw_p rfl <| jE7 rfl rfl rfl <| vN ?_
   refine tw_g rfl <| sAl tyZ52 rfl (fun g1 => sN ⟨pH [1] rfl, ?_⟩)
   refine tw_g rfl <| sS0 0 tyS52 ?_
   refine sN ⟨pH [1] rfl, ?_⟩
   refine tw_p rfl <| jE3 rfl rfl <| vN <| tw_p rfl <| jE3 rfl rfl <| vN <| jH1 <| ⟨g1, trivial, kR rfl, kC 1 rfl⟩
  ·refine tw_p rfl <| jA5 ?_
   refine vN <| tw_p rfl <| jC0 rfl rfl <| vN <| tw_p rfl <| jA3 jL7 ?_
   refine vN <| tw_p rfl ?_
   first | refine jD6 0 rfl rfl tyA72 tyS72 rfl rfl ?_
   refine vN <| tw_p rfl <| jA5 ?_
   refine vN <| tw_p rfl <| jC0 rfl rfl <| vN <| tw_p rfl <| jA3 kC9 ?_
   refine vN <| tw_p rfl ?_
   first | refine jD6 0 rfl rfl tyA3 tyS3 rfl rfl ?_
   refine vN <| tw_g rfl <| sAl tyZ52 rfl (fun g1 => sN ⟨pH [1] rfl, ?_⟩)
   refine tw_g rfl <| jO9 (l := M) Tryz.underlying72 Tryz.underlying5 Tryz.underlying9 rfl (fun w hw => jL3 (e := 5) hv3 (by rw [jF9, qN]) (fun x hx => by simp only [l9, lW, hx, true_or, or_true]) hw) rfl ?_
   refine sN ⟨pH [1] rfl, ?_⟩
   refine tw_g rfl <| sCP0 f1 ?_
   refine sN ⟨pH [1] rfl, ?_⟩
   refine tw_p rfl <| jA5 ?_
   refine vN <| tw_p rfl <| jE7 rfl rfl rfl <| vN <| tw_p rfl <| jE7 rfl rfl rfl <| vN <| tw_p rfl <| jE7 rfl rfl rfl <| vN ?_
   refine tw_g rfl <| sS0 0 tyS52 ?_
   refine sN ⟨pH [1] rfl, ?_⟩
   refine tw_p rfl <| jE3 rfl rfl <| vN <| tw_p rfl <| jE3 rfl rfl <| vN <| jH1 <| ⟨g1, trivial, kR rfl, kC 1 rfl⟩
  ·refine tw_p rfl <| jA5 ?_
   refine vN <| tw_p rfl <| jC0 rfl rfl <| vN <| tw_p rfl <| jA3 jL7 ?_
   refine vN <| tw_p rfl ?_
   first | refine jD6 0 rfl rfl tyA72 tyS72 rfl rfl ?_
   refine vN <| tw_p rfl <| jA5 ?_
   refine vN <| tw_p rfl <| jC0 rfl rfl <| vN <| tw_p rfl <| jA3 kC9 ?_
   refine vN <| tw_p rfl ?_
   first | refine jD6 0 rfl rfl tyA3 tyS3 rfl rfl ?_
   refine vN <| tw_g rfl <| jO9 (l := M) Tryz.underlying72 Tryz.underlying5 Tryz.underlying9 rfl (fun w hw => jL3 (e := 5) hv3 (by rw [jF9, qN]) (fun x hx => by simp only [l9, lW, hx, true_or, or_true]) hw) rfl ?_
   refine sN ⟨pH [0] rfl, ?_⟩
   refine tw_g rfl <| sAl tyZ52 rfl (fun g1 => sN ⟨pH [1] rfl, ?_⟩)
   refine tw_g rfl <| sCP0 f1 ?_
   refine sN ⟨pH [1] rfl, ?_⟩
   refine tw_p rfl <| jA5 ?_
   refine vN <| tw_p rfl <| jE7 rfl rfl rfl <| vN <| tw_p rfl <| jE7 rfl rfl rfl <| vN <| tw_p rfl <| jE7 rfl rfl rfl <| vN ?_
   refine tw_g rfl <| sS0 0 tyS52 ?_
   refine sN ⟨pH [1] rfl, ?_⟩
   refine tw_p rfl <| jE3 rfl rfl <| vN <| tw_p rfl <| jE3 rfl rfl <| vN <| jH1 <| ⟨g1, trivial, kR rfl, kC 1 rfl⟩
  rintro gj -
  refine aS <| aR fun Z hZ => sMN hZ rfl rfl <| f6K 0 6 7 8 9 44 rfl <| aB <| aR (fun Z hZ => jB1 ?_)
  refine sAN hZ rfl rfl <| f7K 0 6 7 8 9 44 45 rfl <| aC0 (fun h4 => ?_) (fun h4 => ?_)
  ·cases h4
  refine aR (fun Z hZ => jB1 ?_)
  refine sAN hZ rfl rfl <| f4K 0 6 9 54 rfl <| aC0 (fun h5 => ?_) (fun h5 => ?_)
  ·refine aR (fun Z hZ => ?_)
   refine sM rfl rfl <| sA rfl rfl <| sAN hZ rfl rfl ?_
   refine f2K 4 5 rfl ?_
   refine aE ?_
   repeat (with_reducible (first | refine nTR ?_ | refine nBR ?_))
   exact jD8 ([fdE g (.slice A3 M.length c3)] ++ (rowE (.slice A3 M.length c3) 5 1 (bv M) ++ rpK F out X)) rfl rfl rfl (hV _) ⟨X, R', M, _, _, hX, hM, h3, hv3, ho, rfl, rfl⟩
  cases h5
 have hApos := kZ9 a b F
 have hMlen : (ansB a b F).length + M'.length = M.length := by rw [hMe, lN]
 subst hMe
 have hXl : X.length ≤ 10 := by have := hR.1; rw [hX, lN, qY] at this; omega
 have hM'l : M'.length ≤ 13000 := by omega
 obtain ⟨gl, cl, he⟩ := hv3.some (by omega)
 obtain rfl := (Value.slice.inj he).1
 obtain ⟨m, hm⟩ := xZ9 ((ansB a b F ++ M').length)
 rw [hm] at hv3
 refine jA7 ([fdE g (.slice (some ⟨gl, 0, none⟩) m c3)] ++ (rowE (.slice (some ⟨gl, 0, none⟩) m c3) 5 1 (bv (ansB a b F ++ M')) ++ rpK F out X)) (by rw [← hm]; exact hV _) ?_
 refine jV2 (fun j : Nat × Nat × Nat => [(0, ptr g 0), (6, out), (7, ptr j.1 0), (8, iq ((ansB a b F).length : Nat)), (9, iq 0)]) (fun j => .own j.1 52 (rpC F ((j.2.1, j.2.2), (a, b))) :: (([fdE g (.slice (some ⟨gl, 0, none⟩) m c3)] ++ (rowE (.slice (some ⟨gl, 0, none⟩) m c3) 5 1 (bv (ansB a b F ++ M')) ++ rpK F out X)) ++ [rpH F ((j.2.1, j.2.2), (a, b))])) (fun _ => True) _ [4, 9, 14, 15] [(0, true), (1, true), (2, true), (3, true), (5, true), (6, true), (7, true), (8, true), (4, false), (9, false), (10, true), (11, true), (12, true), (13, true), (14, false), (15, false), (16, true), (17, true)] [(0, true), (1, true), (2, true), (3, true), (5, true), (6, true), (7, true), (8, true), (14, false), (4, false), (9, false), (10, true), (11, true), (12, true), (13, true), (15, false), (16, true), (17, true)] [(0, true), (1, true), (2, true), (3, true), (5, true), (6, true), (7, true), (8, true), (4, false), (14, false), (9, false), (10, true), (11, true), (12, true), (13, true), (15, false), (16, true), (17, true)] jF1 (by kernel_rfl) (HLe.pick [0] (by simp) (by simp only [pick, l8, lY]; rfl)) ?_ ?_ ?_ ?_
 ·refine tw_p rfl <| jA5 ?_
  refine vN <| tw_p rfl <| jC0 rfl rfl <| vN <| tw_p rfl <| jA3 jL7 ?_
  refine vN <| tw_p rfl ?_
  first | refine jD6 0 rfl rfl tyA72 tyS72 rfl rfl ?_
  refine vN <| tw_p rfl <| jA5 ?_
  refine vN <| tw_p rfl <| jC0 rfl rfl <| vN <| tw_p rfl <| jA3 kC9 ?_
  refine vN <| tw_p rfl ?_
  first | refine jD6 0 rfl rfl tyA3 tyS3 rfl rfl ?_
  refine vN <| tw_g rfl <| jO9 (l := ansB a b F ++ M') Tryz.underlying72 Tryz.underlying5 Tryz.underlying9 rfl (fun w hw => jL3 (e := 5) hv3 (by rw [jF9, qN, hm]) (fun x hx => by simp only [l9, lW, hx, true_or, or_true]) hw) rfl ?_
  refine sN ⟨pH [0] rfl, ?_⟩
  refine tw_g rfl <| jB4 [] _ f1 rfl (hV _) rfl ?_
  rintro w H' ⟨gf, cf, rfl, rfl⟩
  refine jC6 (_ ++ [rpH F ((gf, cf), (a, b))]) (kD [rpH F ((gf, cf), (a, b))] _) <| sN ⟨pH [0] rfl, ?_⟩
  refine tw_p rfl <| jA5 ?_
  refine vN <| tw_p rfl <| jE7 rfl rfl rfl <| vN <| tw_p rfl <| jE7 rfl rfl rfl <| vN <| tw_p rfl <| jE7 rfl rfl rfl <| vN ?_
  refine tw_g rfl <| sAl tyZ52 rfl (fun g2 => sN ⟨pH [1] rfl, ?_⟩)
  refine tw_g rfl <| sS0 0 tyS52 ?_
  refine sN ⟨pH [1] rfl, ?_⟩
  refine tw_p rfl <| jE3 rfl rfl <| vN <| tw_p rfl <| jE3 rfl rfl <| vN <| jH1 <| ⟨(g2, gf, cf), trivial, kR rfl, hV _⟩
 ·refine tw_p rfl <| jA5 ?_
  refine vN <| tw_p rfl <| jC0 rfl rfl <| vN <| tw_p rfl <| jA3 jL7 ?_
  refine vN <| tw_p rfl ?_
  first | refine jD6 0 rfl rfl tyA72 tyS72 rfl rfl ?_
  refine vN <| tw_p rfl <| jA5 ?_
  refine vN <| tw_p rfl <| jC0 rfl rfl <| vN <| tw_p rfl <| jA3 kC9 ?_
  refine vN <| tw_p rfl ?_
  first | refine jD6 0 rfl rfl tyA3 tyS3 rfl rfl ?_
  refine vN <| tw_g rfl <| sAl tyZ52 rfl (fun g2 => sN ⟨pH [1] rfl, ?_⟩)
  refine tw_g rfl <| jO9 (l := ansB a b F ++ M') Tryz.underlying72 Tryz.underlying5 Tryz.underlying9 rfl (fun w hw => jL3 (e := 5) hv3 (by rw [jF9, qN, hm]) (fun x hx => by simp only [l9, lW, hx, true_or, or_true]) hw) rfl ?_
  refine sN ⟨pH [1] rfl, ?_⟩
  refine tw_g rfl <| jB4 [] _ f1 rfl (hV _) rfl ?_
  rintro w H' ⟨gf, cf, rfl, rfl⟩
  refine jC6 (_ ++ [rpH F ((gf, cf), (a, b))]) (kD [rpH F ((gf, cf), (a, b))] _) <| sN ⟨pH [1] rfl, ?_⟩
  refine tw_p rfl <| jA5 ?_
  refine vN <| tw_p rfl <| jE7 rfl rfl rfl <| vN <| tw_p rfl <| jE7 rfl rfl rfl <| vN <| tw_p rfl <| jE7 rfl rfl rfl <| vN ?_
  refine tw_g rfl <| sS0 0 tyS52 ?_
  refine sN ⟨pH [1] rfl, ?_⟩
  refine tw_p rfl <| jE3 rfl rfl <| vN <| tw_p rfl <| jE3 rfl rfl <| vN <| jH1 <| ⟨(g2, gf, cf), trivial, kR rfl, hV _⟩
 ·refine tw_p rfl <| jA5 ?_
  refine vN <| tw_p rfl <| jC0 rfl rfl <| vN <| tw_p rfl <| jA3 jL7 ?_
  refine vN <| tw_p rfl ?_
  first | refine jD6 0 rfl rfl tyA72 tyS72 rfl rfl ?_
  refine vN <| tw_p rfl <| jA5 ?_
  refine vN <| tw_p rfl <| jC0 rfl rfl <| vN <| tw_p rfl <| jA3 kC9 ?_
  refine vN <| tw_p rfl ?_
  first | refine jD6 0 rfl rfl tyA3 tyS3 rfl rfl ?_
  refine vN <| tw_g rfl <| jO9 (l := ansB a b F ++ M') Tryz.underlying72 Tryz.underlying5 Tryz.underlying9 rfl (fun w hw => jL3 (e := 5) hv3 (by rw [jF9, qN, hm]) (fun x hx => by simp only [l9, lW, hx, true_or, or_true]) hw) rfl ?_
  refine sN ⟨pH [0] rfl, ?_⟩
  refine tw_g rfl <| sAl tyZ52 rfl (fun g2 => sN ⟨pH [1] rfl, ?_⟩)
  refine tw_g rfl <| jB4 [] _ f1 rfl (hV _) rfl ?_
  rintro w H' ⟨gf, cf, rfl, rfl⟩
  refine jC6 (_ ++ [rpH F ((gf, cf), (a, b))]) (kD [rpH F ((gf, cf), (a, b))] _) <| sN ⟨pH [1] rfl, ?_⟩
  refine tw_p rfl <| jA5 ?_
  refine vN <| tw_p rfl <| jE7 rfl rfl rfl <| vN <| tw_p rfl <| jE7 rfl rfl rfl <| vN <| tw_p rfl <| jE7 rfl rfl rfl <| vN ?_
  refine tw_g rfl <| sS0 0 tyS52 ?_
  refine sN ⟨pH [1] rfl, ?_⟩
  refine tw_p rfl <| jE3 rfl rfl <| vN <| tw_p rfl <| jE3 rfl rfl <| vN <| jH1 <| ⟨(g2, gf, cf), trivial, kR rfl, hV _⟩
 rintro ⟨gj, gf, cf⟩ -
 refine jA7 ((.own gj 52 (rpC F ((gf, cf), (a, b))) :: ([fdE g (.slice (some ⟨gl, 0, none⟩) m c3)] ++ (rowE (.slice (some ⟨gl, 0, none⟩) m c3) 5 1 (bv (ansB a b F ++ M')) ++ (X ++ [((gf, cf), (a, b))]).map (rpH F)))) ++ rowE out 52 3 (X.flatMap (rpC F))) (HLe.ofPerm ?_) ?_
 ·simp only [x0, xR, qT, xD, qS]
  exact ((((qQ (l₁ := rowE out 52 3 (X.flatMap (rpC F))) (l₂ := [rpH F ((gf, cf), (a, b))])).append_left _).append_left _).cons _).cons _
 refine aS <| aR fun Z hZ => sMN hZ rfl rfl <| f6K 0 6 7 8 9 44 rfl <| aB <| aR (fun Z hZ => jB1 ?_)
 refine sAN hZ rfl rfl <| f7K 0 6 7 8 9 44 45 rfl <| aC0 (fun h4 => ?_) (fun h4 => ?_)
 ·refine aR (fun Z hZ => sM rfl rfl <| sLA0 0 tyA52 tyS52 ?_)
  refine sBS0 Tryz.underlying44 tyS52 tyZ52 (fun g3 => ?_)
  refine jD3 (_ :: (.own gj 52 (rpC F ((gf, cf), (a, b))) :: ([fdE g (.slice (some ⟨gl, 0, none⟩) m c3)] ++ (rowE (.slice (some ⟨gl, 0, none⟩) m c3) 5 1 (bv (ansB a b F ++ M')) ++ (X ++ [((gf, cf), (a, b))]).map (rpH F))))) yL7 rfl ho (kW4 F X) rfl (fun w hw => jI0 (i := 0) (n := 1) (xs := rpC F ((gf, cf), (a, b))) rfl rfl hw) rfl (by show _ ≤ 9223372036854775807; omega) (by omega) (hV _) rfl (fun v4 hv4 => ?_)
  refine sAN hZ rfl rfl <| f3K 0 6 8 rfl <| aR fun Z hZ => sM rfl rfl <| sM rfl rfl <| jB4 [fdE g (.slice (some ⟨gl, 0, none⟩) m c3), .ob gl (RowP 5 1 m c3 (bv (ansB a b F ++ M')))] ((X ++ [((gf, cf), (a, b))]).map (rpH F) ++ rowE v4 52 3 (X.flatMap (rpC F) ++ rpC F ((gf, cf), (a, b)))) (yZ2 g gl c3 (ansB a b F) M' (ansB a b F).length m rfl hm (by omega)) rfl (kC 2 rfl) rfl ?_
  rintro u H' ⟨rfl, v5, hv5, rfl⟩
  rw [qJ, jE2]
  refine sN (hZ _ _ <| f2K 0 6 rfl <| jB5 ?_)
  repeat (with_reducible (first | refine nTE ?_ | refine jI5 (by decide) ?_))
  refine nBE <| jC2 (X ++ [((gf, cf), (a, b))], T, M', v5, v4) ⟨by rw [hX]; simp, hM'l, hM2, hv5, by rw [lN]; exact hv4⟩ (by show T.length < T.length + 1; omega) (kR rfl) ?_
  show HLe ([fdE g v5] ++ (rowE v5 5 1 (bv M') ++ rpK F v4 (X ++ [((gf, cf), (a, b))]))) (([fdE g v5] ++ rowE v5 5 1 (bv M')) ++ ((X ++ [((gf, cf), (a, b))]).map (rpH F) ++ rowE v4 52 3 (X.flatMap (rpC F) ++ rpC F ((gf, cf), (a, b)))))
  rw [xD, rpK, show (X ++ [((gf, cf), (a, b))]).flatMap (rpC F) = X.flatMap (rpC F) ++ rpC F ((gf, cf), (a, b)) from by simp]
  exact hV _
 cases h4
theorem zQ9 (v : Value) : Fn Tryz.prog 37 [.nilIface, v] [] fun u _ => u = .bool false := by
 refine fE 42 Tryz.func37 rfl (fun w0 => aA rfl rfl <| f2K 0 1 rfl <| aS <| aR fun Z hZ => sM rfl rfl <| kV2 (r := .bool true) rfl rfl (kW) rfl <| sN (hZ _ _ <| f3K 0 1 9 rfl <| aC0 (fun h1 => ?_) (fun h1 => ?_)))
 ·refine aR (fun Z hZ => ?_)
  refine sAN hZ rfl rfl ?_
  refine f1K 4 rfl ?_
  refine aE ?_
  repeat (with_reducible refine nTR ?_)
  exact nR1 rfl rfl rfl
 cases h1
theorem yT0 (a b : Nat) : EqV Tryz.prog 10000 54 (rgV a b) (rgV a b) true := by
 have h : EqV Tryz.prog 10000 54 (rgV a b) (rgV a b) _ := EqV.struct Tryz.underlying54 (by kernel_rfl) (.cons rfl tyA3 tyS3 rfl rfl (EqV.int Tryz.underlying3) (.cons rfl tyA3 tyS3 rfl rfl (EqV.int Tryz.underlying3) .nil))
 have e : (((a : Int) == (a : Int)) && (((b : Int) == (b : Int)) && true)) = true := by simp
 rw [e] at h
 exact h
theorem yE1 : Program.eqGuardType Tryz.prog Tryz.prog.depth 54 = false := by kernel_rfl
theorem wL1 (F : Bs) (a b : Nat) (hab : a ≤ b) (hb : b < F.length) (hF : F.length ≤ 500) :
  Fn Tryz.prog 36 [.string (str (ansB a b F)), rgV a b, iq (F.length : Nat)] [] fun u _ => u = .tuple #[.string (str (cutB F a b)), .nilIface] := by
 have hcl := kC2 hab hb
 have hAl : (ansB a b F).length = (hdB (ansL a b F.length (b - a + 1))).length + (b - a + 1) := by rw [ansB, lN, hcl]
 have hAle := vA0 hab hb hF
 have hApos := kZ9 a b F
 have f1 := vX4 a b hab (by omega)
 have f2 : Fn Tryz.prog 27 [.string (str (ansB a b F)), iq ((b - a + 1 : Nat) : Int)] [] fun w H' => ∃ gf cf, w = .tuple #[.agg (rpC F ((gf, cf), (a, b))).toArray, iq ((ansB a b F).length : Nat), iq 0] ∧ H' = [rpH F ((gf, cf), (a, b))] := by
  have h1 := kL4 (ansB a b F) [] [] (cutB F a b) a b F.length (b - a + 1) (b - a + 1) (by omega) (by omega) (by omega) (by omega) hcl (xP _) (by omega) (by omega) (by rw [ansB, lH, lH])
  rw [← hAl] at h1
  exact jP3 h1 fun w H' hw => by
   rcases hw with ⟨h2, _⟩ | ⟨_, gf, cf, h2, h3⟩
   ·omega
   ·exact ⟨gf, cf, h2, h3⟩
 have f4 := yQ0 a b F.length hab hb (by omega)
 obtain ⟨n, hn⟩ := xZ9 ((ansB a b F).length)
 rw [hn] at f2
 obtain ⟨m, hm⟩ := xZ9 (b - a + 1)
 rw [hm] at f1 f2
 refine fE 90 Tryz.func36 rfl (fun w0 => aR (fun Z hZ => jB2 (fun g1 => ?_)))
 refine sA rfl rfl <| sAN hZ rfl rfl <| f3K 0 2 4 rfl <| aS <| aR fun Z hZ => sM rfl rfl <| jQ1 rfl rfl rfl <| sN (hZ _ _ <| f4K 0 2 4 15 rfl <| aC0 (fun h1 => ?_) (fun h1 => ?_))
 ·have h2 := congrArg List.length (eq_of_beq (show (ansB a b F == []) = true from h1))
  simp only [lF] at h2
  omega
 refine aK <| nN <| aR fun Z hZ => sM rfl rfl ?_
 first | refine sLA0 0 tyA54 tyS54 ?_
 refine sCP0 f1 ?_
 refine jB4 [] [.own g1 54 [iq (a : Nat), iq (b : Nat)]] f2 rfl (hV _) rfl ?_
 rintro w H' ⟨gf, cf, rfl, rfl⟩
 refine jC6 [.own g1 54 [iq (a : Nat), iq (b : Nat)], rpH F ((gf, cf), (a, b))] (pH [1, 0] rfl) <| sM rfl rfl <| sX rfl rfl rfl <| sX rfl rfl rfl <| sX rfl rfl rfl <| sAl tyZ52 rfl (fun g2 => sS0 0 tyS52 ?_)
 refine sA rfl rfl <| sAN hZ rfl rfl <| f6K 0 2 4 8 9 10 rfl <| jA7 [.own g2 52 (rpC F ((gf, cf), (a, b))), .own g1 54 [iq (a : Nat), iq (b : Nat)], .ro gf 0 (fcs [(crS, jF6 a b F.length)])] (HLe.rowRo [_, _] []) <| aS (aB <| aR fun Z hZ => sM rfl rfl <| jA6 ?_)
 refine sAN hZ rfl rfl <| f7K 0 2 4 8 9 10 26 rfl <| aC0 (fun h2 => ?_) (fun h2 => ?_)
 ·cases h2
 refine aR fun Z hZ => sM rfl rfl <| sM rfl rfl <| jC8 Tryz.underlying9 rfl rfl <| jB0 ?_
 refine sAN hZ rfl rfl <| f4K 2 4 8 32 rfl <| aC0 (fun h3 => ?_) (fun h3 => ?_)
 ·simp [hn] at h3
 refine aR (fun Z hZ => sFA0 vH7 ?_)
 refine sL0 0 tyA3 tyS3 ?_
 refine jA6 ?_
 refine sAN hZ rfl rfl <| f4K 2 4 8 39 rfl <| aC0 (fun h4 => ?_) (fun h4 => ?_)
 ·cases h4
 refine aK ?_
 repeat (with_reducible refine nBN ?_)
 refine nN ?_
 have f3 := kY4 gf 0 cf [(crS, jF6 a b F.length)] crS (jF6 a b F.length) 0 rfl (fun j x hj hx => by
  match j, hj with
  | 0, _ => rfl
  | j + 1, hj => simp at hj) (by simp)
 refine aR (fun Z hZ => sFA0 jT3 ?_)
 refine sL0 0 tyA50 tyS50 ?_
 refine jD7 [.ro gf 0 (fcs [(crS, jF6 a b F.length)])] f3 rfl (by repeat (first | exact xO _ | exact lO _ | exact lX _ _ | refine qI ?_ (xE _ _) | exact xJ _ (lO _) | refine qA _ ?_)) (kG (some ⟨gf, 0, none⟩) _) rfl ?_
 refine sM rfl rfl <| sX rfl rfl rfl <| sX rfl rfl rfl <| sA rfl rfl <| sAN hZ rfl rfl <| f5K 2 4 8 10 11 rfl <| aS <| aR fun Z hZ => sM rfl rfl <| jA6 ?_
 refine sN (hZ _ _ <| f6K 2 4 8 10 11 52 rfl <| aC0 (fun h5 => ?_) (fun h5 => ?_))
 ·cases h5
 refine aK <| nN <| aR fun Z hZ => sM rfl rfl <| sCP0 f4 ?_
 refine sM rfl rfl <| sX rfl rfl rfl <| sX rfl rfl rfl <| sX rfl rfl rfl <| sAl tyZ54 rfl (fun g3 => sS0 0 tyS54 ?_)
 refine sA rfl rfl <| sAN hZ rfl rfl <| f6K 2 4 8 10 12 13 rfl <| aS (aB <| aR fun Z hZ => sM rfl rfl <| jA6 ?_)
 refine sAN hZ rfl rfl <| f7K 2 4 8 10 12 13 62 rfl <| aC0 (fun h6 => ?_) (fun h6 => ?_)
 ·cases h6
 refine jA0 [(4, ptr g1 0), (8, ptr g2 0), (68, .bool false)] [.own g3 54 [iq (a : Nat), iq (b : Nat)], .own g2 52 (rpC F ((gf, cf), (a, b))), .own g1 54 [iq (a : Nat), iq (b : Nat)], .ro gf 0 (fcs [(crS, jF6 a b F.length)])] (fun Z hZ => ?_) ?_
 ·refine sLA0 0 tyA54 tyS54 ?_
  refine sLA0 2 tyA54 tyS54 ?_
  refine yQ7 (xs := [iq (a : Nat), iq (b : Nat)]) (ys := [iq (a : Nat), iq (b : Nat)]) (yT0 a b) yE1 rfl rfl rfl <| sM rfl rfl <| jB9 72 rfl false (by rfl) ?_
  refine sOn0 ?_
  refine sM rfl rfl <| sOn0 ?_
  refine sM rfl rfl <| sOn0 ?_
  refine jA6 ?_
  refine sP rfl rfl rfl <| sA rfl rfl <| sN (hZ _ _ ?_ ?_)
  ·exact kE rfl (kE rfl (kE (by first | rfl | exact congrArg some (congrArg Value.bool (by simp))) kF))
  ·exact hV _
 refine aC0 (fun h7 => ?_) (fun h7 => ?_)
 ·cases h7
 refine jC1 jF1 (by kernel_rfl) (fun Z hZ => ?_)
 refine qFA0 kJ6 ?_
 refine jA9 1 tyA9 tyS9 ?_
 refine jP0 Tryz.underlying9 rfl rfl <| jM6 2 rfl rfl tyA54 tyS54 rfl (by simp only [qS]; rfl) rfl ?_
 refine jG2 f1 rfl rfl <| vC5 rfl rfl rfl <| jB8 rfl rfl <| jE9 (hZ _ _ <| f2K 8 79 rfl <| aC0 (fun h8 => ?_) (fun h8 => ?_))
 ·rw [hcl, hm] at h8
  simp at h8
 refine aK ?_
 repeat (with_reducible refine nBN ?_)
 refine nN ?_
 refine aR (fun Z hZ => ?_)
 refine sFA0 kJ6 ?_
 refine sL0 1 tyA9 tyS9 ?_
 refine sA rfl rfl <| sAN hZ rfl rfl <| f2K 6 7 rfl <| aE <| jF3 rfl rfl rfl rfl
theorem yD2 (F : Bs) (a b : Nat) (hab : a ≤ b) (hb : b < F.length) (hF : F.length ≤ 500) :
  Fn Tryz.prog 13 [.string (str (ansB a b F)), rgV a b, iq (F.length : Nat)] [] fun u _ => u = .tuple #[.string (str (cutB F a b)), iq 0] := by
 have f1 := wL1 F a b hab hb hF
 refine fE 24 Tryz.func13 rfl (fun w0 => aR (fun Z hZ => jB2 (fun g1 => ?_)))
 refine sA rfl rfl <| sAN hZ rfl rfl <| f3K 0 2 4 rfl <| aR fun Z hZ => sM rfl rfl ?_
 first | refine sLA0 0 tyA54 tyS54 ?_
 refine sM rfl rfl <| sCP0 f1 ?_
 refine sM rfl rfl <| sX rfl rfl rfl <| sX rfl rfl rfl <| sA rfl rfl <| sAN hZ rfl rfl <| f2K 8 9 rfl <| aR (fun Z hZ => sAl tyZ105 rfl (fun g2 => sN (hZ _ _ <| f3K 8 9 10 rfl <| aS <| aR fun Z hZ => sM rfl rfl <| jQ7 (t := 107) Tryz.underlying107 rfl rfl rfl <| sCP0 (zQ9 _) ?_)))
 refine sN (hZ _ _ <| f3K 8 10 20 rfl <| aC0 (fun h1 => ?_) (fun h1 => ?_))
 ·cases h1
 refine aK <| nN <| aR fun Z hZ => sM rfl rfl <| sA rfl rfl <| sAN hZ rfl rfl <| f2K 6 7 rfl <| aE <| jF3 rfl rfl rfl rfl
theorem wI3 (n : Nat) (hn : n ≤ 9007199254740991) : Fn Tryz.prog 56 [iq (n : Nat)] [] fun v _ => v = .string (str (dd n)) := by
 induction n using Nat.strongRecOn with
 | _ n ih =>
  by_cases hs : n < 10
  ·refine fE 18 Tryz.func56 rfl (fun w0 => aA rfl rfl <| f1K 0 rfl <| aS <| aR fun Z hZ => sM rfl rfl <| jB0 ?_)
   refine sN (hZ _ _ <| f2K 0 4 rfl <| aC0 (fun h1 => ?_) (fun h1 => ?_))
   ·simp at h1; omega
   refine aK <| nN <| aS <| aR fun Z hZ => sM rfl rfl <| jB0 ?_
   refine sN (hZ _ _ <| f2K 0 6 rfl <| aC0 (fun h2 => ?_) (fun h2 => ?_))
   ·have hsl : (digs.drop (n : Int).toNat).take (((n + 1 : Nat) : Int).toNat - (n : Int).toNat) = dd n := by
     rw [jL5 hs]
     have h10 : n = 0 ∨ n = 1 ∨ n = 2 ∨ n = 3 ∨ n = 4 ∨ n = 5 ∨ n = 6 ∨ n = 7 ∨ n = 8 ∨ n = 9 := by omega
     rcases h10 with rfl | rfl | rfl | rfl | rfl | rfl | rfl | rfl | rfl | rfl <;> rfl
    refine aR fun Z hZ => sM rfl rfl <| sM rfl rfl ?_
    refine jB7 rfl rfl ((n + 1 : Nat) : Int) (by rw [lT _ (by omega)]; omega) rfl ?_
    refine jF7 (l := digs) (dd n) Tryz.underlying9 rfl rfl rfl (by omega) (by omega) (by show _ ≤ (10 : Int); omega) hsl rfl ?_
    refine sAN hZ rfl rfl ?_
    refine f1K 2 rfl ?_
    refine aE ?_
    repeat (with_reducible refine nTR ?_)
    exact nR1 rfl rfl rfl
   simp at h2; omega
  ·have f1 := ih (n / 10) (by omega) (by omega)
   have f2 := ih (n % 10) (by omega) (by omega)
   have hd : dd n = dd (n / 10) ++ dd (n % 10) := by rw [jX0 hs, jL5 (n := n % 10) (by omega)]
   have hl := kG0 15 n (by omega)
   rw [hd] at hl ⊢
   rw [lN] at hl
   refine fE 18 Tryz.func56 rfl (fun w0 => aA rfl rfl <| f1K 0 rfl <| aS <| aR fun Z hZ => sM rfl rfl <| jB0 ?_)
   refine sN (hZ _ _ <| f2K 0 4 rfl <| aC0 (fun h1 => ?_) (fun h1 => ?_))
   ·simp at h1; omega
   refine aK <| nN <| aS <| aR fun Z hZ => sM rfl rfl <| jB0 ?_
   refine sN (hZ _ _ <| f2K 0 6 rfl <| aC0 (fun h2 => ?_) (fun h2 => ?_))
   ·simp at h2; omega
   refine aK <| nN <| aR fun Z hZ => sM rfl rfl <| vB2 rfl rfl (by decide) ((n / 10 : Nat) : Int) (by rw [Int.tdiv_eq_ediv_of_nonneg (by omega)]; rw [lT _ (by omega)]; omega) rfl ?_
   refine sCP0 f1 ?_
   refine sM rfl rfl <| vP2 rfl rfl (by decide) ((n % 10 : Nat) : Int) (by rw [Int.tmod_eq_emod_of_nonneg (by omega)]; omega) rfl ?_
   refine sCP0 f2 ?_
   refine jN3 rfl rfl (by omega) rfl ?_
   refine sAN hZ rfl rfl <| f1K 2 rfl <| aE <| nR10 rfl
theorem wZ8 (p : Bs) (hp : jQ5 p) : Fn Tryz.prog 53 [.string (str p)] [] fun v _ => v = .bool true := by
 have hl := hp.2.1
 have h0 : 1 ≤ p.length := by have := (List.getElem?_eq_some_iff.1 hp.1).1; omega
 refine fE 33 Tryz.func53 rfl (fun w0 => aA rfl rfl <| f1K 0 rfl <| aS <| aA rfl rfl <| f2K 0 3 rfl <| aB <| jC3 (ι := Nat) (fun i => [(0, .string (str p)), (3, iq (i : Nat))]) (fun _ => []) (fun i => i ≤ p.length) (fun i => p.length - i) 0 (lZ _) (kR rfl) (hV _) ?_)
 intro i hi
 refine aS <| aR fun Z hZ => sM rfl rfl <| sM rfl rfl <| jC8 Tryz.underlying9 rfl rfl <| jB0 ?_
 refine sN (hZ _ _ <| f3K 0 3 7 rfl <| aC0 (fun h1 => ?_) (fun h1 => ?_))
 ·have hlt : i < p.length := by simpa using h1
  obtain ⟨x, hx⟩ : ∃ x, p[i]? = some x := ⟨_, xF hlt⟩
  have hxp := List.all_eq_true.1 hp.2.2 x (xN hx)
  have hxp : 33 ≤ x.toNat ∧ x.toNat ≤ 126 := by simpa [pthN] using hxp
  refine aK <| nN <| aS (aB <| jA0 [(0, .string (str p)), (3, iq (i : Nat)), (19, .bool false)] [] (fun Z hZ => ?_) ?_)
  ·refine sM rfl rfl <| sM rfl rfl <| jE6 Tryz.underlying9 rfl rfl (by omega) (by simpa using hx) rfl ?_
   refine jB0 ?_
   refine sM rfl rfl <| jB9 14 rfl false (by (simp; omega)) ?_
   refine sOn0 ?_
   refine sM rfl rfl <| sOn0 ?_
   refine sM rfl rfl <| sOn0 ?_
   refine jE6 Tryz.underlying9 rfl rfl (by omega) (by simpa using hx) rfl ?_
   refine sOn0 ?_
   refine jC4 ?_
   refine sP0 ?_
   refine sN (hZ _ _ ?_ ?_)
   ·exact kE rfl (kE rfl (kE (congrArg some (congrArg Value.bool (by simp; omega))) kF))
   ·exact hV _
  refine aC0 (fun h2 => ?_) (fun h2 => ?_)
  ·cases h2
  refine aK ?_
  repeat (with_reducible refine nBN ?_)
  refine nN ?_
  refine aG (fun Z hZ => ?_)
  refine sM rfl rfl ?_
  refine jB7 rfl rfl ((i + 1 : Nat) : Int) (by rw [lT _ (by omega)]; omega) rfl ?_
  refine sAN hZ rfl rfl <| nF [(0, _), (3, _)] (kR rfl) <| jC2 (i + 1) hlt (by omega) (kR rfl) (hV _)
 ·refine jB5 ?_
  repeat (with_reducible refine nTE ?_)
  refine nBE ?_
  refine nN ?_
  refine jA0 [(2, .bool true)] [] (fun Z hZ => ?_) ?_
  ·refine sM rfl rfl <| jC8 Tryz.underlying9 rfl rfl <| jH7 rfl rfl rfl <| sM rfl rfl <| jB9 23 rfl true (by (simp; try omega)) ?_
   refine sOn0 ?_
   refine sM rfl rfl <| sOn0 ?_
   refine jC8 Tryz.underlying9 rfl rfl <| sOn0 ?_
   refine jI2 rfl rfl rfl <| sP rfl rfl rfl <| sM rfl rfl <| jB9 28 rfl true (by (simp; try omega)) ?_
   refine sOn0 ?_
   refine sM rfl rfl <| sOn0 ?_
   refine jE6 (c := 47) Tryz.underlying9 rfl rfl (by omega) (by simpa using hp.1) rfl ?_
   refine sOn0 ?_
   refine jB1 ?_
   refine sP rfl rfl rfl <| sA rfl rfl <| sN (hZ _ _ ?_ ?_)
   ·exact kE rfl kF
   ·exact hV _
  refine aE <| nR10 rfl
theorem yA1 (h : Bs) (hh : jP6 h) : Fn Tryz.prog 54 [.string (str h)] [] fun v _ => v = .bool true := by
 have hl := hh.2.1
 have h0 : 1 ≤ h.length := List.length_pos_iff.2 hh.1
 refine fE 52 Tryz.func54 rfl (fun w0 => aA rfl rfl <| f1K 0 rfl <| aS <| aA rfl rfl <| f2K 0 3 rfl <| aB <| jC3 (ι := Nat) (fun i => [(0, .string (str h)), (3, iq (i : Nat))]) (fun _ => []) (fun i => i ≤ h.length) (fun i => h.length - i) 0 (lZ _) (kR rfl) (hV _) ?_)
 intro i hi
 refine aS <| aR fun Z hZ => sM rfl rfl <| sM rfl rfl <| jC8 Tryz.underlying9 rfl rfl <| jB0 ?_
 refine sN (hZ _ _ <| f3K 0 3 7 rfl <| aC0 (fun h1 => ?_) (fun h1 => ?_))
 ·have hlt : i < h.length := by simpa using h1
  obtain ⟨x, hx⟩ : ∃ x, h[i]? = some x := ⟨_, xF hlt⟩
  have hxp := List.all_eq_true.1 hh.2.2 x (xN hx)
  have hxp : (97 ≤ x.toNat ∧ x.toNat ≤ 122) ∨ (48 ≤ x.toNat ∧ x.toNat ≤ 57) ∨ x.toNat = 45 ∨ x.toNat = 46 := by simpa [hstN] using hxp
  refine aK <| nN <| aS (aB <| jA0 [(0, .string (str h)), (3, iq (i : Nat)), (43, .bool false)] [] (fun Z hZ => ?_) ?_)
  ·refine sM rfl rfl <| sM rfl rfl <| jE6 Tryz.underlying9 rfl rfl (by omega) (by simpa using hx) rfl ?_
   refine jB0 ?_
   refine sM rfl rfl <| jB3 14 rfl (fun hb4 => ?_) (fun hb4 => ?_)
   ·refine sO0 ?_
    refine sO0 ?_
    refine sO0 ?_
    refine sO0 ?_
    refine sP rfl rfl rfl <| sM rfl rfl <| sOn0 ?_
    refine sM rfl rfl <| sOn0 ?_
    refine sM rfl rfl <| sOn0 ?_
    refine jE6 Tryz.underlying9 rfl rfl (by omega) (by simpa using hx) rfl ?_
    refine sOn0 ?_
    refine jB0 ?_
    refine sOn0 ?_
    refine sM rfl rfl <| jB3 25 rfl (fun hb15 => ?_) (fun hb15 => ?_)
    ·refine sO0 ?_
     refine sO0 ?_
     refine sO0 ?_
     refine sO0 ?_
     refine sOn0 ?_
     refine sP rfl rfl rfl <| sP rfl rfl rfl <| sM rfl rfl <| sOn0 ?_
     refine sM rfl rfl <| sOn0 ?_
     refine sM rfl rfl <| sOn0 ?_
     refine jE6 Tryz.underlying9 rfl rfl (by omega) (by simpa using hx) rfl ?_
     refine sOn0 ?_
     refine jA6 ?_
     refine sP rfl rfl rfl <| sM rfl rfl <| jB3 38 rfl (fun hb28 => ?_) (fun hb28 => ?_)
     ·refine sOn0 ?_
      refine sM rfl rfl <| sOn0 ?_
      refine sM rfl rfl <| sOn0 ?_
      refine jE6 Tryz.underlying9 rfl rfl (by omega) (by simpa using hx) rfl ?_
      refine sOn0 ?_
      refine jA6 ?_
      refine sP0 ?_
      refine sN (hZ _ _ ?_ ?_)
      ·exact kE rfl (kE rfl (kE (congrArg some (congrArg Value.bool (by first | rfl | (simp at *; omega)))) kF))
      ·exact hV _
     ·refine sO0 ?_
      refine sO0 ?_
      refine sO0 ?_
      refine sO0 ?_
      refine sP0 ?_
      refine sN (hZ _ _ ?_ ?_)
      ·exact kE rfl (kE rfl (kE (congrArg some (congrArg Value.bool (by first | rfl | (simp at *; omega)))) kF))
      ·exact hV _
    ·refine sOn0 ?_
     refine sM rfl rfl <| sOn0 ?_
     refine sM rfl rfl <| sOn0 ?_
     refine jE6 Tryz.underlying9 rfl rfl (by omega) (by simpa using hx) rfl ?_
     refine sOn0 ?_
     refine jC4 ?_
     refine sOn0 ?_
     refine sP rfl rfl rfl <| sP rfl rfl rfl <| sM rfl rfl <| jB3 32 rfl (fun hb22 => ?_) (fun hb22 => ?_)
     ·refine sOn0 ?_
      refine sM rfl rfl <| sOn0 ?_
      refine sM rfl rfl <| sOn0 ?_
      refine jE6 Tryz.underlying9 rfl rfl (by omega) (by simpa using hx) rfl ?_
      refine sOn0 ?_
      refine jA6 ?_
      refine sP rfl rfl rfl <| sM rfl rfl <| jB3 38 rfl (fun hb28 => ?_) (fun hb28 => ?_)
      ·refine sOn0 ?_
       refine sM rfl rfl <| sOn0 ?_
       refine sM rfl rfl <| sOn0 ?_
       refine jE6 Tryz.underlying9 rfl rfl (by omega) (by simpa using hx) rfl ?_
       refine sOn0 ?_
       refine jA6 ?_
       refine sP0 ?_
       refine sN (hZ _ _ ?_ ?_)
       ·exact kE rfl (kE rfl (kE (congrArg some (congrArg Value.bool (by first | rfl | (simp at *; omega)))) kF))
       ·exact hV _
      ·refine sO0 ?_
       refine sO0 ?_
       refine sO0 ?_
       refine sO0 ?_
       refine sP0 ?_
       refine sN (hZ _ _ ?_ ?_)
       ·exact kE rfl (kE rfl (kE (congrArg some (congrArg Value.bool (by first | rfl | (simp at *; omega)))) kF))
       ·exact hV _
     ·refine sO0 ?_
      refine sO0 ?_
      refine sO0 ?_
      refine sO0 ?_
      refine sP rfl rfl rfl <| sM rfl rfl <| sO0 ?_
      refine sO0 ?_
      refine sO0 ?_
      refine sO0 ?_
      refine sP0 ?_
      refine sN (hZ _ _ ?_ ?_)
      ·exact kE rfl (kE rfl (kE (congrArg some (congrArg Value.bool (by first | rfl | (simp at *; omega)))) kF))
      ·exact hV _
   ·refine sOn0 ?_
    refine sM rfl rfl <| sOn0 ?_
    refine sM rfl rfl <| sOn0 ?_
    refine jE6 Tryz.underlying9 rfl rfl (by omega) (by simpa using hx) rfl ?_
    refine sOn0 ?_
    refine jC4 ?_
    refine sP rfl rfl rfl <| sM rfl rfl <| jB3 20 rfl (fun hb10 => ?_) (fun hb10 => ?_)
    ·refine sOn0 ?_
     refine sM rfl rfl <| sOn0 ?_
     refine sM rfl rfl <| sOn0 ?_
     refine jE6 Tryz.underlying9 rfl rfl (by omega) (by simpa using hx) rfl ?_
     refine sOn0 ?_
     refine jB0 ?_
     refine sOn0 ?_
     refine sM rfl rfl <| jB3 25 rfl (fun hb15 => ?_) (fun hb15 => ?_)
     ·refine sO0 ?_
      refine sO0 ?_
      refine sO0 ?_
      refine sO0 ?_
      refine sOn0 ?_
      refine sP rfl rfl rfl <| sP rfl rfl rfl <| sM rfl rfl <| sOn0 ?_
      refine sM rfl rfl <| sOn0 ?_
      refine sM rfl rfl <| sOn0 ?_
      refine jE6 Tryz.underlying9 rfl rfl (by omega) (by simpa using hx) rfl ?_
      refine sOn0 ?_
      refine jA6 ?_
      refine sP rfl rfl rfl <| sM rfl rfl <| jB3 38 rfl (fun hb28 => ?_) (fun hb28 => ?_)
      ·refine sOn0 ?_
       refine sM rfl rfl <| sOn0 ?_
       refine sM rfl rfl <| sOn0 ?_
       refine jE6 Tryz.underlying9 rfl rfl (by omega) (by simpa using hx) rfl ?_
       refine sOn0 ?_
       refine jA6 ?_
       refine sP0 ?_
       refine sN (hZ _ _ ?_ ?_)
       ·exact kE rfl (kE rfl (kE (congrArg some (congrArg Value.bool (by first | rfl | (simp at *; omega)))) kF))
       ·exact hV _
      ·refine sO0 ?_
       refine sO0 ?_
       refine sO0 ?_
       refine sO0 ?_
       refine sP0 ?_
       refine sN (hZ _ _ ?_ ?_)
       ·exact kE rfl (kE rfl (kE (congrArg some (congrArg Value.bool (by first | rfl | (simp at *; omega)))) kF))
       ·exact hV _
     ·refine sOn0 ?_
      refine sM rfl rfl <| sOn0 ?_
      refine sM rfl rfl <| sOn0 ?_
      refine jE6 Tryz.underlying9 rfl rfl (by omega) (by simpa using hx) rfl ?_
      refine sOn0 ?_
      refine jC4 ?_
      refine sOn0 ?_
      refine sP rfl rfl rfl <| sP rfl rfl rfl <| sM rfl rfl <| jB3 32 rfl (fun hb22 => ?_) (fun hb22 => ?_)
      ·refine sOn0 ?_
       refine sM rfl rfl <| sOn0 ?_
       refine sM rfl rfl <| sOn0 ?_
       refine jE6 Tryz.underlying9 rfl rfl (by omega) (by simpa using hx) rfl ?_
       refine sOn0 ?_
       refine jA6 ?_
       refine sP rfl rfl rfl <| sM rfl rfl <| jB3 38 rfl (fun hb28 => ?_) (fun hb28 => ?_)
       ·refine sOn0 ?_
        refine sM rfl rfl <| sOn0 ?_
        refine sM rfl rfl <| sOn0 ?_
        refine jE6 Tryz.underlying9 rfl rfl (by omega) (by simpa using hx) rfl ?_
        refine sOn0 ?_
        refine jA6 ?_
        refine sP0 ?_
        refine sN (hZ _ _ ?_ ?_)
        ·exact kE rfl (kE rfl (kE (congrArg some (congrArg Value.bool (by first | rfl | (simp at *; omega)))) kF))
        ·exact hV _
       ·refine sO0 ?_
        refine sO0 ?_
        refine sO0 ?_
        refine sO0 ?_
        refine sP0 ?_
        refine sN (hZ _ _ ?_ ?_)
        ·exact kE rfl (kE rfl (kE (congrArg some (congrArg Value.bool (by first | rfl | (simp at *; omega)))) kF))
        ·exact hV _
      ·refine sO0 ?_
       refine sO0 ?_
       refine sO0 ?_
       refine sO0 ?_
       refine sP rfl rfl rfl <| sM rfl rfl <| sO0 ?_
       refine sO0 ?_
       refine sO0 ?_
       refine sO0 ?_
       refine sP0 ?_
       refine sN (hZ _ _ ?_ ?_)
       ·exact kE rfl (kE rfl (kE (congrArg some (congrArg Value.bool (by first | rfl | (simp at *; omega)))) kF))
       ·exact hV _
    ·refine sO0 ?_
     refine sO0 ?_
     refine sO0 ?_
     refine sO0 ?_
     refine sO0 ?_
     refine jU0 rfl rfl rfl rfl <| jU0 rfl rfl rfl rfl <| jU0 rfl rfl rfl rfl <| jU0 rfl rfl rfl rfl <| sO0 ?_
     refine sP rfl rfl rfl <| sM rfl rfl <| sO0 ?_
     refine sO0 ?_
     refine sO0 ?_
     refine sO0 ?_
     refine sP rfl rfl rfl <| sM rfl rfl <| sO0 ?_
     refine sO0 ?_
     refine sO0 ?_
     refine sO0 ?_
     refine sP0 ?_
     refine sN (hZ _ _ ?_ ?_)
     ·exact kE rfl (kE rfl (kE (congrArg some (congrArg Value.bool (by first | rfl | (simp at *; omega)))) kF))
     ·exact hV _
  refine aC0 (fun h2 => ?_) (fun h2 => ?_)
  ·cases h2
  refine aK ?_
  repeat (with_reducible refine nBN ?_)
  refine nN ?_
  refine aG (fun Z hZ => ?_)
  refine sM rfl rfl ?_
  refine jB7 rfl rfl ((i + 1 : Nat) : Int) (by rw [lT _ (by omega)]; omega) rfl ?_
  refine sAN hZ rfl rfl <| nF [(0, _), (3, _)] (kR rfl) <| jC2 (i + 1) hlt (by omega) (kR rfl) (hV _)
 ·refine jB5 ?_
  repeat (with_reducible refine nTE ?_)
  refine nBE ?_
  refine nN ?_
  refine jA0 [(2, .bool true)] [] (fun Z hZ => ?_) ?_
  ·refine sM rfl rfl <| jC8 Tryz.underlying9 rfl rfl <| jH7 rfl rfl rfl <| sM rfl rfl <| jB9 47 rfl true (by (simp; try omega)) ?_
   refine sOn0 ?_
   refine sM rfl rfl <| sOn0 ?_
   refine jC8 Tryz.underlying9 rfl rfl <| sOn0 ?_
   refine jI2 rfl rfl rfl <| sP rfl rfl rfl <| sA rfl rfl <| sN (hZ _ _ ?_ ?_)
   ·exact kE (congrArg some (congrArg Value.bool (by simp; try omega))) kF
   ·exact hV _
  refine aE <| nR10 rfl
def jS0 (x y : Int) : Bool := decide (0 ≤ x ∧ x ≤ y ∧ y ≤ 9007199254740990)
theorem vD7 (x y : Int) : Fn Tryz.prog 55 [.agg #[iq x, iq y]] [] fun v _ => v = iq ((if jS0 x y = true then 0 else 8 : Nat) : Int) := by
 refine fE 18 Tryz.func55 rfl (fun w0 => aR (fun Z hZ => jB2 (fun g1 => ?_)))
 refine sAN hZ rfl rfl <| f1K 1 rfl <| aS <| jA0 [(17, .bool (!jS0 x y))] [] (fun Z hZ => ?_) ?_
 ·refine sFA0 kT9 ?_
  first | refine sL0 0 tyA3 tyS3 ?_
  refine jB0 ?_
  refine sM rfl rfl <| jB3 6 rfl (fun hb3 => ?_) (fun hb3 => ?_)
  ·refine sO0 ?_
   refine sO0 ?_
   refine sO0 ?_
   refine sO0 ?_
   refine sO0 ?_
   refine sP rfl rfl rfl <| sM rfl rfl <| sO0 ?_
   refine sO0 ?_
   refine sO0 ?_
   refine sP0 ?_
   refine sN (hZ _ _ ?_ ?_)
   ·exact kE (congrArg some (congrArg Value.bool (by unfold jS0; first | (simp at *; omega) | (rw [lS]; simp at *; omega)))) kF
   ·exact kA (lO _)
  ·refine sOn0 ?_
   refine sFA0 kT9 ?_
   refine sOn0 ?_
   first | refine sL0 0 tyA3 tyS3 ?_
   refine sOn0 ?_
   refine sFA0 kJ7 ?_
   refine sOn0 ?_
   first | refine sL0 0 tyA3 tyS3 ?_
   refine sOn0 ?_
   refine jC4 ?_
   refine sP rfl rfl rfl <| sM rfl rfl <| jB3 13 rfl (fun hb10 => ?_) (fun hb10 => ?_)
   ·refine sO0 ?_
    refine sO0 ?_
    refine sO0 ?_
    refine sP0 ?_
    refine sN (hZ _ _ ?_ ?_)
    ·exact kE (congrArg some (congrArg Value.bool (by unfold jS0; first | (simp at *; omega) | (rw [lS]; simp at *; omega)))) kF
    ·exact kA (lO _)
   ·refine sOn0 ?_
    refine sFA0 kJ7 ?_
    refine sOn0 ?_
    first | refine sL0 0 tyA3 tyS3 ?_
    refine sOn0 ?_
    refine jC4 ?_
    refine sP0 ?_
    refine sN (hZ _ _ ?_ ?_)
    ·exact kE (congrArg some (congrArg Value.bool (by unfold jS0; first | (simp at *; omega) | (rw [lS]; simp at *; omega)))) kF
    ·exact kA (lO _)
 cases hb : jS0 x y with
 | true =>
  refine aC0 (fun h1 => ?_) (fun h1 => ?_)
  ·cases h1
  refine aK <| nN <| aA rfl rfl <| f1K 2 rfl <| aE <| nR10 rfl
 | false =>
  refine aC0 (fun h1 => ?_) (fun h1 => ?_)
  ·refine aR (fun Z hZ => ?_)
   refine sAN hZ rfl rfl ?_
   refine f1K 2 rfl ?_
   refine aE ?_
   repeat (with_reducible refine nTR ?_)
   exact nR1 rfl rfl rfl
  cases h1
theorem wI4 (a b : Nat) (hab : a ≤ b) (hb : b ≤ 9007199254740990) : Fn Tryz.prog 20 [rgV a b] [] fun v _ => v = .tuple #[.string (str (eqS ++ rtx a b)), iq 0] := by
 have f1 := vD7 (a : Int) (b : Int)
 rw [show jS0 (a : Int) (b : Int) = true from by simp [jS0]; omega] at f1
 have f2 := wI3 a (by omega)
 have f3 := wI3 b (by omega)
 have l1 := kG0 15 a (by omega)
 have l2 := kG0 15 b (by omega)
 have e : eqS ++ rtx a b = ((eqS ++ dd a) ++ [45]) ++ dd b := by simp [rtx]
 have le : eqS.length = 6 := rfl
 rw [e]
 refine fE 19 Tryz.func20 rfl (fun w0 => aR (fun Z hZ => jB2 (fun g1 => ?_)))
 refine sA rfl rfl <| sAN hZ rfl rfl <| f1K 1 rfl <| aS <| aR (fun Z hZ => ?_)
 first | refine sLA0 0 tyA40 tyS40 ?_
 refine sCP0 f1 ?_
 refine sAN hZ rfl rfl <| f2K 1 4 rfl <| aR fun Z hZ => sM rfl rfl <| jA6 ?_
 refine sN (hZ _ _ <| f3K 1 4 8 rfl <| aC0 (fun h1 => ?_) (fun h1 => ?_))
 ·cases h1
 refine aK <| nN <| jC1 jF1 (by kernel_rfl) (fun Z hZ => ?_)
 refine qFA0 kT9 ?_
 first | refine jA9 0 tyA3 tyS3 ?_
 refine jG2 f2 rfl rfl <| jW9 rfl rfl (by (simp only [qS]; omega)) rfl ?_
 refine jW9 rfl rfl (by (simp only [lN, qS]; omega)) rfl ?_
 refine qFA0 kJ7 ?_
 first | refine jA9 0 tyA3 tyS3 ?_
 refine jG2 f3 rfl rfl <| jW9 rfl rfl (by (simp only [lN, qS]; omega)) rfl ?_
 refine jB8 rfl rfl <| jB8 rfl rfl <| jE9 (hZ _ _ <| f2K 2 3 rfl <| aE <| jF3 rfl rfl rfl rfl)
theorem vD6 (p h : Bs) (x y : Int) (hp : jQ5 p) (hh : jP6 h) : Fn Tryz.prog 19 [.agg #[.string (str p), .string (str h), iq x, iq y]] [] fun v _ => v = iq ((if jS0 x y = true then 0 else 8 : Nat) : Int) := by
 have f1 := wZ8 p hp
 have f2 := yA1 h hh
 have f3 := vD7 x y
 refine fE 16 Tryz.func19 rfl (fun w0 => aR (fun Z hZ => jB2 (fun g1 => ?_)))
 refine sAN hZ rfl rfl <| f1K 1 rfl <| aS <| jA0 [(1, ptr g1 0), (12, .bool false)] [.own g1 42 [.string (str p), .string (str h), iq x, iq y]] (fun Z hZ => ?_) ?_
 ·refine sFA0 wB8 ?_
  first | refine sL0 0 tyA9 tyS9 ?_
  refine sCP0 f1 ?_
  refine jE8 rfl rfl <| sM rfl rfl <| jB9 7 rfl false (by rfl) ?_
  refine sOn0 ?_
  refine sFA0 wB7 ?_
  refine sOn0 ?_
  first | refine sL0 0 tyA9 tyS9 ?_
  refine sOn0 ?_
  refine sCP0 f2 ?_
  refine sOn0 ?_
  refine jE8 rfl rfl <| sP0 ?_
  refine sN (hZ _ _ ?_ ?_)
  ·exact kR rfl
  ·exact hV _
 refine aC0 (fun h1 => ?_) (fun h1 => ?_)
 ·cases h1
 refine aK <| nN <| aR (fun Z hZ => sFA0 wB6 ?_)
 first | refine sLA0 0 tyA40 tyS40 ?_
 refine sCP0 f3 ?_
 refine sAN hZ rfl rfl <| f1K 2 rfl <| aE <| nR10 rfl
theorem yA5 (p h : Bs) (x y : Int) (hp : jQ5 p) (hh : jP6 h) (hb : jS0 x y = false) : Fn Tryz.prog 8 [.agg #[.string (str p), .string (str h), iq x, iq y]] [] fun v _ => v = .tuple #[.string (str []), iq 8] := by
 have f1 := vD6 p h x y hp hh
 rw [hb] at f1
 refine fE 29 Tryz.func8 rfl (fun w0 => aR (fun Z hZ => jB2 (fun g1 => ?_)))
 refine sA rfl rfl <| sAN hZ rfl rfl <| f1K 1 rfl <| aS <| aR (fun Z hZ => ?_)
 first | refine sLA0 0 tyA42 tyS42 ?_
 refine sCP0 f1 ?_
 refine sAN hZ rfl rfl <| f2K 1 4 rfl <| aR fun Z hZ => sM rfl rfl <| jA6 ?_
 refine sN (hZ _ _ <| f3K 1 4 10 rfl <| aC0 (fun h1 => ?_) (fun h1 => ?_))
 ·refine aR (fun Z hZ => ?_)
  refine sM rfl rfl <| sA rfl rfl <| sAN hZ rfl rfl ?_
  refine f2K 2 3 rfl ?_
  refine aE ?_
  repeat (with_reducible refine nTR ?_)
  exact jF3 rfl rfl rfl rfl
 cases h1
theorem vJ8 (p h : Bs) (a b : Nat) (hp : jQ5 p) (hh : jP6 h) (hab : a ≤ b) (hb : b ≤ 9007199254740990) : Fn Tryz.prog 8 [.agg #[.string (str p), .string (str h), iq (a : Nat), iq (b : Nat)]] [] fun v _ => v = .tuple #[.string (str (reqB p h a b)), iq 0] := by
 have f1 := vD6 p h a b hp hh
 rw [show jS0 (a : Int) (b : Int) = true from by simp [jS0]; omega] at f1
 have f2 := wI4 a b hab hb
 have l1 := kG0 15 a (by omega)
 have l2 := kG0 15 b (by omega)
 have l3 := hp.2.1
 have l4 := hh.2.1
 have le : (eqS ++ rtx a b).length ≤ 39 := by simp only [rtx, eqS, lN, qS]; omega
 have e : reqB p h a b = ((((([71, 69, 84, 32] ++ p) ++ [32, 72, 84, 84, 80, 47, 49, 46, 49, 13, 10, 72, 111, 115, 116, 58, 32]) ++ h) ++ [13, 10, 82, 97, 110, 103, 101, 58, 32]) ++ (eqS ++ rtx a b)) ++ [13, 10, 13, 10] := by
  simp [reqB, reqL, jS2, kM6, getL, getS, htpS, vE7, kF5]
 rw [e]
 refine fE 29 Tryz.func8 rfl (fun w0 => aR (fun Z hZ => jB2 (fun g1 => ?_)))
 refine sA rfl rfl <| sAN hZ rfl rfl <| f1K 1 rfl <| aS <| aR (fun Z hZ => ?_)
 first | refine sLA0 0 tyA42 tyS42 ?_
 refine sCP0 f1 ?_
 refine sAN hZ rfl rfl <| f2K 1 4 rfl <| aR fun Z hZ => sM rfl rfl <| jA6 ?_
 refine sN (hZ _ _ <| f3K 1 4 10 rfl <| aC0 (fun h1 => ?_) (fun h1 => ?_))
 ·cases h1
 refine aK <| nN <| aR (fun Z hZ => sFA0 wB6 ?_)
 first | refine sLA0 0 tyA40 tyS40 ?_
 refine sCP0 f2 ?_
 refine sM rfl rfl <| sX rfl rfl rfl <| sX rfl rfl rfl <| sA rfl rfl <| sAN hZ rfl rfl <| f2K 1 5 rfl <| aR (fun Z hZ => sFA0 wB8 ?_)
 first | refine sL0 0 tyA9 tyS9 ?_
 refine jN3 rfl rfl (by (simp only [lN, qS] at *; omega)) rfl ?_
 refine jN3 rfl rfl (by (simp only [lN, qS] at *; omega)) rfl ?_
 refine sFA0 wB7 ?_
 first | refine sL0 0 tyA9 tyS9 ?_
 refine jN3 rfl rfl (by (simp only [lN, qS] at *; omega)) rfl ?_
 refine jN3 rfl rfl (by (simp only [lN, qS] at *; omega)) rfl ?_
 refine sM rfl rfl <| jN3 rfl rfl (by (simp only [lN, qS] at *; omega)) rfl ?_
 refine jN3 rfl rfl (by (simp only [lN, qS] at *; omega)) rfl ?_
 refine sA rfl rfl <| sAN hZ rfl rfl <| f2K 2 3 rfl <| aE <| jF3 rfl rfl rfl rfl
theorem yU2 (h p F : Bs) (n : Nat) : Fn Tryz.prog 4 [orV h p F, iq (n : Nat)] [] fun v _ => v = .bool (decide (300 < h.length) || (decide (300 < p.length) || decide (n < F.length))) := by
 refine fE 22 Tryz.func4 rfl (fun w0 => aR (fun Z hZ => jB2 (fun g1 => ?_)))
 refine sAN hZ rfl rfl <| f2K 1 2 rfl <| jA0 [(4, .bool (decide (300 < h.length) || (decide (300 < p.length) || decide (n < F.length))))] [] (fun Z hZ => ?_) ?_
 ·refine sFA0 vH9 ?_
  first | refine sL0 0 tyA9 tyS9 ?_
  refine jC8 Tryz.underlying9 rfl rfl <| jC4 ?_
  refine sM rfl rfl <| jB3 9 rfl (fun hb4 => ?_) (fun hb4 => ?_)
  ·refine sO0 ?_
   refine sO0 ?_
   refine sO0 ?_
   refine sO0 ?_
   refine sP rfl rfl rfl <| sM rfl rfl <| sO0 ?_
   refine sO0 ?_
   refine sO0 ?_
   refine sO0 ?_
   refine sO0 ?_
   refine sP rfl rfl rfl <| sA rfl rfl <| sN (hZ _ _ ?_ ?_)
   ·exact kE (congrArg some (congrArg Value.bool (by rw [lS]; simp at *; omega))) kF
   ·exact kA (lO _)
  ·refine sOn0 ?_
   refine sFA0 vH8 ?_
   refine sOn0 ?_
   first | refine sL0 0 tyA9 tyS9 ?_
   refine sOn0 ?_
   refine jC8 Tryz.underlying9 rfl rfl <| sOn0 ?_
   refine jC4 ?_
   refine sP rfl rfl rfl <| sM rfl rfl <| jB3 15 rfl (fun hb10 => ?_) (fun hb10 => ?_)
   ·refine sO0 ?_
    refine sO0 ?_
    refine sO0 ?_
    refine sO0 ?_
    refine sO0 ?_
    refine sP rfl rfl rfl <| sA rfl rfl <| sN (hZ _ _ ?_ ?_)
    ·exact kE (congrArg some (congrArg Value.bool (by rw [lS]; simp at *; omega))) kF
    ·exact kA (lO _)
   ·refine sOn0 ?_
    refine sFA0 kU2 ?_
    refine sOn0 ?_
    first | refine sL0 0 tyA9 tyS9 ?_
    refine sOn0 ?_
    refine jC8 Tryz.underlying9 rfl rfl <| sOn0 ?_
    refine sM rfl rfl <| sOn0 ?_
    refine jC4 ?_
    refine sP rfl rfl rfl <| sA rfl rfl <| sN (hZ _ _ ?_ ?_)
    ·exact kE (congrArg some (congrArg Value.bool (by rw [lS]; simp at *; omega))) kF
    ·exact kA (lO _)
 refine aE <| nR10 rfl
def ivC (r : Int × Int) : List Value := [iq r.1, iq r.2]
def wvC (r : Nat × Nat) : List Value := [iq (r.1 : Nat), iq (r.2 : Nat)]
def selR (F : Bs) (L : List (Int × Int)) : List (Nat × Nat) := L.filterMap fun r => if jS0 r.1 r.2 && decide (r.2 < (F.length : Int)) then some (r.1.toNat, r.2.toNat) else none
theorem wG6 (F : Bs) (L : List (Int × Int)) : ∀ r ∈ selR F L, r.1 ≤ r.2 ∧ r.2 < F.length := fun r hr => by
 obtain ⟨q, _, hq⟩ := List.mem_filterMap.1 hr
 split at hq
 ·next h =>
  obtain rfl := lV hq
  simp [jS0] at h
  constructor <;> simp only <;> omega
 ·cases hq
theorem vQ1 (F : Bs) (L : List (Int × Int)) : (selR F L).length ≤ L.length := List.length_filterMap_le _ _
theorem wG5 {F : Bs} {L : List (Int × Int)} {i : Nat} {x y : Int} (hx : L[i]? = some (x, y)) : selR F (L.take (i + 1)) = selR F (L.take i) ++ if jS0 x y && decide (y < (F.length : Int)) then [(x.toNat, y.toNat)] else [] := by
 have hlt := (List.getElem?_eq_some_iff.1 hx).1
 rw [qC hlt, (List.getElem?_eq_some_iff.1 hx).2, selR, List.filterMap_append]
 congr 1
 simp only [l8, lY]
 split <;> simp_all
theorem yJ3 (F : Bs) : ∀ (X : List Rp) (A B : Heap), HLe (A ++ (X.map (fun x => Ent.ro x.1.1 0 (fcs [(crS, jF6 x.2.1 x.2.2 F.length)])) ++ B)) (A ++ (X.map (rpH F) ++ B))
 | [], A, B => hV _
 | x :: X, A, B => by
  have h1 := yJ3 F X (A ++ [Ent.ro x.1.1 0 (fcs [(crS, jF6 x.2.1 x.2.2 F.length)])]) B
  have h2 := HLe.rowRo (g := x.1.1) (t := 97) (size := 2) (n := 1) (c := x.1.2) (cs := fcs [(crS, jF6 x.2.1 x.2.2 F.length)]) A (X.map (rpH F) ++ B)
  simp only [xD, qS] at h1
  exact h1.trans h2
theorem vU2 {F : Bs} (R : List (Nat × Nat)) (j : Nat) : catA F (R.take j) ++ catA F (R.drop j) = catA F R := by
 rw [catA, catA, ← zI, zZ]; rfl
theorem zK1 : ElemOk Tryz.prog 24 40 2 16 := ElemOk.mk_ (z := .agg #[iq 0, iq 0]) Tryz.underlying24 (by kernel_rfl) rfl (by omega)
theorem kS6 (L : List (Nat × Nat)) : (L.flatMap wvC).length = L.length * 2 := by
 induction L with
 | nil => rfl
 | cons x r ih => rw [x5, lN, ih, lD]; show 2 + _ = _; omega
theorem yW8 {L : List (Int × Int)} {i : Nat} {x : Int × Int} (h : L[i]? = some x) : rdV true 2 (L.flatMap ivC) (i * 2) = some (.agg (ivC x).toArray) := vL5 (f := ivC) (n := 2) (fun _ => rfl) h
theorem zI7 {L : List (Int × Int)} {i : Nat} {x : Int × Int} (h : L[i]? = some x) : rdV false 1 (L.flatMap ivC) (i * 2 + 1) = some (iq x.2) := kM7 (f := ivC) (n := 2) (j := 1) (fun _ => rfl) h rfl
theorem wS4 (p h : Bs) (R : List (Nat × Nat)) (a b : Nat) : catR p h (R ++ [(a, b)]) = catR p h R ++ reqB p h a b := by simp [catR]
theorem wH5 (F : Bs) (o : Value) (X : List Rp) : (rpK F o X).filter Ent.wr = rpK F o X := by
 rw [rpK, qJ, jE2]
 congr 1
 exact List.filter_eq_self.2 fun e he => by obtain ⟨x, _, rfl⟩ := List.mem_map.1 he; rfl
theorem zN2 (a b x2 o2 x o g : Heap) : ((a ++ (b ++ (x2 ++ o2))) ++ ((x ++ o) ++ g)).Perm ((g ++ (a ++ (b ++ (x ++ (x2 ++ o2))))) ++ o) := by
 have h1 : ((x2 ++ o2) ++ (x ++ o)).Perm (x ++ ((x2 ++ o2) ++ o)) := List.perm_append_comm_assoc _ _ _
 have e1 : (a ++ (b ++ (x2 ++ o2))) ++ ((x ++ o) ++ g) = (a ++ (b ++ ((x2 ++ o2) ++ (x ++ o)))) ++ g := by simp
 have e2 : (g ++ (a ++ (b ++ (x ++ (x2 ++ o2))))) ++ o = g ++ (a ++ (b ++ (x ++ ((x2 ++ o2) ++ o)))) := by simp
 rw [e1, e2]
 exact List.perm_append_comm.trans (((h1.append_left b).append_left a).append_left g)
theorem yS6 (F : Bs) (X : List Rp) : (X.flatMap (rpC F)).all Value.oneCell' = true := by
 induction X with
 | nil => rfl
 | cons x r ih => exact (show (true && (true && (true && (r.flatMap (rpC F)).all Value.oneCell'))) = true from by rw [ih]; rfl)
theorem sub8 (a b x1 x2 o2 v3 tp w4 : Heap) (g2 g1 : Ent) : HLe (a ++ ([g1] ++ ((x1 ++ x2) ++ (tp ++ (w4 ++ v3))))) ((([g2, g1] ++ (tp ++ w4)) ++ (a ++ (b ++ (x1 ++ (x2 ++ o2))))) ++ v3) := by
 have s1 : (([g1] ++ (tp ++ w4)) ++ (a ++ (x1 ++ x2)) ++ v3).Sublist ((([g2, g1] ++ (tp ++ w4)) ++ (a ++ (b ++ (x1 ++ (x2 ++ o2))))) ++ v3) :=
  List.Sublist.append_right (List.Sublist.append (qA _ (xO _)) (uE (qI (uE (xE x2 o2) x1) (lX b _)) a)) v3
 refine HLe.trans (HLe.ofPerm ?_) (kA s1)
 have e1 : ([g1] ++ (tp ++ w4)) ++ (a ++ (x1 ++ x2)) ++ v3 = ([g1] ++ (tp ++ w4)) ++ (a ++ ((x1 ++ x2) ++ v3)) := by simp
 have e2 : a ++ ([g1] ++ ((x1 ++ x2) ++ (tp ++ (w4 ++ v3)))) = a ++ ([g1] ++ ((x1 ++ x2) ++ ((tp ++ w4) ++ v3))) := by simp
 rw [e1, e2]
 refine List.perm_append_comm_assoc _ _ _ |>.trans (qK a ?_)
 rw [xD]
 exact qK [g1] (List.perm_append_comm_assoc _ _ _)
theorem zF3 (F : Bs) {X : List Rp} {i gx cx a b : Nat} (hx : X[i]? = some ((gx, cx), (a, b))) (e : Ent) (B : Heap) : ([Ent.ro gx 0 (fcs [(crS, jF6 a b F.length)])] ++ TP).Sublist ([e] ++ (X.map (fun x => Ent.ro x.1.1 0 (fcs [(crS, jF6 x.2.1 x.2.2 F.length)])) ++ (TP ++ B))) := by
 have hm : Ent.ro gx 0 (fcs [(crS, jF6 a b F.length)]) ∈ X.map (fun x => Ent.ro x.1.1 0 (fcs [(crS, jF6 x.2.1 x.2.2 F.length)])) := List.mem_map.2 ⟨((gx, cx), (a, b)), xN hx, rfl⟩
 exact (List.Sublist.append (List.singleton_sublist.2 hm) (xE TP B)).trans (lX [e] _)
theorem wX3 (h p F : Bs) (A : Option Addr) (c : Nat) (L : List (Int × Int)) (T : Heap) (hA : jK9 A L.length) (hT : 0 < L.length → T = roE A (L.flatMap ivC)) (hro : Ro T) (k0 k1 : Nat) (hk0 : k0 < 65536) (hk1 : k1 < 65536) (fA : Fn Tryz.prog 5 [] [] fun v _ => v = .bool true) :
  Fn Tryz.prog 3 [orV h p F, .slice A L.length c, .agg #[.int .u16 (k0 : Nat), .int .u16 (k1 : Nat)]] (T ++ TP) fun v _ => v = .bool true := by
 have f0 := yU2 h p F 500
 obtain ⟨ov, hov⟩ := xZ9 ((decide (300 < h.length) || (decide (300 < p.length) || decide (500 < F.length))))
 rw [hov] at f0
 obtain ⟨bad, hbad⟩ := xZ9 ((ov || decide (10 < (L.length : Int))))
 refine fE 216 Tryz.func3 rfl (fun w0 => aR (fun Z hZ => jB2 (fun g1 => ?_)))
 refine jB2 (fun g2 => ?_)
 refine sAN hZ rfl rfl <| f3K 1 3 5 rfl <| aS <| jA0 [(1, .slice A L.length c), (3, ptr g1 0), (5, ptr g2 0), (34, .bool bad)] (.own g2 26 [.int .u16 (k0 : Nat), .int .u16 (k1 : Nat)] :: .own g1 23 [.string (str h), .string (str p), .string (str F)] :: (T ++ TP)) (fun Z hZ => ?_) ?_
 ·refine sLA0 1 tyA23 tyS23 ?_
  refine sCP0 f0 ?_
  refine sM rfl rfl <| jB3 30 rfl (fun hb2 => ?_) (fun hb2 => ?_)
  ·refine sO0 ?_
   refine sO0 ?_
   refine sO0 ?_
   refine sP0 ?_
   refine sN (hZ _ _ ?_ ?_)
   ·exact kE rfl (kE rfl (kE rfl (kE (congrArg some (congrArg Value.bool (by rw [← hbad, hb2]; rfl))) kF)))
   ·exact hV _
  ·refine sOn0 ?_
   refine sM rfl rfl <| sOn0 ?_
   refine jE5 Tryz.underlying24 rfl rfl <| sOn0 ?_
   refine jC4 ?_
   refine sP0 ?_
   refine sN (hZ _ _ ?_ ?_)
   ·exact kE rfl (kE rfl (kE rfl (kE (congrArg some (congrArg Value.bool (by rw [← hbad, hb2]; rfl))) kF)))
   ·exact hV _
 cases bad with
 | true =>
  refine aC0 (fun h1 => ?_) (fun h1 => ?_)
  ·refine aR (fun Z hZ => sCP0 fA ?_)
   refine sAN hZ rfl rfl ?_
   refine f1K 6 rfl ?_
   refine aE ?_
   repeat (with_reducible refine nTR ?_)
   exact nR1 rfl rfl rfl
  cases h1
 | false =>
  rw [Bool.or_eq_false_iff] at hbad
  rw [hbad.1] at hov
  simp only [Bool.or_eq_false_iff, decide_eq_false_iff_not] at hov
  have hLl : L.length ≤ 10 := by have := hbad.2; simp at this; omega
  obtain ⟨hhl, hpl, hFl⟩ := hov
  obtain ⟨ok, hok1, hok2, fk⟩ := vG9 p h (by omega) (by omega)
  have f1 := yR7 h p F ok fk
  refine aC0 (fun h1 => ?_) (fun h1 => ?_)
  ·cases h1
  refine aK <| nN ?_
  cases ok with
  | false =>
   refine aR (fun Z hZ => sLA0 1 tyA23 tyS23 ?_)
   refine sCP0 (jP3 f1 fun v H' hv => (hv : v = .tuple #[.pointer none, iq 2] ∧ H' = []).1) ?_
   refine sM rfl rfl <| sX rfl rfl rfl <| sX rfl rfl rfl <| sA rfl rfl <| sAN hZ rfl rfl <| f5K 1 3 5 7 8 rfl <| aR (fun Z hZ => jB4 [] (.own g2 26 [.int .u16 (k0 : Nat), .int .u16 (k1 : Nat)] :: .own g1 23 [.string (str h), .string (str p), .string (str F)] :: (T ++ TP)) wN2 rfl (hV _) rfl ?_)
   rintro v H' ⟨gf, rfl, rfl⟩
   refine sM rfl rfl <| sX rfl rfl rfl <| sX rfl rfl rfl <| sA rfl rfl <| sAN hZ rfl rfl <| f7K 1 3 5 7 8 9 10 rfl <| aS <| jA0 [(7, .pointer none), (8, iq 2), (58, .bool true)] [] (fun Z hZ => ?_) ?_
   ·refine sM rfl rfl <| jA6 ?_
    refine sM rfl rfl <| jB9 47 rfl true (by rfl) ?_
    refine sO0 ?_
    refine sO0 ?_
    refine sP rfl rfl rfl <| sM rfl rfl <| sO0 ?_
    refine sO0 ?_
    refine sP rfl rfl rfl <| sM rfl rfl <| sO0 ?_
    refine sO0 ?_
    refine sP0 ?_
    refine sN (hZ _ _ ?_ ?_)
    ·exact kR rfl
    ·exact kA (lO _)
   refine aC0 (fun h2 => ?_) (fun h2 => ?_)
   ·refine jA0 [(6, .bool true)] [] (fun Z hZ => ?_) ?_
    ·refine sM rfl rfl <| wD4 Tryz.underlying29 rfl rfl <| sM rfl rfl <| jB9 61 rfl true (by rfl) ?_
     refine sOn0 ?_
     refine sM rfl rfl <| sOn0 ?_
     refine jB1 ?_
     refine sP rfl rfl rfl <| sM rfl rfl <| jB9 65 rfl true (by rfl) ?_
     refine sOn0 ?_
     refine sCP0 fA ?_
     refine sP rfl rfl rfl <| sA rfl rfl <| sN (hZ _ _ ?_ ?_)
     ·exact kE rfl kF
     ·exact hV _
    refine aE ?_
    repeat (with_reducible refine nTR ?_)
    exact nR1 rfl rfl rfl
   cases h2
  | true =>
   obtain ⟨hp, hh⟩ := hok1 rfl
   refine aR (fun Z hZ => sLA0 1 tyA23 tyS23 ?_)
   refine jB4 [] (.own g2 26 [.int .u16 (k0 : Nat), .int .u16 (k1 : Nat)] :: .own g1 23 [.string (str h), .string (str p), .string (str F)] :: (T ++ TP)) f1 rfl (hV _) rfl ?_
   rintro v H' ⟨gc, rfl, rfl⟩
   refine sM rfl rfl <| sX rfl rfl rfl <| sX rfl rfl rfl <| sA rfl rfl <| sAN hZ rfl rfl <| f5K 1 3 5 7 8 rfl <| aR (fun Z hZ => jB4 [] _ wN2 rfl (hV _) rfl ?_)
   rintro v H' ⟨gf, rfl, rfl⟩
   refine sM rfl rfl <| sX rfl rfl rfl <| sX rfl rfl rfl <| sA rfl rfl <| sAN hZ rfl rfl <| f7K 1 3 5 7 8 9 10 rfl <| jA7 (.own g2 26 [.int .u16 (k0 : Nat), .int .u16 (k1 : Nat)] :: .own g1 23 [.string (str h), .string (str p), .string (str F)] :: fdE gf (.slice none 0 0) :: cnE gc h p F true [] 0 :: (T ++ TP)) (HLe.ofPerm ((qQ (l₁ := [_, _]) (l₂ := [_, _])).append_right _)) <| aS <| jA0 [(1, .slice A L.length c), (3, ptr g1 0), (5, ptr g2 0), (7, ptr gc 0), (9, ptr gf 0), (58, .bool false)] (.own g2 26 [.int .u16 (k0 : Nat), .int .u16 (k1 : Nat)] :: .own g1 23 [.string (str h), .string (str p), .string (str F)] :: fdE gf (.slice none 0 0) :: cnE gc h p F true [] 0 :: (T ++ TP)) (fun Z hZ => ?_) ?_
   ·refine sM rfl rfl <| jA6 ?_
    refine sM rfl rfl <| jB9 47 rfl false (by rfl) ?_
    refine sOn0 ?_
    refine sM rfl rfl <| sOn0 ?_
    refine jA6 ?_
    refine sP rfl rfl rfl <| sM rfl rfl <| jB9 51 rfl false (by rfl) ?_
    refine sOn0 ?_
    refine sM rfl rfl <| sOn0 ?_
    refine jN1 Tryz.underlying29 rfl rfl <| sP rfl rfl rfl <| sM rfl rfl <| jB9 55 rfl false (by rfl) ?_
    refine sOn0 ?_
    refine sM rfl rfl <| sOn0 ?_
    refine jN1 Tryz.underlying34 rfl rfl <| sP0 ?_
    refine sN (hZ _ _ ?_ ?_)
    ·exact kR rfl
    ·exact hV _
   refine aC0 (fun h2 => ?_) (fun h2 => ?_)
   ·cases h2
   refine aK <| nN <| aA rfl rfl <| f6K 1 3 5 7 9 11 rfl <| aA rfl rfl <| f7K 1 3 5 7 9 11 12 rfl <| aS <| aA rfl rfl <| f8K 1 3 5 7 9 11 12 13 rfl <| jA7 ((.own g2 26 [.int .u16 (k0 : Nat), .int .u16 (k1 : Nat)] :: .own g1 23 [.string (str h), .string (str p), .string (str F)] :: fdE gf (.slice none 0 0) :: cnE gc h p F true [] 0 :: (T ++ TP)) ++ rowE (.slice none 0 0) 40 2 ((selR F (L.take 0)).flatMap wvC)) (by rw [show rowE (.slice none 0 0) 40 2 ((selR F (L.take 0)).flatMap wvC) = [] from rfl, lH]; exact hV _) ?_
   refine aB ?_
   refine jC3 (ι := Nat × Value) (fun i => [(1, .slice A L.length c), (3, ptr g1 0), (5, ptr g2 0), (7, ptr gc 0), (9, ptr gf 0), (11, .string (str (catR p h (selR F (L.take i.1))))), (12, i.2), (13, iq (i.1 : Nat))]) (fun i => (.own g2 26 [.int .u16 (k0 : Nat), .int .u16 (k1 : Nat)] :: .own g1 23 [.string (str h), .string (str p), .string (str F)] :: fdE gf (.slice none 0 0) :: cnE gc h p F true [] 0 :: (T ++ TP)) ++ rowE i.2 40 2 ((selR F (L.take i.1)).flatMap wvC))
    (fun i => i.1 ≤ L.length ∧ RowOk i.2 (selR F (L.take i.1)).length) (fun i => L.length - i.1) (0, .slice none 0 0) ⟨lZ _, kI⟩ (kR rfl) (hV _) ?_
   rintro ⟨i, wv⟩ ⟨hi, hwv⟩
   simp only at hi hwv
   refine aS <| aR fun Z hZ => sM rfl rfl <| sM rfl rfl <| jE5 Tryz.underlying24 rfl rfl <| jB0 ?_
   refine sN (hZ _ _ <| f9K 1 3 5 7 9 11 12 13 71 rfl <| aC0 (fun h3 => ?_) (fun h3 => ?_))
   ·have hlt : i < L.length := by simpa using h3
    obtain ⟨x, hx⟩ : ∃ x, L[i]? = some x := ⟨_, xF hlt⟩
    obtain ⟨x, y⟩ := x
    have hsn := wG5 (F := F) hx
    obtain ⟨gl, ol, rfl⟩ := hA (by omega)
    obtain rfl := hT (by omega)
    obtain ⟨A3, c3, rfl, hA3⟩ := hwv.form
    refine jA7 ((.own g2 26 [.int .u16 (k0 : Nat), .int .u16 (k1 : Nat)] :: .own g1 23 [.string (str h), .string (str p), .string (str F)] :: fdE gf (.slice none 0 0) :: cnE gc h p F true [] 0 :: ([.ro gl ol (L.flatMap ivC)] ++ TP)) ++ rowE (.slice A3 (selR F (L.take i)).length c3) 40 2 ((selR F (L.take i)).flatMap wvC)) (hV _) <| aK <| nN <| aS (aB ?_)
    cases hb : jS0 x y with
    | false =>
     have f2 := yA5 p h x y hp hh hb
     rw [hb, Bool.false_and, if_neg (by decide), lH] at hsn
     refine jC1 jF1 (by kernel_rfl) (fun Z hZ => ?_)
     refine qFA0 vH8 ?_
     refine jA9 1 tyA9 tyS9 ?_
     refine qFA0 vH9 ?_
     refine jA9 1 tyA9 tyS9 ?_
     refine qM rfl rfl <| qM rfl rfl <| jG1 (ol + i * 2) Tryz.underlying24 tyS40 rfl rfl (by omega) (by simp) rfl ?_
     refine jK1 4 rfl rfl (i * 2) rfl tyA40 tyS40 (yW8 hx) rfl <| kI0 tyZ42 tyP42 rfl rfl (by simp only [qS, Nat.reduceAdd, Value.cells, wrV]; rfl) rfl ?_
     refine jG2 f2 rfl rfl <| qM rfl rfl <| jO6 rfl rfl rfl <| jO6 rfl rfl rfl <| jB8 rfl rfl <| jB8 rfl rfl <| jE9 (hZ _ _ <| f10K 1 3 5 7 9 11 12 13 14 15 rfl <| jF0 [(1, .slice (some ⟨gl, ol, none⟩) L.length c), (3, ptr g1 0), (5, ptr g2 0), (7, ptr gc 0), (9, ptr gf 0), (11, .string (str (catR p h (selR F (L.take i))))), (12, .slice A3 (selR F (L.take i)).length c3), (13, iq (i : Nat)), (99, .bool false)] ((.own g2 26 [.int .u16 (k0 : Nat), .int .u16 (k1 : Nat)] :: .own g1 23 [.string (str h), .string (str p), .string (str F)] :: fdE gf (.slice none 0 0) :: cnE gc h p F true [] 0 :: ([.ro gl ol (L.flatMap ivC)] ++ TP)) ++ rowE (.slice A3 (selR F (L.take i)).length c3) 40 2 ((selR F (L.take i)).flatMap wvC)) jF1 (by kernel_rfl) (fun Z hZ => ?_) ?_)
     ·refine qM rfl rfl <| jP1 rfl rfl rfl <| qM rfl rfl <| jJ1 89 rfl false (by rfl) ?_
      refine qO0 ?_
      refine qO0 ?_
      refine qO0 ?_
      refine qO0 ?_
      refine qO0 ?_
      refine qO0 ?_
      refine qO0 ?_
      refine qO0 ?_
      refine qO0 ?_
      refine jE1 rfl rfl rfl <| jE9 (hZ _ _ ?_ ?_)
      ·exact kR rfl
      ·exact hV _
     refine aC0 (fun h4 => ?_) (fun h4 => ?_)
     ·cases h4
     refine aK ?_
     repeat (with_reducible refine nBN ?_)
     refine nN ?_
     refine aG (fun Z hZ => ?_)
     refine sM rfl rfl ?_
     refine jB7 rfl rfl ((i + 1 : Nat) : Int) (by rw [lT _ (by omega)]; omega) rfl ?_
     refine sAN hZ rfl rfl <| nF [(1, _), (3, _), (5, _), (7, _), (9, _), (11, _), (12, _), (13, _)] (kR rfl) <| jC2 (i + 1, .slice A3 (selR F (L.take i)).length c3) ⟨hlt, by rw [hsn]; exact hwv⟩ (by show L.length - (i + 1) < L.length - i; omega) (kE rfl (kE rfl (kE rfl (kE rfl (kE rfl (kE (by simp only [hsn]; rfl) (kR rfl))))))) (by simp only [hsn]; exact hV _)
    | true =>
     obtain ⟨a, rfl⟩ : ∃ a : Nat, x = a := ⟨x.toNat, by simp [jS0] at hb; omega⟩
     obtain ⟨b, rfl⟩ : ∃ b : Nat, y = b := ⟨y.toNat, by simp [jS0] at hb; omega⟩
     have hab : a ≤ b ∧ b ≤ 9007199254740990 := by simp [jS0] at hb; omega
     have f2 := vJ8 p h a b hp hh hab.1 hab.2
     refine jC1 jF1 (by kernel_rfl) (fun Z hZ => ?_)
     refine qFA0 vH8 ?_
     refine jA9 1 tyA9 tyS9 ?_
     refine qFA0 vH9 ?_
     refine jA9 1 tyA9 tyS9 ?_
     refine qM rfl rfl <| qM rfl rfl <| jG1 (ol + i * 2) Tryz.underlying24 tyS40 rfl rfl (by omega) (by simp) rfl ?_
     refine jK1 4 rfl rfl (i * 2) rfl tyA40 tyS40 (yW8 hx) rfl <| kI0 tyZ42 tyP42 rfl rfl (by simp only [qS, Nat.reduceAdd, Value.cells, wrV]; rfl) rfl ?_
     refine jG2 f2 rfl rfl <| qM rfl rfl <| jO6 rfl rfl rfl <| jO6 rfl rfl rfl <| jB8 rfl rfl <| jB8 rfl rfl <| jE9 (hZ _ _ <| f10K 1 3 5 7 9 11 12 13 14 15 rfl <| jF0 [(1, .slice (some ⟨gl, ol, none⟩) L.length c), (3, ptr g1 0), (5, ptr g2 0), (7, ptr gc 0), (9, ptr gf 0), (11, .string (str (catR p h (selR F (L.take i))))), (12, .slice A3 (selR F (L.take i)).length c3), (13, iq (i : Nat)), (14, .string (str (reqB p h a b))), (99, .bool (decide ((b : Int) < (F.length : Int))))] ((.own g2 26 [.int .u16 (k0 : Nat), .int .u16 (k1 : Nat)] :: .own g1 23 [.string (str h), .string (str p), .string (str F)] :: fdE gf (.slice none 0 0) :: cnE gc h p F true [] 0 :: ([.ro gl ol (L.flatMap ivC)] ++ TP)) ++ rowE (.slice A3 (selR F (L.take i)).length c3) 40 2 ((selR F (L.take i)).flatMap wvC)) jF1 (by kernel_rfl) (fun Z hZ => ?_) ?_)
     ·refine qM rfl rfl <| jP1 rfl rfl rfl <| qM rfl rfl <| jJ1 89 rfl true (by rfl) ?_
      refine jA4 ?_
      refine qM rfl rfl <| jA4 ?_
      refine qM rfl rfl <| jA4 ?_
      refine jG1 (ol + i * 2) Tryz.underlying24 tyS40 rfl rfl (by omega) (by simp) rfl ?_
      refine jA4 ?_
      refine qFA0 kJ7 ?_
      refine jA4 ?_
      refine jK1 4 rfl rfl (i * 2 + 1) (by omega) tyA3 tyS3 (zI7 hx) rfl ?_
      refine jA4 ?_
      refine qFA0 kU2 ?_
      refine jA4 ?_
      refine jA9 1 tyA9 tyS9 ?_
      refine jA4 ?_
      refine jP0 Tryz.underlying9 rfl rfl <| jA4 ?_
      refine kP5 rfl rfl rfl <| jE1 rfl rfl rfl <| jE9 (hZ _ _ ?_ ?_)
      ·exact kR rfl
      ·exact hV _
     refine aC0 (fun h4 => ?_) (fun h4 => ?_)
     ·have hbF : b < F.length := by simp at h4; omega
      rw [hb, show decide ((b : Int) < (F.length : Int)) = true from h4, Bool.and_self, if_pos rfl, x4, x4] at hsn
      have hsl := kI7 hp hh (F := F) (by omega) (wG6 F (L.take i))
      have hs2 := vQ1 F (L.take i)
      have hs3 : (L.take i).length ≤ 10 := by rw [xV]; omega
      have hrl := kI3 p h a b hp hh (by omega) (by omega)
      refine aR fun Z hZ => sM rfl rfl <| sM rfl rfl <| jN3 rfl rfl (by omega) rfl ?_
      refine sAN hZ rfl rfl <| f8K 1 3 5 7 9 11 12 13 rfl <| aG (fun Z hZ => sM rfl rfl <| sM rfl rfl <| sM rfl rfl <| jA8 (ol + i * 2) Tryz.underlying24 tyS40 rfl rfl (by omega) (by simp) rfl ?_)
      refine jE0 4 rfl rfl (i * 2) rfl tyA40 tyS40 (yW8 hx) rfl <| sBS0 Tryz.underlying24 tyS40 tyZ40 (fun g3 => ?_)
      refine jD3 (_ :: (.own g2 26 [.int .u16 (k0 : Nat), .int .u16 (k1 : Nat)] :: .own g1 23 [.string (str h), .string (str p), .string (str F)] :: fdE gf (.slice none 0 0) :: cnE gc h p F true [] 0 :: ([.ro gl ol (L.flatMap ivC)] ++ TP))) zK1 rfl hwv (kS6 _) rfl (fun w hw => jI0 (i := 0) (n := 1) (xs := wvC (a, b)) rfl rfl hw) rfl (by show _ ≤ 9223372036854775807; omega) (by omega) (hV _) rfl (fun v2 hv2 => ?_)
      refine sAN hZ rfl rfl ?_
      refine nF [(1, _), (3, _), (5, _), (7, _), (9, _), (11, _), (12, _), (13, _)] (kR rfl) ?_
      repeat (with_reducible refine nBN ?_)
      refine nN ?_
      refine aG (fun Z hZ => ?_)
      refine sM rfl rfl ?_
      refine jB7 rfl rfl ((i + 1 : Nat) : Int) (by rw [lT _ (by omega)]; omega) rfl ?_
      refine sAN hZ rfl rfl <| nF [(1, _), (3, _), (5, _), (7, _), (9, _), (11, _), (12, _), (13, _)] (kR rfl) <| jC2 (i + 1, v2) ⟨hlt, by rw [hsn, lN]; exact hv2⟩ (by show L.length - (i + 1) < L.length - i; omega) (kE rfl (kE rfl (kE rfl (kE rfl (kE rfl (kE (by simp only [hsn, wS4]; rfl) (kR rfl))))))) (by simp only [hsn, zI]; exact kC 1 rfl)
     ·rw [hb, show decide ((b : Int) < (F.length : Int)) = false from h4, Bool.and_false, if_neg (by decide), lH] at hsn
      refine aK ?_
      repeat (with_reducible refine nBN ?_)
      refine nN ?_
      refine aG (fun Z hZ => ?_)
      refine sM rfl rfl ?_
      refine jB7 rfl rfl ((i + 1 : Nat) : Int) (by rw [lT _ (by omega)]; omega) rfl ?_
      refine sAN hZ rfl rfl <| nF [(1, _), (3, _), (5, _), (7, _), (9, _), (11, _), (12, _), (13, _)] (kR rfl) <| jC2 (i + 1, .slice A3 (selR F (L.take i)).length c3) ⟨hlt, by rw [hsn]; exact hwv⟩ (by show L.length - (i + 1) < L.length - i; omega) (kE rfl (kE rfl (kE rfl (kE rfl (kE rfl (kE (by simp only [hsn]; rfl) (kR rfl))))))) (by simp only [hsn]; exact hV _)
   ·refine jB5 ?_
    repeat (with_reducible refine nTE ?_)
    refine nBE ?_
    refine nN ?_
    have hie : i = L.length := by simp at h3; omega
    subst hie
    rw [xY] at hwv ⊢
    obtain ⟨R, hR⟩ := xZ9 (selR F L)
    have hRo : wV3 F R := by rw [← hR]; exact ⟨uI (vQ1 F L) hLl, wG6 F L⟩
    rw [hR] at hwv ⊢
    obtain ⟨A4, c4, rfl, hA4⟩ := hwv.form
    have hF5 : F.length ≤ 500 := by omega
    have hcl := kI7 hp hh hF5 hRo.2
    have hRl := hRo.1
    refine jA7 ([.own g2 26 [.int .u16 (k0 : Nat), .int .u16 (k1 : Nat)], .own g1 23 [.string (str h), .string (str p), .string (str F)], fdE gf (.slice none 0 0), cnE gc h p F true [] 0] ++ (TP ++ rowE (.slice A4 R.length c4) 40 2 (R.flatMap wvC))) (kA (xJ _ (xJ _ (xJ _ (xJ _ (List.Sublist.append_right (lX T TP) _)))))) ?_
    obtain ⟨Q, hQ⟩ := xZ9 (catR p h R)
    rw [hQ] at hcl
    refine aF [(3, ptr g1 0), (5, ptr g2 0), (7, ptr gc 0), (9, ptr gf 0), (11, .string (str Q)), (12, .slice A4 R.length c4)] (kE rfl (kE rfl (kE rfl (kE rfl (kE (by simp only [hQ]; rfl) (kE (by simp only []; rfl) kF)))))) ?_
    obtain ⟨kk, hkk⟩ := xZ9 (k0 % (Q.length + 1))
    have hkl : kk ≤ Q.length := by rw [← hkk]; exact Nat.le_of_lt_succ (Nat.mod_lt _ (Nat.succ_pos _))
    refine aR (fun Z hZ => jH3 0 Tryz.underlying26 tyS25 rfl rfl (by decide) rfl rfl ?_)
    refine sL0 0 tyA25 tyS25 ?_
    refine jD0 Tryz.underlying25 Tryz.underlying3 rfl ((k0 : Nat) : Int) (by rw [lT _ (by omega)]) rfl ?_
    refine sM rfl rfl ?_
    refine jC8 Tryz.underlying9 rfl rfl ?_
    refine jB7 rfl rfl ((Q.length + 1 : Nat) : Int) (by rw [lT _ (by omega)]; omega) rfl ?_
    refine vP2 rfl rfl (by omega) ((kk : Nat) : Int) (by rw [Int.tmod_eq_emod_of_nonneg (by omega), ← hkk]; omega) rfl ?_
    refine sAN hZ rfl rfl <| f7K 3 5 7 9 11 12 16 rfl ?_
    have f3 := wF6 gc h p F R 0 [] (Q.take kk) (Q.drop kk) hp hh hF5 hRo (by decide) (by rw [lE, zZ, hQ])
    refine aR fun Z hZ => sM rfl rfl <| sM rfl rfl <| sM rfl rfl <| jF7 (Q.take kk) Tryz.underlying9 rfl rfl rfl (by omega) (by omega) (by omega) (by simp) rfl ?_
    refine jO1 [cnE gc h p F true [] 0] TP ([.own g2 26 [.int .u16 (k0 : Nat), .int .u16 (k1 : Nat)], .own g1 23 [.string (str h), .string (str p), .string (str F)], fdE gf (.slice none 0 0)] ++ (TP ++ rowE (.slice A4 R.length c4) 40 2 (R.flatMap wvC))) f3 rfl (HLe.ofPerm (List.perm_middle (l₁ := [_, _, _]))) (qI (xE TP _) (lX [_, _, _] _)) jQ4 rfl ?_
    rintro v H' ⟨j, L1, hj, hL1, _, rfl, rfl⟩
    refine jC6 ([.own g2 26 [.int .u16 (k0 : Nat), .int .u16 (k1 : Nat)], .own g1 23 [.string (str h), .string (str p), .string (str F)], fdE gf (.slice none 0 0), cnE gc h p F true L1 (0 + j)] ++ (TP ++ rowE (.slice A4 R.length c4) 40 2 (R.flatMap wvC))) (HLe.ofPerm (List.perm_middle (l₁ := [_, _, _])).symm) <| sAN hZ rfl rfl <| f8K 3 5 7 9 11 12 16 17 rfl ?_
    have hRd : wV3 F (R.drop j) := ⟨by rw [qF]; omega, fun r hr => hRo.2 r (List.mem_of_mem_drop hr)⟩
    have f4 := wF6 gc h p F (R.drop j) (0 + j) L1 (Q.drop kk) [] hp hh hF5 hRd (by omega) (by rw [lH]; exact hL1)
    have hA1 := kC3 hF5 (R := R.take j) fun r hr => hRo.2 r (List.mem_of_mem_take hr)
    have hA2 : (R.take j).length ≤ 10 := by rw [xV]; omega
    have hA3 := kC3 hF5 hRo.2
    have hA5 : (catA F R).length ≤ 13000 := by omega
    refine aR fun Z hZ => sM rfl rfl <| sM rfl rfl <| sM rfl rfl <| sM rfl rfl <| jF7 (Q.drop kk) Tryz.underlying9 rfl rfl rfl (by omega) (by omega) (by omega) (by simp only [x4]; rw [← qF, xY]) rfl ?_
    refine jO1 [cnE gc h p F true L1 (0 + j)] TP ([.own g2 26 [.int .u16 (k0 : Nat), .int .u16 (k1 : Nat)], .own g1 23 [.string (str h), .string (str p), .string (str F)], fdE gf (.slice none 0 0)] ++ (TP ++ rowE (.slice A4 R.length c4) 40 2 (R.flatMap wvC))) f4 rfl (HLe.ofPerm (List.perm_middle (l₁ := [_, _, _]))) (qI (xE TP _) (lX [_, _, _] _)) jQ4 rfl ?_
    rintro v H' ⟨j2, L2, hj2, hL2, he2, rfl, rfl⟩
    obtain ⟨he3, rfl⟩ := he2 rfl
    have htold : catA F (R.take j) ++ catA F ((R.drop j).take j2) = catA F R := by rw [← vU2 R j, ← vU2 (R.drop j) j2, he3]; simp [catA]
    refine jC6 ([.own g2 26 [.int .u16 (k0 : Nat), .int .u16 (k1 : Nat)], .own g1 23 [.string (str h), .string (str p), .string (str F)], fdE gf (.slice none 0 0)] ++ (TP ++ rowE (.slice A4 R.length c4) 40 2 (R.flatMap wvC))) (kC 1 rfl) <| jN3 rfl rfl (by rw [← lN, htold]; omega) rfl ?_
    rw [htold]
    refine sAN hZ rfl rfl <| f5K 3 5 9 12 17 rfl ?_
    obtain ⟨D, hD⟩ := xZ9 (catA F R)
    rw [hD] at hA5
    refine aF [(3, ptr g1 0), (5, ptr g2 0), (9, ptr gf 0), (12, .slice A4 R.length c4), (17, .string (str D))] (kE rfl (kE rfl (kE rfl (kE rfl (kE (by rw [← hD]; rfl) kF))))) ?_
    obtain ⟨nn, hnn⟩ := xZ9 (k1 % (D.length + 1))
    have hnl : nn ≤ D.length := by rw [← hnn]; exact Nat.le_of_lt_succ (Nat.mod_lt _ (Nat.succ_pos _))
    refine aR (fun Z hZ => jH3 1 Tryz.underlying26 tyS25 rfl rfl (by decide) rfl rfl ?_)
    refine sL0 0 tyA25 tyS25 ?_
    refine jD0 Tryz.underlying25 Tryz.underlying3 rfl ((k1 : Nat) : Int) (by rw [lT _ (by omega)]) rfl ?_
    refine sM rfl rfl ?_
    refine jC8 Tryz.underlying9 rfl rfl ?_
    refine jB7 rfl rfl ((D.length + 1 : Nat) : Int) (by rw [lT _ (by omega)]; omega) rfl ?_
    refine vP2 rfl rfl (by omega) ((nn : Nat) : Int) (by rw [Int.tmod_eq_emod_of_nonneg (by omega), ← hnn]; omega) rfl ?_
    refine sAN hZ rfl rfl <| f5K 3 9 12 17 18 rfl ?_
    have f5 := wM9 gf F R [] (D.take nn) (D.drop nn) (.slice none 0 0) kI hF5 hRo (by rw [lE, zZ, hD])
    refine aR fun Z hZ => sM rfl rfl <| sM rfl rfl <| sM rfl rfl <| jF7 (D.take nn) Tryz.underlying9 rfl rfl rfl (by omega) (by omega) (by omega) (by simp) rfl ?_
    refine jB4 [fdE gf (.slice none 0 0)] ([.own g2 26 [.int .u16 (k0 : Nat), .int .u16 (k1 : Nat)], .own g1 23 [.string (str h), .string (str p), .string (str F)]] ++ (TP ++ rowE (.slice A4 R.length c4) 40 2 (R.flatMap wvC))) f5 rfl (HLe.ofPerm (List.perm_middle (l₁ := [_, _]))) rfl ?_
    rintro v H' ⟨X1, R1, L1, v1, o1, hX1, hL1, _, hv1, ho1, rfl, rfl⟩
    rw [qJ, qJ, jE2, wH5]
    refine sM rfl rfl <| sX rfl rfl rfl <| sX rfl rfl rfl <| sA rfl rfl <| sAN hZ rfl rfl <| f6K 3 9 12 17 18 19 rfl ?_
    have hR1 : wV3 F R1 := ⟨by have := hRo.1; rw [hX1, lN] at this; omega, fun r hr => hRo.2 r (by rw [hX1]; exact x7 _ hr)⟩
    have f6 := wM9 gf F R1 L1 (D.drop nn) [] v1 hv1 hF5 hR1 (by rw [lH]; exact hL1)
    obtain ⟨G, hG⟩ : ∃ G : Heap, G = [.own g2 26 [.int .u16 (k0 : Nat), .int .u16 (k1 : Nat)], .own g1 23 [.string (str h), .string (str p), .string (str F)]] ++ (TP ++ rowE (.slice A4 R.length c4) 40 2 (R.flatMap wvC)) := ⟨_, rfl⟩
    obtain ⟨A5, c5, rfl, hA5'⟩ := ho1.form
    refine jA7 (([fdE gf v1] ++ rowE v1 5 1 (bv L1)) ++ (rpK F (.slice A5 X1.length c5) X1 ++ G)) (by rw [hG]; simp only [xD]; exact hV _) ?_
    refine aR fun Z hZ => sM rfl rfl <| sM rfl rfl <| sM rfl rfl <| jF7 (D.drop nn) Tryz.underlying9 rfl rfl rfl (by omega) (by omega) (by omega) (by simp only [x4]; rw [← qF, xY]) rfl ?_
    refine jB4 ([fdE gf v1] ++ rowE v1 5 1 (bv L1)) (rpK F (.slice A5 X1.length c5) X1 ++ G) f6 rfl (hV _) rfl ?_
    rintro v H' ⟨X2, R2, L2, v2, o2, hX2, hL2, he2, hv2, ho2, rfl, rfl⟩
    obtain ⟨rfl, rfl⟩ := he2 rfl
    rw [qJ, qJ, jE2, wH5]
    obtain ⟨A6, c6, rfl, hA6⟩ := ho2.form
    obtain ⟨A7, c7, rfl, hA7⟩ := hv2.form
    refine sM rfl rfl <| sX rfl rfl rfl <| sX rfl rfl rfl <| sA rfl rfl <| sAN hZ rfl rfl <| f5K 3 9 12 19 21 rfl ?_
    have hXX : (X1 ++ X2).map Prod.snd = R := by rw [hX1, hX2]; simp
    have hXl : X1.length + X2.length = R.length := by rw [← hXX]; simp
    refine jA7 ((G ++ ([fdE gf (.slice A7 0 c7)] ++ (rowE (.slice A7 0 c7) 5 1 (bv []) ++ (X1.map (rpH F) ++ (X2.map (rpH F) ++ rowE (.slice A6 X2.length c6) 52 3 (X2.flatMap (rpC F))))))) ++ rowE (.slice A5 X1.length c5) 52 3 (X1.flatMap (rpC F))) (HLe.ofPerm ?_) ?_
    ·exact zN2 [_] _ _ _ _ _ _
    refine aR fun Z hZ => sM rfl rfl <| sM rfl rfl <| jD3 (G ++ ([fdE gf (.slice A7 0 c7)] ++ (rowE (.slice A7 0 c7) 5 1 (bv []) ++ (X1.map (rpH F) ++ (X2.map (rpH F) ++ rowE (.slice A6 X2.length c6) 52 3 (X2.flatMap (rpC F))))))) yL7 rfl ho1 (kW4 F X1) rfl (fun w hw => jL3 (e := 52) ho2 (kW4 F X2) (fun x hx => by simp only [l9, hx, true_or, or_true]) hw) (yS6 F X2) (by show _ ≤ 9223372036854775807; omega) (by omega) (hV _) rfl (fun v3 hv3 => ?_)
    obtain ⟨A8, c8, rfl, hA8⟩ := hv3.form
    refine sAN hZ rfl rfl <| f4K 3 9 12 19 rfl ?_
    rw [hXl] at hv3 ⊢
    refine jA7 ([fdE gf (.slice A7 0 c7)] ++ ([.own g1 23 [.string (str h), .string (str p), .string (str F)]] ++ ((X1 ++ X2).map (fun x => Ent.ro x.1.1 0 (fcs [(crS, jF6 x.2.1 x.2.2 F.length)])) ++ (TP ++ (rowE (.slice A4 R.length c4) 40 2 (R.flatMap wvC) ++ rowE (.slice A8 R.length c8) 52 3 ((X1 ++ X2).flatMap (rpC F))))))) ?_ ?_
    ·refine HLe.trans (yJ3 F (X1 ++ X2) [_, _] _) ?_
     rw [hG, x0, zI]
     exact sub8 [_] _ _ _ _ _ _ _ _ _
    refine aS <| jA0 [(3, ptr g1 0), (12, .slice A4 R.length c4), (19, .slice A8 R.length c8), (164, .bool false)] ([.own g1 23 [.string (str h), .string (str p), .string (str F)]] ++ ((X1 ++ X2).map (fun x => Ent.ro x.1.1 0 (fcs [(crS, jF6 x.2.1 x.2.2 F.length)])) ++ (TP ++ (rowE (.slice A4 R.length c4) 40 2 (R.flatMap wvC) ++ rowE (.slice A8 R.length c8) 52 3 ((X1 ++ X2).flatMap (rpC F)))))) (fun Z hZ => ?_) ?_
    ·refine sM rfl rfl <| jB4 [fdE gf (.slice A7 0 c7)] ([.own g1 23 [.string (str h), .string (str p), .string (str F)]] ++ ((X1 ++ X2).map (fun x => Ent.ro x.1.1 0 (fcs [(crS, jF6 x.2.1 x.2.2 F.length)])) ++ (TP ++ (rowE (.slice A4 R.length c4) 40 2 (R.flatMap wvC) ++ rowE (.slice A8 R.length c8) 52 3 ((X1 ++ X2).flatMap (rpC F)))))) (yZ0 gf _ hv2) rfl (hV _) rfl ?_
     rintro u H' rfl
     refine jC6 ([.own g1 23 [.string (str h), .string (str p), .string (str F)]] ++ ((X1 ++ X2).map (fun x => Ent.ro x.1.1 0 (fcs [(crS, jF6 x.2.1 x.2.2 F.length)])) ++ (TP ++ (rowE (.slice A4 R.length c4) 40 2 (R.flatMap wvC) ++ rowE (.slice A8 R.length c8) 52 3 ((X1 ++ X2).flatMap (rpC F)))))) (kA (lX _ _)) <| jA6 ?_
     refine sM rfl rfl <| jB9 158 rfl false (by rfl) ?_
     refine sOn0 ?_
     refine sM rfl rfl <| sOn0 ?_
     refine jE5 Tryz.underlying44 rfl rfl <| sOn0 ?_
     refine sM rfl rfl <| sOn0 ?_
     refine jE5 Tryz.underlying24 rfl rfl <| sOn0 ?_
     refine jA6 ?_
     refine sP0 ?_
     refine sN (hZ _ _ ?_ ?_)
     ·exact kE rfl (kE rfl (kE rfl (kE (congrArg some (congrArg Value.bool (by simp))) kF)))
     ·exact hV _
    refine aC0 (fun h4 => ?_) (fun h4 => ?_)
    ·cases h4
    refine aK <| nN <| aS <| aA rfl rfl <| f4K 3 12 19 23 rfl ?_
    obtain ⟨X, hXe⟩ := xZ9 (X1 ++ X2)
    rw [hXe] at hXX ⊢
    have hXl2 : X.length = R.length := by rw [← hXX]; simp
    refine aB <| jC3 (ι := Nat) (fun i => [(3, ptr g1 0), (12, .slice A4 R.length c4), (19, .slice A8 R.length c8), (23, iq (i : Nat))]) (fun _ => ([.own g1 23 [.string (str h), .string (str p), .string (str F)]] ++ (X.map (fun x => Ent.ro x.1.1 0 (fcs [(crS, jF6 x.2.1 x.2.2 F.length)])) ++ (TP ++ (rowE (.slice A4 R.length c4) 40 2 (R.flatMap wvC) ++ rowE (.slice A8 R.length c8) 52 3 (X.flatMap (rpC F))))))) (fun i => i ≤ R.length) (fun i => R.length - i) 0 (lZ _) (kR rfl) (hV _) ?_
    intro i hi
    refine aS <| aR fun Z hZ => sM rfl rfl <| sM rfl rfl <| jE5 Tryz.underlying44 rfl rfl <| jB0 ?_
    refine sN (hZ _ _ <| f5K 3 12 19 23 168 rfl <| aC0 (fun h5 => ?_) (fun h5 => ?_))
    ·have hlt : i < R.length := by simpa using h5
     obtain ⟨x, hx⟩ : ∃ x, X[i]? = some x := ⟨_, xF (by omega)⟩
     obtain ⟨⟨gx, cx⟩, a, b⟩ := x
     have hr : R[i]? = some (a, b) := by rw [← hXX, xZ, hx]; rfl
     have hab : a ≤ b ∧ b < F.length := hRo.2 (a, b) (xN hr)
     obtain ⟨g8, _, he8⟩ := hv3.some (by omega)
     obtain rfl := (Value.slice.inj he8).1
     obtain ⟨g4, _, he4⟩ := hwv.some (by omega)
     obtain rfl := (Value.slice.inj he4).1
     have hcu := kC2 hab.1 hab.2
     have f7 := vQ3 gx 0 cx a b F.length (cutB F a b) (by omega) (by omega) (by omega) (by omega)
     rw [show hdB (ansL a b F.length (cutB F a b).length) ++ cutB F a b = ansB a b F from by rw [ansB, hcu]] at f7
     have f8 := yD2 F a b hab.1 hab.2 hF5
     refine jA7 ([.own g1 23 [.string (str h), .string (str p), .string (str F)]] ++ (X.map (fun x => Ent.ro x.1.1 0 (fcs [(crS, jF6 x.2.1 x.2.2 F.length)])) ++ (TP ++ (rowE (.slice (some ⟨g4, 0, none⟩) R.length c4) 40 2 (R.flatMap wvC) ++ rowE (.slice (some ⟨g8, 0, none⟩) R.length c8) 52 3 (X.flatMap (rpC F)))))) (hV _) <| aK <| nN <| aS (aB <| aR fun Z hZ => sM rfl rfl <| sM rfl rfl <| jA8 (i * 3) Tryz.underlying44 tyS52 rfl rfl (by omega) (by simp) rfl ?_)
     refine jN2 (i * 3) rfl (by omega) (fun w hw => jL3 (e := 52) hv3 (by rw [kW4, hXl2]) (fun x hx => by simp only [l9, hx, or_true]) hw) (by omega) tyA52 tyS52 (vL5 (f := rpC F) (n := 3) (fun _ => rfl) hx) rfl ?_
     refine jD7 ([.ro gx 0 (fcs [(crS, jF6 a b F.length)])] ++ TP) f7 rfl (zF3 F hx _ _) (yN6 _ _ _) rfl <| sM rfl rfl <| sX rfl rfl rfl <| sX rfl rfl rfl <| sA rfl rfl <| sAN hZ rfl rfl <| f6K 3 12 19 23 24 25 rfl <| jC1 jF1 (by kernel_rfl) (fun Z hZ => ?_)
     refine qM rfl rfl <| qM rfl rfl <| qM rfl rfl <| jG1 (i * 2) Tryz.underlying24 tyS40 rfl rfl (by omega) (by simp) rfl ?_
     refine jU5 (i * 2) rfl (by omega) (fun w hw => jL3 (e := 40) hwv (kS6 R) (fun x hx => by simp only [l9, hx, true_or, or_true]) hw) (by omega) tyA40 tyS40 (vL5 (f := wvC) (n := 2) (fun _ => rfl) hr) rfl ?_
     refine qFA0 kU2 ?_
     first | refine jA9 0 tyA9 tyS9 ?_
     refine jP0 Tryz.underlying9 rfl rfl <| jG2 f8 rfl rfl <| qM rfl rfl <| jO6 rfl rfl rfl <| jO6 rfl rfl rfl <| jB8 rfl rfl <| jB8 rfl rfl <| jE9 (hZ _ _ <| f7K 3 12 19 23 25 26 27 rfl ?_)
     have hsl : (F.drop (a : Int).toNat).take (((b + 1 : Nat) : Int).toNat - (a : Int).toNat) = cutB F a b := by
      rw [cutB, x4, x4, show b + 1 - a = b - a + 1 from by omega]
     refine jF0 [(3, ptr g1 0), (12, .slice (some ⟨g4, 0, none⟩) R.length c4), (19, .slice (some ⟨g8, 0, none⟩) R.length c8), (23, iq (i : Nat)), (214, .bool false)] ([.own g1 23 [.string (str h), .string (str p), .string (str F)]] ++ (X.map (fun x => Ent.ro x.1.1 0 (fcs [(crS, jF6 x.2.1 x.2.2 F.length)])) ++ (TP ++ (rowE (.slice (some ⟨g4, 0, none⟩) R.length c4) 40 2 (R.flatMap wvC) ++ rowE (.slice (some ⟨g8, 0, none⟩) R.length c8) 52 3 (X.flatMap (rpC F)))))) jF1 (by kernel_rfl) (fun Z hZ => ?_) ?_
     ·refine qM rfl rfl <| vC5 rfl rfl rfl <| qM rfl rfl <| jJ1 193 rfl false (by rfl) ?_
      refine jA4 ?_
      refine qM rfl rfl <| jA4 ?_
      refine vC5 rfl rfl rfl <| jE1 rfl rfl rfl <| qM rfl rfl <| jJ1 197 rfl false (by rfl) ?_
      refine jA4 ?_
      refine qM rfl rfl <| jA4 ?_
      refine qFA0 kU2 ?_
      refine jA4 ?_
      first | refine jA9 0 tyA9 tyS9 ?_
      refine jA4 ?_
      refine qM rfl rfl <| jA4 ?_
      refine qM rfl rfl <| jA4 ?_
      refine jG1 (i * 2) Tryz.underlying24 tyS40 rfl rfl (by omega) (by simp) rfl ?_
      refine jA4 ?_
      refine qFA0 kT9 ?_
      refine jA4 ?_
      refine jU5 (i * 2 + 0) rfl (by omega) (fun w hw => jL3 (e := 40) hwv (kS6 R) (fun x hx => by simp only [l9, hx, true_or, or_true]) hw) (by omega) tyA3 tyS3 (kM7 (f := wvC) (n := 2) (j := 0) (fun _ => rfl) hr rfl) rfl ?_
      refine jA4 ?_
      refine qM rfl rfl <| jA4 ?_
      refine qM rfl rfl <| jA4 ?_
      refine jG1 (i * 2) Tryz.underlying24 tyS40 rfl rfl (by omega) (by simp) rfl ?_
      refine jA4 ?_
      refine qFA0 kJ7 ?_
      refine jA4 ?_
      refine jU5 (i * 2 + 1) rfl (by omega) (fun w hw => jL3 (e := 40) hwv (kS6 R) (fun x hx => by simp only [l9, hx, true_or, or_true]) hw) (by omega) tyA3 tyS3 (kM7 (f := wvC) (n := 2) (j := 1) (fun _ => rfl) hr rfl) rfl ?_
      refine jA4 ?_
      refine kL2 rfl rfl ((b + 1 : Nat) : Int) (by rw [lT _ (by omega)]; omega) rfl ?_
      refine jA4 ?_
      refine kL1 (cutB F a b) Tryz.underlying9 rfl rfl rfl (by omega) (by omega) (by omega) hsl rfl ?_
      refine jA4 ?_
      refine wF3 rfl rfl rfl <| jE1 rfl rfl rfl <| jE9 (hZ _ _ ?_ ?_)
      ·exact kE rfl (kE rfl (kE rfl (kE rfl (kE (congrArg some (congrArg Value.bool (by simp))) kF))))
      ·exact hV _
     refine aC0 (fun h6 => ?_) (fun h6 => ?_)
     ·cases h6
     refine aK ?_
     repeat (with_reducible refine nBN ?_)
     refine nN ?_
     refine aG (fun Z hZ => ?_)
     refine sM rfl rfl ?_
     refine jB7 rfl rfl ((i + 1 : Nat) : Int) (by rw [lT _ (by omega)]; omega) rfl ?_
     refine sAN hZ rfl rfl <| nF [(3, _), (12, _), (19, _), (23, _)] (kR rfl) <| jC2 (i + 1) hlt (by omega) (kR rfl) (hV _)
    ·refine jB5 ?_
     repeat (with_reducible refine nTE ?_)
     refine nBE ?_
     refine nN ?_
     refine aR (fun Z hZ => ?_)
     refine sCP0 fA ?_
     refine sAN hZ rfl rfl <| f1K 6 rfl <| aE <| nR10 rfl
end
end Go.Proofs.YteofkgedfjffcaaGreatDoor
