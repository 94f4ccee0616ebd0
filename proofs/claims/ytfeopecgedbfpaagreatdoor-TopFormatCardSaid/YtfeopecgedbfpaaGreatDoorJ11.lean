/- Walks and plain laws for this claim (texts Jn3, Jn4, Fm1, SxRg, Au1, Au2, Au3, Mg4, Lf10, Lf11, Lf12, Lf13, Lf14, Lf15, joined). Each theorem states its own conditions. -/
import Derived.Test.YtfeopecgedbfpaaGreatDoorJ10
import Derived.Maps.RangeRun
import Derived.Handy
import Derived.Shelf.SlSortCmp.QuietGrown
import Derived.Shelf.Small.Bits
set_option linter.all false
namespace Go.Proofs.YtfeopecgedbfpaaGreatDoor
section
open Go.RowKit
set_option maxRecDepth 100000
theorem wO3 : ElemOk Tryz.prog 73 261 2 32 := ElemOk.mk_ (z := .agg #[.string ⟨#[]⟩, .nilIface]) Tryz.underlying73 (by kernel_rfl) rfl (by omega)
theorem yU8 : ElemOk Tryz.prog 257 20 1 16 := ElemOk.mk_ (z := .nilIface) Tryz.underlying257 (by kernel_rfl) rfl (by omega)
abbrev vA8 (g deep gl gr gd : Nat) (v : Value) : Heap := [.own gl 257 [v], .own gr 143 [ptr g 0], .own gd 3 [iq (deep : Nat)]]
abbrev ObjE (g deep gl gr gd : Nat) (v : Value) : Heap := [.own gl 73 [v], .own gr 143 [ptr g 0], .own gd 3 [iq (deep : Nat)]]
def RdFn (f : FuncId) (g : Nat) (s : List UInt8) (T : Heap) (deep : Nat) (Q : Nat → Nat × Nat × Nat) (i : Nat) : Prop :=
 Fn Tryz.prog f [ptr g 0, iq (deep : Nat)] ([rdr g s i 0] ++ T) fun v H' => TagIs (Q i).1 v ∧ H' = [rdr g s (Q i).2.1 (Q i).2.2]
def lstQ (s : List UInt8) (V : Nat → Nat × Nat × Nat) (i : Nat) : Nat × Nat × Nat := (2, (vG2 s 93 (fun (_ : Unit) j => ((), (V j).2)) () i).2)
theorem TagIs.any {t : Nat} {v : Value} (h : TagIs t v) : IsAny v := by
 unfold TagIs at h
 split at h
 ·obtain ⟨x, rfl⟩ := h; exact .inr ⟨_, _, rfl⟩
 ·rcases h with rfl | ⟨k, x, _, rfl⟩
  ·exact .inl rfl
  ·exact .inr ⟨_, _, rfl⟩
theorem vT4 {r : Ent} (hr : r.wr = true) {A B C : Heap} (hA : Wrs A) : (r :: A).Sublist ((r :: (A ++ B)).filter Ent.wr ++ C) := by
 rw [List.filter_cons_of_pos hr, zB, hA.filter]
 exact ((lS A _).cons_cons r).trans (lS _ _)
theorem yU2 {x : Value} (h : IsAny x) : kA5 (fun i => some (i * 1, 1)) (zrep (1 * 1) [Value.nilIface]) (jR3 [(0, x)]) = some [x] := by
 rcases h with rfl | ⟨k, z, rfl⟩ <;> rfl
theorem yC2 {t : List UInt8} {x : Value} (h : IsAny x) : kA5 (fun i => [(0, 1), (1, 1)][i]?) [Value.string ⟨#[]⟩, Value.nilIface] (jR3 [(0, Value.string (str t)), (1, x)]) = some [.string (str t), x] := by
 rcases h with rfl | ⟨k, z, rfl⟩ <;> rfl
theorem wZ9 (g : Nat) (s : List UInt8) (deep : Nat) (hd : deep ≤ 4) (T : Heap) (hro : Ro T) (V : Nat → Nat × Nat × Nat) (gl gr gd n : Nat) (v : Value) (xs : List Value) (i : Nat)
  (hV : RdFn 65 g s T (deep + 1) V i) (hv : RowOk v xs.length) (hl : xs.length ≤ 100) :
  Fn Tryz.prog 161 [iq (n : Nat), ptr gl 0, ptr gr 0, ptr gd 0] (rdr g s i 0 :: ((vA8 g deep gl gr gd v ++ rowE v 20 1 xs) ++ T)) fun u H' => u = .tuple #[] ∧ ∃ v' x, RowOk v' (xs.length + 1) ∧ H' = rdr g s (V i).2.1 (V i).2.2 :: (vA8 g deep gl gr gd v' ++ rowE v' 20 1 (xs ++ [x])) := by
 refine Fn.enter (N := 12) Tryz.func161 rfl (by kernel_rfl) rfl (fun w0 => ?_)
 refine jS4 _ [(0, true), (1, true), (2, true), (3, true), (4, false), (5, false), (6, false)] 7 rfl mixed (by kernel_rfl) (HLe.pick [1, 2, 3] (by simp) (by simp only [pick, l7, qS]; rfl)) (fun Z hZ => ?_)
 refine tw_p rfl <| jE6 0 rfl rfl tyA257 tyS257 rfl rfl <| vN <| tw_p rfl <| jE6 1 rfl rfl tyA143 tyS143 rfl rfl <| vN <| tw_p rfl <| jE6 2 rfl rfl tyA3 tyS3 rfl rfl <| vN <| tw_p rfl ?_
 refine kH8 rfl rfl ((deep + 1 : Nat) : Int) (by rw [lT _ (by omega)]; omega) rfl ?_
 refine vN <| tw_g rfl <| jK1 [rdr g s i 0] T ((vA8 g deep gl gr gd v ++ rowE v 20 1 xs) ++ T) hV rfl (HLe.refl _) (lP _ T) hro rfl ?_
 rintro x H' ⟨hx, rfl⟩
 refine jC3 (rdr g s (V i).2.1 (V i).2.2 :: ((vA8 g deep gl gr gd v ++ rowE v 20 1 xs) ++ T)) (HLe.refl _) <| sN ⟨HLe.pick [1, 2, 3] (by simp) rfl, ?_⟩
 refine tw_g rfl <| sBS (cs' := [x]) Tryz.underlying257 tyS20 tyZ20 rfl rfl rfl (yU2 hx.any) rfl rfl (fun g9 => sN ⟨HLe.pick [2, 3, 4] (by simp) rfl, ?_⟩)
 refine tw_g rfl <| jC9 [_, _, _, _, _] yU8 rfl hv (by rw [zE]) rfl (fun w hw => jJ3 (i := 0) (n := 1) (xs := [x]) rfl rfl hw) (by simp [hx.any.one]) (by show _ ≤ 9223372036854775807; omega) (by omega) (HLe.sub ((lS (rowE v 20 1 xs) T).append_left [_, _, _, _, _])) rfl (fun v2 hv2 => ?_)
 obtain ⟨A2, c2, rfl, hA2⟩ := hv2.form
 refine sN ⟨HLe.pick [2, 3, 4] (by simp) rfl, ?_⟩
 refine jI7 <| sS10 2 tyS257 ?_
 refine sN (hZ _ _ <| nF [] (Kn.nil) <| jH5 (rdr g s (V i).2.1 (V i).2.2 :: (vA8 g deep gl gr gd (.slice A2 (xs.length + 1) c2) ++ rowE (.slice A2 (xs.length + 1) c2) 20 1 (xs ++ [x]))) rfl (HLe.sub (x4 _ _)) ⟨rfl, _, x, hv2, rfl⟩)
theorem yR6 (g : Nat) (s : List UInt8) (hs : s.length ≤ 100000) (deep : Nat) (hd : deep ≤ 4) (T : Heap) (hro : Ro T) (V : Nat → Nat × Nat × Nat) (hV : ∀ i, i ≤ s.length → RdFn 65 g s T (deep + 1) V i)
  (h1 : ∀ i, i ≤ s.length → (V i).2.1 ≤ s.length) (h2 : (V s.length).2.2 ≠ 0) (i : Nat) (hi : i < s.length) (ha : jG9 s i 91 = true) : RdFn 119 g s T deep (lstQ s V) i := by
 unfold RdFn lstQ
 refine Fn.enter (N := 13) Tryz.func119 rfl (by kernel_rfl) rfl (fun w0 => ?_)
 refine aR (fun Z hZ => jB5 (fun g1 => ?_))
 refine jB5 (fun g2 => ?_)
 refine sAN hZ rfl rfl <| f2K 2 3 rfl <| aR (fun Z hZ => jI4 Tryz.underlying257 tyS20 rfl (fun gs => sAl tyZ257 rfl (fun g3 => sS10 0 tyS257 ?_)))
 refine sN (hZ _ _ <| f3K 2 3 5 rfl ?_)
 have hE := vE0 g s 91 93 hs T hro 161 [ptr g3 0, ptr g1 0, ptr g2 0] (fun t : Value × List Value => vA8 g deep g3 g1 g2 t.1 ++ rowE t.1 20 1 t.2) (fun _ => ()) (fun n t => RowOk t.1 t.2.length ∧ t.2.length = n) (fun _ j => ((), (V j).2))
  (fun t => Wrs.append (Wrs.cons rfl (Wrs.cons rfl (Wrs.cons rfl Wrs.nil))) (jI9 _ _ _ _)) (fun _ => h1) (fun _ => h2)
  (fun n t i hn hi hiv => wL6 (wZ9 g s deep hd T hro V g3 g1 g2 n t.1 t.2 i (hV i hi) hiv.1 (by have := hiv.2; omega)) fun v H' hv => by
   obtain ⟨rfl, v', x, hv', rfl⟩ := hv
   exact ⟨rfl, (v', t.2 ++ [x]), ⟨by simpa using hv', by simp [hiv.2]⟩, rfl, rfl⟩)
  (.slice (some ⟨gs, 0, none⟩) 0 0, []) ⟨RowOk.mk gs 0 0, rfl⟩ i deep hd hi ha
 refine jA6 (rdr g s i 0 :: ((vA8 g deep g3 g1 g2 (.slice (some ⟨gs, 0, none⟩) 0 0) ++ rowE (.slice (some ⟨gs, 0, none⟩) 0 0) 20 1 []) ++ T)) ((HLe.ownRow (size := 1) (n := 0) [rdr g s i 0, .own g3 257 [.slice (some ⟨gs, 0, none⟩) 0 0], .own g1 143 [ptr g 0], .own g2 3 [iq (deep : Nat)]] T rfl (xD _)).trans (HLe.pickT (A := [_, _, _, _, _]) [4, 0, 3, 2, 1] (by simp) rfl hro)) ?_
 refine aR (fun Z hZ => sL0 2 tyA143 tyS143 ?_)
 refine sL0 3 tyA3 tyS3 ?_
 refine jH1 rfl rfl <| jA5 (rdr g s i 0 :: ((vA8 g deep g3 g1 g2 (.slice (some ⟨gs, 0, none⟩) 0 0) ++ rowE (.slice (some ⟨gs, 0, none⟩) 0 0) 20 1 []) ++ T)) [] hE rfl (by rw [lH]; exact HLe.refl _) rfl ?_
 rintro v H' ⟨rfl, ⟨v', xs⟩, _, rfl⟩
 refine jC3 (rdr g s _ _ :: vA8 g deep g3 g1 g2 v') (HLe.sub (vT4 rfl (Wrs.cons rfl (Wrs.cons rfl (Wrs.cons rfl Wrs.nil))))) <| sN (hZ _ _ <| f1K 5 rfl <| aR (fun Z hZ => sL0 1 tyA257 tyS257 ?_))
 refine jK8 Tryz.underlying257 rfl rfl rfl <| sAN hZ rfl rfl <| f1K 4 rfl <| aE <| jC1 [rdr g s _ _] rfl rfl (HLe.pick [0] (by simp) rfl) ⟨.inr ⟨_, _, by decide, rfl⟩, rfl⟩
theorem wZ8 (g : Nat) (s : List UInt8) (deep : Nat) (hd : 4 < deep) (hd2 : deep ≤ 100) (T : Heap) (hro : Ro T) (i : Nat) : RdFn 119 g s T deep (fun i => (2, i, 20)) i := by
 unfold RdFn
 refine Fn.enter (N := 13) Tryz.func119 rfl (by kernel_rfl) rfl (fun w0 => ?_)
 refine aR (fun Z hZ => jB5 (fun g1 => ?_))
 refine jB5 (fun g2 => ?_)
 refine sAN hZ rfl rfl <| f2K 2 3 rfl <| aR (fun Z hZ => jI4 Tryz.underlying257 tyS20 rfl (fun gs => sAl tyZ257 rfl (fun g3 => sS10 0 tyS257 ?_)))
 refine sN (hZ _ _ <| f3K 2 3 5 rfl <| jA6 [rdr g s i 0, .own g3 257 [.slice (some ⟨gs, 0, none⟩) 0 0], .own g1 143 [ptr g 0], .own g2 3 [iq (deep : Nat)]] ((HLe.pickT (A := [_, _, _, _, _]) (T := []) [4, 0, 3, 2] (by simp) rfl Ro.nil).trans (HLe.sub (zS (lN T) [_, _, _, _, _]))) ?_)
 refine aR (fun Z hZ => sL0 2 tyA143 tyS143 ?_)
 refine sL0 3 tyA3 tyS3 ?_
 refine jH1 rfl rfl <| jA5 [rdr g s i 0] [.own g3 257 [.slice (some ⟨gs, 0, none⟩) 0 0]] (vE1 g s i deep 91 93 _ hd hd2) rfl (HLe.pick [0, 1] (by simp) rfl) rfl ?_
 rintro v H' ⟨rfl, rfl⟩
 refine jC3 [rdr g s i 20, .own g3 257 [.slice (some ⟨gs, 0, none⟩) 0 0]] (HLe.refl _) <| sN (hZ _ _ <| f1K 5 rfl <| aR (fun Z hZ => sL0 1 tyA257 tyS257 ?_))
 refine jK8 Tryz.underlying257 rfl rfl rfl <| sAN hZ rfl rfl <| f1K 4 rfl <| aE <| jC1 [rdr g s i 20] rfl rfl (HLe.pick [0] (by simp) rfl) ⟨.inr ⟨_, _, by decide, rfl⟩, rfl⟩
abbrev pcl (p : List UInt8 × Value) : List Value := [.string (str p.1), p.2]
abbrev jG3 (L : List (List UInt8 × Value)) : List Value := L.flatMap pcl
theorem zD1 (gb : Nat) (t : List UInt8) (p : List UInt8 × Value) : Fn Tryz.prog 203 ([.agg (pcl p).toArray] ++ [ptr gb 0]) [.ro gb 0 [.string (str t)]] fun v _ => v = .bool (p.1 == t) := by
 refine Fn.enter (N := 8) Tryz.func203 rfl (by kernel_rfl) rfl (fun w0 => ?_)
 refine aR (fun Z hZ => jB5 (fun g1 => ?_))
 refine sAN hZ rfl rfl <| f2K 1 2 rfl <| aR (fun Z hZ => sFA0 wT8 ?_)
 refine sL0 0 tyA9 tyS9 ?_
 refine jB4 1 rfl rfl 0 rfl tyA9 tyS9 rfl rfl <| jU4 rfl rfl rfl <| sAN hZ rfl rfl <| f1K 3 rfl <| aE <| nR10 rfl
theorem wJ1 (t : List UInt8) : Fn Tryz.prog 164 [.string (str t)] [] fun v H' => ∃ gb, v = .func (.func 203) #[] #[ptr gb 0] ∧ H' = [.own gb 9 [.string (str t)]] := by
 refine Fn.enter (N := 4) Tryz.func164 rfl (by kernel_rfl) rfl (fun w0 => ?_)
 refine aR (fun Z hZ => jB5 (fun g1 => ?_))
 refine sAN hZ rfl rfl <| f1K 1 rfl <| aR (fun Z hZ => jH1 rfl rfl <| sAN hZ rfl rfl <| f1K 2 rfl <| aE <| jC1 _ rfl rfl (HLe.refl _) ⟨_, rfl, rfl⟩)
theorem yS8 (A : Option Addr) (c : Nat) (L : List (List UInt8 × Value)) (hA : SlOk A L.length) (hL : L.length ≤ 1000) (gb : Nat) (t : List UInt8) :
  Fn Tryz.prog 202 [.slice A L.length c, .func (.func 203) #[] #[ptr gb 0]] ([.ro gb 0 [.string (str t)]] ++ roE A (jG3 L)) fun v _ => ∃ m : Int, v = iq m ∧ (0 ≤ m ↔ t ∈ L.map Prod.fst) := by
 refine Fn.enter (N := 19) Tryz.func202 rfl (by kernel_rfl) rfl (fun w0 => ?_)
 refine aA rfl rfl <| f2K 0 1 rfl <| aS <| aR fun Z hZ => sM rfl rfl <| jE2 Tryz.underlying73 rfl rfl <| sMN hZ rfl rfl <| f4K 0 1 7 8 rfl <| aB ?_
 refine jB9 (ι := Nat) (fun k => [(0, .slice A L.length c), (1, .func (.func 203) #[] #[ptr gb 0]), (7, iq (L.length : Nat)), (8, iq (k : Nat))]) (fun _ => [.ro gb 0 [.string (str t)]] ++ roE A (jG3 L))
  (fun k => k ≤ L.length ∧ (t ∈ (L.drop k).map Prod.fst ↔ t ∈ L.map Prod.fst)) (fun k => L.length - k) 0 ⟨by simp, Iff.rfl⟩ (kR rfl) (HLe.refl _) ?_
 rintro k ⟨hk, hq⟩
 refine aR (fun Z hZ => jB2 ?_)
 refine sN (hZ _ _ <| f5K 0 1 7 8 9 rfl <| aS (aC0 (fun h => ?_) (fun h => ?_)))
 ·have hlt : k < L.length := by simpa using h
  obtain ⟨x, hx⟩ : ∃ x, L[k]? = some x := ⟨_, xC hlt⟩
  have hxe : L[k] = x := lV ((xC hlt).symm.trans hx)
  rw [qR hlt, hxe, xN, lY] at hq
  obtain ⟨g, o, rfl⟩ := hA.some (by omega)
  refine aK <| nN <| aS (aB <| aR fun Z hZ => sM rfl rfl <| sAN hZ rfl rfl <| f5K 0 1 5 7 8 rfl <| aR fun Z hZ => sM rfl rfl <| sM rfl rfl <| sM rfl rfl <| jB3 (o + k * 2) Tryz.underlying73 tyS261 rfl rfl (by omega) (by simp) rfl ?_)
  refine jB4 1 rfl rfl (k * 2) rfl tyA261 tyS261 (wL7 (f := pcl) (fun _ => rfl) hx) rfl <| jU7 (caps := [ptr gb 0]) (vs := [.agg (pcl x).toArray]) [.ro gb 0 [.string (str t)]] (zD1 gb t x) rfl rfl (HLe.sub (lS [_] _)) (fun e he => by rw [List.mem_singleton.1 he]; rfl) rfl ?_
  refine sN (hZ _ _ <| f6K 0 1 5 7 8 16 rfl <| aC0 (fun hb => ?_) (fun hb => ?_))
  ·have hb' : x.1 = t := by simpa using hb
   refine aR fun Z hZ => sM rfl rfl <| sAN hZ rfl rfl <| f1K 4 rfl <| aE ?_
   repeat (with_reducible (first | refine nTR ?_ | refine nBR ?_))
   exact nR10 ⟨(k : Int), rfl, fun _ => hq.1 (.inl hb'.symm), fun _ => by omega⟩
  have hb' : x.1 ≠ t := by simpa using hb
  refine aK ?_
  repeat refine nBN ?_
  refine nN ?_
  refine aG (fun Z hZ => ?_)
  refine jC2 rfl rfl ((k + 1 : Nat) : Int) (by rw [lT _ (by omega)]; omega) rfl ?_
  refine sMN hZ rfl rfl <| nF [(0, _), (1, _), (7, _), (8, _)] (kR rfl) <| jB8 (k + 1) ⟨by omega, by rw [← hq]; exact ⟨fun h => .inr h, fun h => h.resolve_left fun e => hb' e.symm⟩⟩ (by omega) (kR rfl) (HLe.refl _)
 ·have hno : ¬ t ∈ L.map Prod.fst := by
   rw [← hq, List.drop_eq_nil_of_le (by simp at h; omega)]
   simp
  refine jB1 ?_
  repeat refine nTE ?_
  refine nBE <| nN <| aA rfl rfl <| f1K 4 rfl <| aE <| nR10 ⟨-1, rfl, fun h => by omega, fun h => absurd h hno⟩
theorem yW3 (A : Option Addr) (c : Nat) (L : List (List UInt8 × Value)) (hA : SlOk A L.length) (hL : L.length ≤ 1000) (gb : Nat) (t : List UInt8) :
  Fn Tryz.prog 163 [.slice A L.length c, .func (.func 203) #[] #[ptr gb 0]] ([.ro gb 0 [.string (str t)]] ++ roE A (jG3 L)) fun v _ => v = .bool (decide (t ∈ L.map Prod.fst)) := by
 have hro : Ro ([.ro gb 0 [.string (str t)]] ++ roE A (jG3 L)) := Ro.append (fun e he => by rw [List.mem_singleton.1 he]; rfl) (Ro.roE _ _)
 refine Fn.enter (N := 9) Tryz.func163 rfl (by kernel_rfl) rfl (fun w0 => ?_)
 refine aA rfl rfl <| f2K 0 1 rfl <| aR fun Z hZ => sM rfl rfl <| sM rfl rfl <| jU6 ([.ro gb 0 [.string (str t)]] ++ roE A (jG3 L)) (yS8 A c L hA hL gb t) rfl (HLe.refl _) hro rfl ?_
 rintro v H' ⟨m, rfl, hm⟩
 refine jO3 rfl rfl rfl ?_
 refine sAN hZ rfl rfl ?_
 refine f1K 4 rfl ?_
 refine aE ?_
 exact nR1 rfl rfl (congrArg Value.bool (by rw [lR]; simp [hm]))
def jV6 (s : List UInt8) (V : Nat → Nat × Nat × Nat) (L : List (List UInt8)) (i : Nat) : List (List UInt8) × Nat × Nat :=
 if (jJ0 s i).2.2 ≠ 0 then (L, (jJ0 s i).2)
 else if (jJ0 s i).1 ∈ L then (L, i, 22)
 else if jG9 s (jD2 s (jJ0 s i).2.1) 58 = true then (L ++ [(jJ0 s i).1], (V (jD2 s (jD2 s (jJ0 s i).2.1 + 1))).2)
 else (L, jD2 s (jJ0 s i).2.1, if jD2 s (jJ0 s i).2.1 = s.length then 3 else 4)
def objQ (s : List UInt8) (V : Nat → Nat × Nat × Nat) (i : Nat) : Nat × Nat × Nat := (1, (vG2 s 125 (jV6 s V) [] i).2)
theorem vE5 {s : List UInt8} {V : Nat → Nat × Nat × Nat} (h1 : ∀ i, i ≤ s.length → (V i).2.1 ≤ s.length) (L : List (List UInt8)) (i : Nat) (hi : i ≤ s.length) : (jV6 s V L i).2.1 ≤ s.length := by
 have h := (kV5 hi).1
 unfold jV6
 repeat' split
 ·exact h
 ·exact hi
 ·rename_i hs; exact h1 _ (jJ6 (kF7 hs)).2
 all_goals exact (jJ6 h).2
theorem vX5 (s : List UInt8) (V : Nat → Nat × Nat × Nat) (L : List (List UInt8)) : (jV6 s V L s.length).2.2 ≠ 0 := by
 have h : jJ0 s s.length = ([], s.length, 3) := by unfold jJ0; rw [if_pos (xB _)]
 unfold jV6
 rw [h, if_pos (show (3 : Nat) ≠ 0 by decide)]
 show (3 : Nat) ≠ 0
 decide
theorem vX4 (g : Nat) (s : List UInt8) (hs : s.length ≤ 100000) (deep : Nat) (hd : deep ≤ 4) (er es : Value) (V : Nat → Nat × Nat × Nat) (hV : ∀ i, i ≤ s.length → RdFn 65 g s (TJ er es) (deep + 1) V i)
  (gl gr gd n : Nat) (v : Value) (L : List (List UInt8 × Value)) (i : Nat) (hi : i ≤ s.length) (hv : RowOk v L.length) (hl : L.length ≤ 100) :
  Fn Tryz.prog 162 [iq (n : Nat), ptr gr 0, ptr gl 0, ptr gd 0] (rdr g s i 0 :: ((ObjE g deep gl gr gd v ++ rowE v 261 2 (jG3 L)) ++ TJ er es)) fun u H' => u = .tuple #[] ∧ ∃ v' L', RowOk v' L'.length ∧ L'.length ≤ L.length + 1 ∧ L'.map Prod.fst = (jV6 s V (L.map Prod.fst) i).1 ∧ H' = rdr g s (jV6 s V (L.map Prod.fst) i).2.1 (jV6 s V (L.map Prod.fst) i).2.2 :: (ObjE g deep gl gr gd v' ++ rowE v' 261 2 (jG3 L')) := by
 have ht := vD7 g s i hs hi
 have htl := kV5 hi
 have hO : jV6 s V (L.map Prod.fst) i = if (jJ0 s i).2.2 ≠ 0 then (L.map Prod.fst, (jJ0 s i).2)
  else if (jJ0 s i).1 ∈ L.map Prod.fst then (L.map Prod.fst, i, 22)
  else if jG9 s (jD2 s (jJ0 s i).2.1) 58 = true then (L.map Prod.fst ++ [(jJ0 s i).1], (V (jD2 s (jD2 s (jJ0 s i).2.1 + 1))).2)
  else (L.map Prod.fst, jD2 s (jJ0 s i).2.1, if jD2 s (jJ0 s i).2.1 = s.length then 3 else 4) := rfl
 rw [hO]
 clear hO
 obtain ⟨t, j, e, hq⟩ : ∃ t j e, jJ0 s i = (t, j, e) := ⟨_, _, _, rfl⟩
 rw [hq] at ht htl ⊢
 simp only at ht htl ⊢
 have hjl := htl.1
 clear htl hq
 refine Fn.enter (N := 48) Tryz.func162 rfl (by kernel_rfl) rfl (fun w0 => ?_)
 refine aR (fun Z hZ => sL0 2 tyA143 tyS143 ?_)
 refine jA0 ?_
 refine sFA0 jC5 ?_
 refine sL0 0 tyA3 tyS3 ?_
 refine sAN hZ rfl rfl <| f4K 1 2 3 5 rfl <| aR (fun Z hZ => sL0 2 tyA143 tyS143 ?_)
 refine jK1 [rdr g s i 0] T8 ((ObjE g deep gl gr gd v ++ rowE v 261 2 (jG3 L)) ++ TJ er es) ht rfl (HLe.refl _) ((yJ7 er es).trans (lP _ _)) vZ8 rfl ?_
 rintro x H' ⟨rfl, rfl⟩
 refine jC3 (rdr g s j e :: ((ObjE g deep gl gr gd v ++ rowE v 261 2 (jG3 L)) ++ TJ er es)) (HLe.refl _) <| sAN hZ rfl rfl <| f5K 1 2 3 5 6 rfl ?_
 by_cases he : e ≠ 0
 ·rw [if_pos he, if_neg he]
  refine aS <| jE8 [(1, ptr gr 0), (2, ptr gl 0), (3, ptr gd 0), (5, iq (i : Nat)), (6, .string (str [])), (23, .bool false)] (rdr g s j e :: ((ObjE g deep gl gr gd v ++ rowE v 261 2 (jG3 L)) ++ TJ er es)) mixed (by kernel_rfl) (fun Z hZ => ?_) ?_
  ·refine jB6 2 tyA143 tyS143 ?_
   refine jA9 rfl rfl <| qFA0 jH9 ?_
   refine jB6 0 tyA33 tyS33 ?_
   refine jM6 rfl rfl rfl <| qM rfl rfl <| jL7 18 rfl false (by simp; omega) ?_
   refine qO0 ?_
   refine qO0 ?_
   refine qO0 ?_
   refine qO0 ?_
   refine jE3 rfl rfl rfl <| jF0 (hZ _ _ ?_ ?_)
   ·exact kR rfl
   ·exact HLe.refl _
  refine aC0 (fun h => ?_) (fun h => ?_)
  ·cases h
  refine aK <| nN <| aS <| aR (fun Z hZ => sL0 2 tyA143 tyS143 ?_)
  refine jA0 ?_
  refine sFA0 jH9 ?_
  refine sL0 0 tyA33 tyS33 ?_
  refine jC7 ?_
  refine sN (hZ _ _ <| f5K 1 2 3 6 31 rfl <| aC0 (fun h => ?_) (fun h => ?_))
  ·refine aE ?_
   repeat refine nTR ?_
   exact jK3 (rdr g s j e :: (ObjE g deep gl gr gd v ++ rowE v 261 2 (jG3 L))) rfl (HLe.sub (lS _ (TJ er es))) ⟨rfl, v, L, hv, by omega, rfl, rfl⟩
  ·simp at h; omega
 have he' : e = 0 := by omega
 subst he'
 rw [if_neg (show ¬ (0 : Nat) ≠ 0 by simp), if_pos (rfl : (0 : Nat) = 0)]
 obtain ⟨A, c, rfl, hA, hle⟩ := hv.ro
 refine aS <| jD3 _ [(0, true), (1, true), (2, true), (3, true), (4, true), (5, true), (6, true), (7, true), (8, false), (9, false), (10, true)] mixed (by kernel_rfl) (HLe.pick [0, 1, 2] (by simp) (by simp only [pick, l7, qS]; rfl)) (fun Z hZ => ?_)
 refine tw_p rfl <| jE6 2 rfl rfl tyA143 tyS143 rfl rfl <| vN <| tw_p rfl <| jE0 rfl rfl <| vN <| tw_p rfl <| jA7 jH9 ?_
 refine vN <| tw_p rfl <| jE6 0 rfl rfl tyA33 tyS33 rfl rfl <| vN <| tw_p rfl <| yG5 rfl rfl rfl <| vN <| tw_p rfl <| jA8 ?_
 refine vN <| wU0 18 rfl true (by first | rfl | (simp; done) | (simp; omega) | (simp [hF]; done)) ?_
 refine tw_p rfl <| zA6 rfl rfl rfl <| jE6 1 rfl rfl tyA73 tyS73 rfl rfl <| vN <| tw_p rfl <| zA6 rfl rfl rfl <| jA8 ?_
 refine vN <| tw_g rfl <| sOn0 ?_
 refine jA5 [] _ (wJ1 t) rfl (HLe.refl _) rfl ?_
 rintro v8 H' ⟨gb, rfl, rfl⟩
 refine jC3 ([rdr g s j 0, .own gl 73 [.slice A L.length c], .own gr 143 [ptr g 0], .own gd 3 [iq (deep : Nat)]] ++ ([.own gb 9 [.string (str t)]] ++ (rowE (.slice A L.length c) 261 2 (jG3 L) ++ TJ er es))) (HLe.comm3 [_] [_, _, _, _] _) <| sN ⟨HLe.pick [0, 1, 2] (by simp) rfl, ?_⟩
 refine tw_g rfl <| sOn0 ?_
 refine jO2 ([.ro gb 0 [.string (str t)]] ++ roE A (jG3 L)) (yW3 A c L hA (by omega) gb t) rfl (((HLe.sub (zS (lS (roE A (jG3 L)) (TJ er es)) [_])).trans ((HLe.toRo [] _).trans (HLe.drop (a := .own gb 9 [.string (str t)] :: (roE A (jG3 L) ++ TJ er es)) (b := [rdr g s j 0, .own gl 73 [.slice A L.length c], .own gr 143 [ptr g 0], .own gd 3 [iq (deep : Nat)], .own gb 9 [.string (str t)]] ++ (roE A (jG3 L) ++ TJ er es)) 4 rfl))).trans (hle [_, _, _, _, _] _ _ _ _)) (Ro.append (fun e he => by rw [List.mem_singleton.1 he]; rfl) (Ro.roE _ _)) rfl ?_
 refine sN ⟨HLe.pick [0, 1, 2] (by simp) rfl, ?_⟩
 refine tw_p rfl <| yM8 rfl rfl rfl <| vN <| jI7 (hZ _ _ <| f6K 1 2 3 5 6 23 rfl <| jA6 (rdr g s j 0 :: ((ObjE g deep gl gr gd (.slice A L.length c) ++ rowE (.slice A L.length c) 261 2 (jG3 L)) ++ TJ er es)) (HLe.mid [_, _, _, _] [_] _) <| aC0 (fun h => ?_) (fun h => ?_))
 ·have h' : t ∈ L.map Prod.fst := by simpa using h
  rw [if_pos h']
  refine aG (fun Z hZ => sL0 2 tyA143 tyS143 ?_)
  refine sM rfl rfl <| jA5 [rdr g s j 0] ((ObjE g deep gl gr gd (.slice A L.length c) ++ rowE (.slice A L.length c) 261 2 (jG3 L)) ++ TJ er es) (jJ2 g s j i 22) rfl (HLe.refl _) rfl ?_
  rintro x H' ⟨rfl, rfl⟩
  refine jC3 (rdr g s i 22 :: ((ObjE g deep gl gr gd (.slice A L.length c) ++ rowE (.slice A L.length c) 261 2 (jG3 L)) ++ TJ er es)) (HLe.refl _) <| sN (hZ _ _ <| nF [(1, _), (2, _), (3, _), (6, _)] (kR rfl) <| nN <| aS <| aR (fun Z hZ => sL0 2 tyA143 tyS143 ?_))
  refine jA0 ?_
  refine sFA0 jH9 ?_
  refine sL0 0 tyA33 tyS33 ?_
  refine jC7 ?_
  refine sN (hZ _ _ <| f5K 1 2 3 6 31 rfl <| aC0 (fun h2 => ?_) (fun h2 => ?_))
  ·refine aE ?_
   repeat refine nTR ?_
   exact jK3 (rdr g s i 22 :: (ObjE g deep gl gr gd (.slice A L.length c) ++ rowE (.slice A L.length c) 261 2 (jG3 L))) rfl (HLe.sub (lS _ (TJ er es))) ⟨rfl, _, L, hv, by omega, rfl, rfl⟩
  ·cases h2
 have h' : ¬ t ∈ L.map Prod.fst := by simpa using h
 rw [if_neg h']
 refine aK <| nN <| aS <| aR (fun Z hZ => sL0 2 tyA143 tyS143 ?_)
 refine jA0 ?_
 refine sFA0 jH9 ?_
 refine sL0 0 tyA33 tyS33 ?_
 refine jC7 ?_
 refine sN (hZ _ _ <| f5K 1 2 3 6 31 rfl <| aC0 (fun h2 => ?_) (fun h2 => ?_))
 ·cases h2
 refine aK <| nN ?_
 have hbj := jJ6 hjl
 obtain ⟨b, hb⟩ := xZ9 (jD2 s j)
 have q1 := jO4 g s j 0 hjl (by omega)
 rw [hb] at q1 hbj ⊢
 have q2 := kJ9 g s b 0 58 hbj.2 (by omega)
 refine aR (fun Z hZ => sL0 2 tyA143 tyS143 ?_)
 refine jA5 [rdr g s j 0] ((ObjE g deep gl gr gd (.slice A L.length c) ++ rowE (.slice A L.length c) 261 2 (jG3 L)) ++ TJ er es) q1 rfl (HLe.refl _) rfl ?_
 rintro x H' ⟨rfl, rfl⟩
 refine jC3 (rdr g s b 0 :: ((ObjE g deep gl gr gd (.slice A L.length c) ++ rowE (.slice A L.length c) 261 2 (jG3 L)) ++ TJ er es)) (HLe.refl _) <| sN (hZ _ _ <| f4K 1 2 3 6 rfl ?_)
 by_cases hs1 : jG9 s b 58 = true
 ·rw [hs1, if_pos rfl] at q2
  rw [if_pos hs1]
  have hcl := kF7 hs1
  have hbl := (jJ6 (s := s) (i := b + 1) hcl).2
  obtain ⟨d, hd'⟩ : ∃ d, jD2 s (b + 1) = d := ⟨_, rfl⟩
  rw [hd'] at q2 hbl ⊢
  have hv2 := hV d hbl
  refine aS <| aR (fun Z hZ => sL0 2 tyA143 tyS143 ?_)
  refine jA5 [rdr g s b 0] ((ObjE g deep gl gr gd (.slice A L.length c) ++ rowE (.slice A L.length c) 261 2 (jG3 L)) ++ TJ er es) q2 rfl (HLe.refl _) rfl ?_
  rintro x H' ⟨rfl, rfl⟩
  refine jC3 (rdr g s d 0 :: ((ObjE g deep gl gr gd (.slice A L.length c) ++ rowE (.slice A L.length c) 261 2 (jG3 L)) ++ TJ er es)) (HLe.refl _) <| jI8 rfl rfl <| sN (hZ _ _ <| f5K 1 2 3 6 36 rfl <| aC0 (fun h3 => ?_) (fun h3 => ?_))
  ·cases h3
  refine aK <| nN <| jS4 _ [(0, true), (1, true), (2, true), (3, true), (4, true), (5, false), (6, true), (7, false), (8, false)] 9 rfl mixed (by kernel_rfl) (HLe.pick [1, 2, 3] (by simp) (by simp only [pick, l7, qS]; rfl)) (fun Z hZ => ?_)
  refine tw_p rfl <| jE6 0 rfl rfl tyA73 tyS73 rfl rfl <| vN <| tw_p rfl <| jA8 ?_
  refine vN <| tw_p rfl <| jE6 1 rfl rfl tyA143 tyS143 rfl rfl <| vN <| tw_p rfl <| jE6 2 rfl rfl tyA3 tyS3 rfl rfl <| vN <| tw_p rfl <| kH8 rfl rfl ((deep + 1 : Nat) : Int) (by rw [lT _ (by omega)]; omega) rfl ?_
  refine vN <| tw_g rfl <| jK1 [rdr g s d 0] (TJ er es) ((ObjE g deep gl gr gd (.slice A L.length c) ++ rowE (.slice A L.length c) 261 2 (jG3 L)) ++ TJ er es) hv2 rfl (HLe.refl _) (lP _ _) (kA9 _ _) rfl ?_
  rintro x H' ⟨hx, rfl⟩
  refine jC3 (rdr g s (V d).2.1 (V d).2.2 :: ((ObjE g deep gl gr gd (.slice A L.length c) ++ rowE (.slice A L.length c) 261 2 (jG3 L)) ++ TJ er es)) (HLe.refl _) <| sN ⟨HLe.pick [1, 2, 3] (by simp) rfl, ?_⟩
  refine tw_p rfl <| kJ6 (cs' := [.string (str t), x]) tyZ261 tyP261 rfl (yC2 hx.any) rfl rfl <| vN <| tw_g rfl <| sBS0 Tryz.underlying73 tyS261 tyZ261 (fun g1 => ?_)
  refine sN ⟨HLe.pick [2, 3, 4] (by simp) rfl, ?_⟩
  refine tw_g rfl <| jC9 [_, _, _, _, _] wO3 rfl hv (kD6 (f := pcl) (fun _ => rfl) (L := L)) rfl (fun w hw => jJ3 (i := 0) (n := 1) (xs := pcl (t, x)) rfl rfl hw) (by simp [pcl, hx.any.one]; rfl) (by show _ ≤ 9223372036854775807; omega) (by omega) (HLe.sub ((lS (rowE (.slice A L.length c) 261 2 (jG3 L)) (TJ er es)).append_left [_, _, _, _, _])) rfl (fun v2 hv2 => ?_)
  obtain ⟨A2, c2, rfl, hA2⟩ := hv2.form
  refine sN ⟨HLe.pick [2, 3, 4] (by simp) rfl, ?_⟩
  refine jI7 <| sS10 2 tyS73 ?_
  refine sN (hZ _ _ <| nF [] (Kn.nil) <| jH5 (rdr g s (V d).2.1 (V d).2.2 :: (ObjE g deep gl gr gd (.slice A2 (L.length + 1) c2) ++ rowE (.slice A2 (L.length + 1) c2) 261 2 (jG3 L ++ pcl (t, x)))) rfl (HLe.sub (x4 _ _)) ⟨rfl, _, L ++ [(t, x)], by simpa using hv2, by simp, by simp, by rw [show jG3 (L ++ [(t, x)]) = jG3 L ++ pcl (t, x) by simp [jG3]]⟩)
 have hs1' : jG9 s b 58 = false := by simpa using hs1
 rw [hs1', if_neg (by decide)] at q2
 rw [if_neg hs1]
 refine aS <| aR (fun Z hZ => sL0 2 tyA143 tyS143 ?_)
 refine jA5 [rdr g s b 0] ((ObjE g deep gl gr gd (.slice A L.length c) ++ rowE (.slice A L.length c) 261 2 (jG3 L)) ++ TJ er es) q2 rfl (HLe.refl _) rfl ?_
 rintro x H' ⟨rfl, rfl⟩
 refine jC3 (rdr g s b 0 :: ((ObjE g deep gl gr gd (.slice A L.length c) ++ rowE (.slice A L.length c) 261 2 (jG3 L)) ++ TJ er es)) (HLe.refl _) <| jI8 rfl rfl <| sN (hZ _ _ <| f5K 1 2 3 6 36 rfl <| aC0 (fun h3 => ?_) (fun h3 => ?_))
 ·skip
  refine aR (fun Z hZ => sL0 2 tyA143 tyS143 ?_)
  refine jA5 [rdr g s b 0] ((ObjE g deep gl gr gd (.slice A L.length c) ++ rowE (.slice A L.length c) 261 2 (jG3 L)) ++ TJ er es) (kC2 g s b) rfl (HLe.refl _) rfl ?_
  rintro x H' ⟨rfl, rfl⟩
  refine jC3 (rdr g s b (if b = s.length then 3 else 4) :: ((ObjE g deep gl gr gd (.slice A L.length c) ++ rowE (.slice A L.length c) 261 2 (jG3 L)) ++ TJ er es)) (HLe.refl _) <| sN (hZ _ _ <| aF [] (Kn.nil) <| aE ?_)
  repeat refine nTR ?_
  exact jK3 (rdr g s b (if b = s.length then 3 else 4) :: (ObjE g deep gl gr gd (.slice A L.length c) ++ rowE (.slice A L.length c) 261 2 (jG3 L))) rfl (HLe.sub (lS _ (TJ er es))) ⟨rfl, _, L, hv, by omega, rfl, rfl⟩
 ·cases h3
theorem wI7 (g : Nat) (s : List UInt8) (hs : s.length ≤ 100000) (deep : Nat) (hd : deep ≤ 4) (er es : Value) (V : Nat → Nat × Nat × Nat) (hV : ∀ i, i ≤ s.length → RdFn 65 g s (TJ er es) (deep + 1) V i)
  (h1 : ∀ i, i ≤ s.length → (V i).2.1 ≤ s.length) (i : Nat) (hi : i < s.length) (ha : jG9 s i 123 = true) : RdFn 120 g s (TJ er es) deep (objQ s V) i := by
 unfold RdFn objQ
 refine Fn.enter (N := 13) Tryz.func120 rfl (by kernel_rfl) rfl (fun w0 => ?_)
 refine aR (fun Z hZ => jB5 (fun g1 => ?_))
 refine jB5 (fun g2 => ?_)
 refine sAN hZ rfl rfl <| f2K 2 3 rfl <| aR (fun Z hZ => jI4 Tryz.underlying73 tyS261 rfl (fun gs => sAl tyZ73 rfl (fun g3 => sS10 0 tyS73 ?_)))
 refine sN (hZ _ _ <| f3K 2 3 5 rfl ?_)
 have hE := vE0 g s 123 125 hs (TJ er es) (kA9 _ _) 162 [ptr g1 0, ptr g3 0, ptr g2 0] (fun t : Value × List (List UInt8 × Value) => ObjE g deep g3 g1 g2 t.1 ++ rowE t.1 261 2 (jG3 t.2)) (fun t => t.2.map Prod.fst) (fun n t => RowOk t.1 t.2.length ∧ t.2.length ≤ n) (jV6 s V)
  (fun t => Wrs.append (Wrs.cons rfl (Wrs.cons rfl (Wrs.cons rfl Wrs.nil))) (jI9 _ _ _ _)) (fun L j hj => vE5 h1 L j hj) (fun L => vX5 s V L)
  (fun n t j hn hj hiv => wL6 (vX4 g s hs deep hd er es V hV g3 g1 g2 n t.1 t.2 j hj hiv.1 (by have := hiv.2; omega)) fun v H' hv => by
   obtain ⟨rfl, v', L', hv', hl', hm, rfl⟩ := hv
   exact ⟨rfl, (v', L'), ⟨hv', by have := hiv.2; show L'.length ≤ n + 1; omega⟩, hm, rfl⟩)
  (.slice (some ⟨gs, 0, none⟩) 0 0, []) ⟨RowOk.mk gs 0 0, xB _⟩ i deep hd hi ha
 refine jA6 (rdr g s i 0 :: ((ObjE g deep g3 g1 g2 (.slice (some ⟨gs, 0, none⟩) 0 0) ++ rowE (.slice (some ⟨gs, 0, none⟩) 0 0) 261 2 []) ++ TJ er es)) ((HLe.ownRow (size := 2) (n := 0) [rdr g s i 0, .own g3 73 [.slice (some ⟨gs, 0, none⟩) 0 0], .own g1 143 [ptr g 0], .own g2 3 [iq (deep : Nat)]] (TJ er es) rfl (xD _)).trans (HLe.pickT (A := [_, _, _, _, _]) [4, 0, 3, 2, 1] (by simp) rfl (kA9 _ _))) ?_
 refine aR (fun Z hZ => sL0 2 tyA143 tyS143 ?_)
 refine sL0 3 tyA3 tyS3 ?_
 refine jH1 rfl rfl <| jA5 (rdr g s i 0 :: ((ObjE g deep g3 g1 g2 (.slice (some ⟨gs, 0, none⟩) 0 0) ++ rowE (.slice (some ⟨gs, 0, none⟩) 0 0) 261 2 []) ++ TJ er es)) [] hE rfl (by rw [lH]; exact HLe.refl _) rfl ?_
 rintro v H' ⟨rfl, ⟨v', xs⟩, _, rfl⟩
 refine jC3 (rdr g s _ _ :: ObjE g deep g3 g1 g2 v') (HLe.sub (vT4 rfl (Wrs.cons rfl (Wrs.cons rfl (Wrs.cons rfl Wrs.nil))))) <| sN (hZ _ _ <| f1K 5 rfl <| aR (fun Z hZ => sL0 1 tyA73 tyS73 ?_))
 refine jK8 Tryz.underlying73 rfl rfl rfl <| sAN hZ rfl rfl <| f1K 4 rfl <| aE <| jC1 [rdr g s _ _] rfl rfl (HLe.pick [0] (by simp) rfl) ⟨⟨_, rfl⟩, rfl⟩
theorem vX3 (g : Nat) (s : List UInt8) (deep : Nat) (hd : 4 < deep) (hd2 : deep ≤ 100) (T : Heap) (hro : Ro T) (i : Nat) : RdFn 120 g s T deep (fun i => (1, i, 20)) i := by
 unfold RdFn
 refine Fn.enter (N := 13) Tryz.func120 rfl (by kernel_rfl) rfl (fun w0 => ?_)
 refine aR (fun Z hZ => jB5 (fun g1 => ?_))
 refine jB5 (fun g2 => ?_)
 refine sAN hZ rfl rfl <| f2K 2 3 rfl <| aR (fun Z hZ => jI4 Tryz.underlying73 tyS261 rfl (fun gs => sAl tyZ73 rfl (fun g3 => sS10 0 tyS73 ?_)))
 refine sN (hZ _ _ <| f3K 2 3 5 rfl <| jA6 [rdr g s i 0, .own g3 73 [.slice (some ⟨gs, 0, none⟩) 0 0], .own g1 143 [ptr g 0], .own g2 3 [iq (deep : Nat)]] ((HLe.pickT (A := [_, _, _, _, _]) (T := []) [4, 0, 3, 2] (by simp) rfl Ro.nil).trans (HLe.sub (zS (lN T) [_, _, _, _, _]))) ?_)
 refine aR (fun Z hZ => sL0 2 tyA143 tyS143 ?_)
 refine sL0 3 tyA3 tyS3 ?_
 refine jH1 rfl rfl <| jA5 [rdr g s i 0] [.own g3 73 [.slice (some ⟨gs, 0, none⟩) 0 0]] (vE1 g s i deep 123 125 _ hd hd2) rfl (HLe.pick [0, 1] (by simp) rfl) rfl ?_
 rintro v H' ⟨rfl, rfl⟩
 refine jC3 [rdr g s i 20, .own g3 73 [.slice (some ⟨gs, 0, none⟩) 0 0]] (HLe.refl _) <| sN (hZ _ _ <| f1K 5 rfl <| aR (fun Z hZ => sL0 1 tyA73 tyS73 ?_))
 refine jK8 Tryz.underlying73 rfl rfl rfl <| sAN hZ rfl rfl <| f1K 4 rfl <| aE <| jC1 [rdr g s i 20] rfl rfl (HLe.pick [0] (by simp) rfl) ⟨⟨_, rfl⟩, rfl⟩
def valH (s : List UInt8) (lst obj : Nat → Nat × Nat × Nat) (i : Nat) : Nat × Nat × Nat :=
 match s[i]? with
 | none => (0, i, 3)
 | some c => if c = 110 then kI8 s i [110, 117, 108, 108] 0 else if c = 102 then kI8 s i [102, 97, 108, 115, 101] 2 else if c = 116 then kI8 s i [116, 114, 117, 101] 2
  else if c = 34 then (2, (jJ0 s i).2) else if c = 91 then lst i else if c = 123 then obj i else if c = 45 ∨ 0 ≤ Lib.indexByte kP6 c then numQ s i else (0, i, 4)
def valQ (s : List UInt8) : Nat → Nat → Nat × Nat × Nat
 | 0 => valH s (fun i => (2, i, 20)) (fun i => (1, i, 20))
 | k + 1 => valH s (lstQ s (valQ s k)) (objQ s (valQ s k))
theorem wA7 {s : List UInt8} {lst obj : Nat → Nat × Nat × Nat} (hl : ∀ i, i < s.length → (lst i).2.1 ≤ s.length) (ho : ∀ i, i < s.length → (obj i).2.1 ≤ s.length) {i : Nat} (hi : i ≤ s.length) : (valH s lst obj i).2.1 ≤ s.length := by
 have h1 := (kV5 hi).1
 have h2 := yR0 hi
 unfold valH
 split
 ·exact hi
 ·rename_i c hc
  have hlt := (List.getElem?_eq_some_iff.1 hc).1
  repeat' split
  ·exact kT7 _ _ hi
  ·exact kT7 _ _ hi
  ·exact kT7 _ _ hi
  ·exact h1
  ·exact hl i hlt
  ·exact ho i hlt
  ·exact h2
  ·exact hi
theorem kL4 (s : List UInt8) : ∀ (k i : Nat), i ≤ s.length → (valQ s k i).2.1 ≤ s.length
 | 0, _, hi => wA7 (fun _ h => uF h) (fun _ h => uF h) hi
 | k + 1, _, hi => wA7 (lst := lstQ s (valQ s k)) (obj := objQ s (valQ s k)) (fun _ h => vT7 (one := fun (_ : Unit) j => ((), (valQ s k j).2)) (fun _ j hj => kL4 s k j hj) () h) (fun _ h => vT7 (one := jV6 s (valQ s k)) (fun L j hj => vE5 (kL4 s k) L j hj) [] h) hi
theorem wT5 (s : List UInt8) (k : Nat) : (valQ s k s.length).2.2 ≠ 0 := by
 have h : s[s.length]? = none := qL (xB _)
 cases k <;> (rw [valQ, valH, h]; exact (by decide : (3 : Nat) ≠ 0))
theorem kQ9 (g : Nat) (s : List UInt8) (hs : s.length ≤ 100000) (deep : Nat) (er es : Value) (he1 : ErOk er) (he2 : ErOk es) (lst obj : Nat → Nat × Nat × Nat) (i : Nat) (hi : i ≤ s.length)
  (hl : i < s.length → jG9 s i 91 = true → RdFn 119 g s (TJ er es) deep lst i) (ho : i < s.length → jG9 s i 123 = true → RdFn 120 g s (TJ er es) deep obj i) :
  RdFn 65 g s (TJ er es) deep (valH s lst obj) i := by
 unfold RdFn
 refine Fn.enter (N := 74) Tryz.func65 rfl (by kernel_rfl) rfl (fun w0 => ?_)
 refine aA rfl rfl <| f2K 0 1 rfl <| aS <| jC6 mixed (by kernel_rfl) (fun Z hZ => ?_)
 refine qM rfl rfl <| jA9 rfl rfl <| qFA0 jC5 ?_
 first | refine jB6 0 tyA3 tyS3 ?_
 refine qM rfl rfl <| jA9 rfl rfl <| qFA0 jG5 ?_
 first | refine jB6 0 tyA9 tyS9 ?_
 refine jQ1 Tryz.underlying9 rfl rfl <| jM6 rfl rfl rfl <| jF0 (hZ _ _ <| f3K 0 1 15 rfl <| aC0 (fun h => ?_) (fun h => ?_))
 ·have h' : s[i]? = none := qL (by simp at h; omega)
  have hw := kC2 g s i
  rw [if_pos (by simp at h; omega)] at hw
  unfold valH
  rw [h']
  refine aR fun Z hZ => sM rfl rfl <| jA5 [rdr g s i 0] (TJ er es) hw rfl (HLe.refl _) rfl ?_
  rintro v H' ⟨rfl, rfl⟩
  refine sAN hZ rfl rfl <| f1K 4 rfl <| aE ?_
  repeat refine nTR ?_
  exact jC1 [rdr g s i 3] rfl rfl (HLe.sub (lS [_] _)) ⟨jO8, rfl⟩
 have hlt : i < s.length := by simp at h; omega
 obtain ⟨c, hc⟩ : ∃ c, s[i]? = some c := ⟨_, xC hlt⟩
 have hch : ∀ k : UInt8, ((c.toNat : Int) == (k.toNat : Int)) = decide (c = k) := fun k => by
  rw [lR]
  simp only [beq_iff_eq, decide_eq_true_eq]
  exact ⟨fun h => UInt8.toNat_inj.1 (by omega), fun h => by rw [h]⟩
 have e110 := hch 110
 have e102 := hch 102
 have e116 := hch 116
 have e34 := hch 34
 have e91 := hch 91
 have e123 := hch 123
 have e45 := hch 45
 have hQ : valH s lst obj i = if c = 110 then kI8 s i [110, 117, 108, 108] 0 else if c = 102 then kI8 s i [102, 97, 108, 115, 101] 2 else if c = 116 then kI8 s i [116, 114, 117, 101] 2
  else if c = 34 then (2, (jJ0 s i).2) else if c = 91 then lst i else if c = 123 then obj i else if c = 45 ∨ 0 ≤ Lib.indexByte kP6 c then numQ s i else (0, i, 4) := by unfold valH; rw [hc]
 rw [hQ]
 clear hQ
 refine aK <| nN <| aS <| jC6 mixed (by kernel_rfl) (fun Z hZ => ?_)
 refine qM rfl rfl <| jA9 rfl rfl <| qFA0 jG5 ?_
 first | refine jB6 0 tyA9 tyS9 ?_
 refine qM rfl rfl <| jA9 rfl rfl <| qFA0 jC5 ?_
 first | refine jB6 0 tyA3 tyS3 ?_
 refine jV3 Tryz.underlying9 rfl rfl (by omega) (by simpa using hc) rfl ?_
 refine jC8 rfl rfl <| jF0 (hZ _ _ <| f3K 0 1 5 rfl <| aB <| aR fun Z hZ => sM rfl rfl <| jB0 ?_)
 refine sAN hZ rfl rfl <| f4K 0 1 5 27 rfl <| aC0 (fun h1 => ?_) (fun h1 => ?_)
 ·have h1' : c = 110 := by rw [show ((c.toNat : Int) == 110) = _ from e110] at h1; simpa using h1
  rw [if_pos h1']
  refine aR fun Z hZ => sM rfl rfl <| jA5 [rdr g s i 0] (TJ er es) (kW7 g s i [110, 117, 108, 108] .nilIface 0 jO8 hs hi (by decide)) rfl (HLe.refl _) rfl ?_
  rintro v H' ⟨hv, rfl⟩
  refine sAN hZ rfl rfl <| f1K 4 rfl <| aE ?_
  repeat (with_reducible (first | refine nTR ?_ | refine nBR ?_))
  exact jC1 [rdr g s _ _] rfl rfl (HLe.sub (lS [_] _)) ⟨hv, rfl⟩
 have h1' : ¬ c = 110 := by rw [show ((c.toNat : Int) == 110) = _ from e110] at h1; simpa using h1
 rw [if_neg h1']
 refine aR fun Z hZ => sM rfl rfl <| jB0 ?_
 refine sAN hZ rfl rfl <| f4K 0 1 5 32 rfl <| aC0 (fun h2 => ?_) (fun h2 => ?_)
 ·have h2' : c = 102 := by rw [show ((c.toNat : Int) == 102) = _ from e102] at h2; simpa using h2
  rw [if_pos h2']
  refine aR fun Z hZ => sM rfl rfl <| jK8 Tryz.underlying4 rfl rfl rfl <| jA5 [rdr g s i 0] (TJ er es) (kW7 g s i [102, 97, 108, 115, 101] (.iface 4 (.bool false)) 2 (.inr ⟨_, _, by decide, rfl⟩) hs hi (by decide)) rfl (HLe.refl _) rfl ?_
  rintro v H' ⟨hv, rfl⟩
  refine sAN hZ rfl rfl <| f1K 4 rfl <| aE ?_
  repeat (with_reducible (first | refine nTR ?_ | refine nBR ?_))
  exact jC1 [rdr g s _ _] rfl rfl (HLe.sub (lS [_] _)) ⟨hv, rfl⟩
 have h2' : ¬ c = 102 := by rw [show ((c.toNat : Int) == 102) = _ from e102] at h2; simpa using h2
 rw [if_neg h2']
 refine aR fun Z hZ => sM rfl rfl <| jB0 ?_
 refine sAN hZ rfl rfl <| f4K 0 1 5 38 rfl <| aC0 (fun h3 => ?_) (fun h3 => ?_)
 ·have h3' : c = 116 := by rw [show ((c.toNat : Int) == 116) = _ from e116] at h3; simpa using h3
  rw [if_pos h3']
  refine aR fun Z hZ => sM rfl rfl <| jK8 Tryz.underlying4 rfl rfl rfl <| jA5 [rdr g s i 0] (TJ er es) (kW7 g s i [116, 114, 117, 101] (.iface 4 (.bool true)) 2 (.inr ⟨_, _, by decide, rfl⟩) hs hi (by decide)) rfl (HLe.refl _) rfl ?_
  rintro v H' ⟨hv, rfl⟩
  refine sAN hZ rfl rfl <| f1K 4 rfl <| aE ?_
  repeat (with_reducible (first | refine nTR ?_ | refine nBR ?_))
  exact jC1 [rdr g s _ _] rfl rfl (HLe.sub (lS [_] _)) ⟨hv, rfl⟩
 have h3' : ¬ c = 116 := by rw [show ((c.toNat : Int) == 116) = _ from e116] at h3; simpa using h3
 rw [if_neg h3']
 refine aR fun Z hZ => sM rfl rfl <| jB0 ?_
 refine sAN hZ rfl rfl <| f4K 0 1 5 44 rfl <| aC0 (fun h4 => ?_) (fun h4 => ?_)
 ·have h4' : c = 34 := by rw [show ((c.toNat : Int) == 34) = _ from e34] at h4; simpa using h4
  rw [if_pos h4']
  refine aR fun Z hZ => sM rfl rfl <| jK1 [rdr g s i 0] T8 (TJ er es) (vD7 g s i hs hi) rfl (HLe.refl _) (yJ7 er es) vZ8 rfl ?_
  rintro v H' ⟨rfl, rfl⟩
  refine jK8 Tryz.underlying9 rfl rfl rfl <| sAN hZ rfl rfl <| f1K 4 rfl <| aE ?_
  repeat (with_reducible (first | refine nTR ?_ | refine nBR ?_))
  exact jC1 [rdr g s _ _] rfl rfl (HLe.sub (lS [_] _)) ⟨.inr ⟨_, _, by decide, rfl⟩, rfl⟩
 have h4' : ¬ c = 34 := by rw [show ((c.toNat : Int) == 34) = _ from e34] at h4; simpa using h4
 rw [if_neg h4']
 refine aR fun Z hZ => sM rfl rfl <| jB0 ?_
 refine sAN hZ rfl rfl <| f4K 0 1 5 50 rfl <| aC0 (fun h5 => ?_) (fun h5 => ?_)
 ·have h5' : c = 91 := by rw [show ((c.toNat : Int) == 91) = _ from e91] at h5; simpa using h5
  rw [if_pos h5']
  have q := hl hlt (by unfold jG9; rw [hc, h5']; rfl)
  unfold RdFn at q
  refine aR fun Z hZ => sM rfl rfl <| sM rfl rfl <| jA5 ([rdr g s i 0] ++ TJ er es) [] q rfl (by rw [lH]; exact HLe.refl _) rfl ?_
  rintro v H' ⟨hv, rfl⟩
  refine sAN hZ rfl rfl <| f1K 4 rfl <| aE ?_
  repeat (with_reducible (first | refine nTR ?_ | refine nBR ?_))
  exact jC1 [rdr g s _ _] rfl rfl (HLe.refl _) ⟨hv, rfl⟩
 have h5' : ¬ c = 91 := by rw [show ((c.toNat : Int) == 91) = _ from e91] at h5; simpa using h5
 rw [if_neg h5']
 refine aR fun Z hZ => sM rfl rfl <| jB0 ?_
 refine sAN hZ rfl rfl <| f4K 0 1 5 56 rfl <| aC0 (fun h6 => ?_) (fun h6 => ?_)
 ·have h6' : c = 123 := by rw [show ((c.toNat : Int) == 123) = _ from e123] at h6; simpa using h6
  rw [if_pos h6']
  have q := ho hlt (by unfold jG9; rw [hc, h6']; rfl)
  unfold RdFn at q
  refine aR fun Z hZ => sM rfl rfl <| sM rfl rfl <| jA5 ([rdr g s i 0] ++ TJ er es) [] q rfl (by rw [lH]; exact HLe.refl _) rfl ?_
  rintro v H' ⟨hv, rfl⟩
  refine sAN hZ rfl rfl <| f1K 4 rfl <| aE ?_
  repeat (with_reducible (first | refine nTR ?_ | refine nBR ?_))
  exact jC1 [rdr g s _ _] rfl rfl (HLe.refl _) ⟨hv, rfl⟩
 have h6' : ¬ c = 123 := by rw [show ((c.toNat : Int) == 123) = _ from e123] at h6; simpa using h6
 rw [if_neg h6']
 refine jA3 [(0, ptr g 0), (62, .bool (decide (c = 45 ∨ 0 ≤ Lib.indexByte kP6 c)))] ([rdr g s i 0] ++ TJ er es) (fun Z hZ => ?_) ?_
 ·refine sM rfl rfl <| jB0 ?_
  refine sM rfl rfl <| jD0 65 rfl (fun hb2 => ?_) (fun hb2 => ?_)
  ·refine sO0 ?_
   refine sO0 ?_
   refine sO0 ?_
   refine sP rfl rfl rfl <| sA rfl rfl <| sN (hZ _ _ ?_ ?_)
   ·exact Kn.cons rfl (Kn.cons (congrArg some (congrArg Value.bool (by first | rfl | (rw [lR]; simp only [show ((c.toNat : Int) == 45) = decide (c = 45) from e45] at *; simp at *; simp [*]; done)))) Kn.nil)
   ·exact HLe.refl _
  ·refine sOn0 ?_
   refine sM rfl rfl <| sOn0 ?_
   refine sCP0 (yI1 kP6 c) ?_
   refine sOn0 ?_
   refine jO3 rfl rfl rfl <| sP rfl rfl rfl <| sA rfl rfl <| sN (hZ _ _ ?_ ?_)
   ·exact Kn.cons rfl (Kn.cons (congrArg some (congrArg Value.bool (by first | rfl | (rw [lR]; simp only [show ((c.toNat : Int) == 45) = decide (c = 45) from e45] at *; simp at *; simp [*]; done)))) Kn.nil)
   ·exact HLe.refl _
 refine aC0 (fun h7 => ?_) (fun h7 => ?_)
 ·have h7' : c = 45 ∨ 0 ≤ Lib.indexByte kP6 c := by simpa using h7
  rw [if_pos h7']
  refine aR fun Z hZ => sM rfl rfl <| jA5 ([rdr g s i 0] ++ TJ er es) [] (yO6 g s i hs hi er es he1 he2) rfl (by rw [lH]; exact HLe.refl _) rfl ?_
  rintro v H' ⟨hv, rfl⟩
  refine sAN hZ rfl rfl <| f1K 4 rfl <| aE ?_
  repeat (with_reducible (first | refine nTR ?_ | refine nBR ?_))
  exact jC1 [rdr g s _ _] rfl rfl (HLe.refl _) ⟨hv, rfl⟩
 have h7' : ¬ (c = 45 ∨ 0 ≤ Lib.indexByte kP6 c) := by simpa using h7
 rw [if_neg h7']
 have hw := kC2 g s i
 rw [if_neg (by omega)] at hw
 refine aK ?_
 repeat refine nBN ?_
 refine nN <| aR fun Z hZ => sM rfl rfl <| jA5 [rdr g s i 0] (TJ er es) hw rfl (HLe.refl _) rfl ?_
 rintro v H' ⟨rfl, rfl⟩
 refine sAN hZ rfl rfl <| f1K 4 rfl <| aE <| jC1 [rdr g s i 4] rfl rfl (HLe.sub (lS [_] _)) ⟨jO8, rfl⟩
theorem wE7 (g : Nat) (s : List UInt8) (hs : s.length ≤ 100000) (er es : Value) (he1 : ErOk er) (he2 : ErOk es) : ∀ (k deep i : Nat), deep + k = 5 → i ≤ s.length → RdFn 65 g s (TJ er es) deep (valQ s k) i
 | 0, deep, i, hd, hi => by
  rw [valQ]
  exact kQ9 g s hs deep er es he1 he2 _ _ i hi (fun _ _ => wZ8 g s deep (by omega) (by omega) _ (kA9 _ _) i) (fun _ _ => vX3 g s deep (by omega) (by omega) _ (kA9 _ _) i)
 | k + 1, deep, i, hd, hi => by
  have ih := wE7 g s hs er es he1 he2 k (deep + 1)
  rw [valQ]
  exact kQ9 g s hs deep er es he1 he2 _ _ i hi (fun h1 h2 => yR6 g s hs deep (by omega) _ (kA9 _ _) _ (fun j hj => ih j (by omega) hj) (kL4 s k) (wT5 s k) i h1 h2)
   (fun h1 h2 => wI7 g s hs deep (by omega) er es _ (fun j hj => ih j (by omega) hj) (kL4 s k) i h1 h2)
def ntQ (s : List UInt8) : Nat × Nat × Nat :=
 if 4096 < s.length then (0, 0, 5)
 else if (valQ s 4 (jD2 s 0)).2.2 ≠ 0 then (0, (valQ s 4 (jD2 s 0)).2)
 else if jD2 s (valQ s 4 (jD2 s 0)).2.1 < s.length then (0, jD2 s (valQ s 4 (jD2 s 0)).2.1, 4)
 else ((valQ s 4 (jD2 s 0)).1, s.length, 0)
theorem vS0 (s : List UInt8) (hs : s.length ≤ 100000) (er es : Value) (he1 : ErOk er) (he2 : ErOk es) :
  Fn Tryz.prog 26 [.string (str s)] (TJ er es) fun v H' => (∃ x, TagIs (ntQ s).1 x ∧ v = .tuple #[x, iq ((ntQ s).2.1 : Nat), iq ((ntQ s).2.2 : Nat)]) ∧ H' = [] := by
 unfold ntQ
 refine Fn.enter (N := 52) Tryz.func26 rfl (by kernel_rfl) rfl (fun w0 => ?_)
 refine aR fun Z hZ => sA rfl rfl <| sA rfl rfl <| sAN hZ rfl rfl <| f1K 0 rfl <| aS <| aR fun Z hZ => sM rfl rfl <| jD6 Tryz.underlying9 rfl rfl <| jC4 ?_
 refine sN (hZ _ _ <| f2K 0 8 rfl <| aC0 (fun h => ?_) (fun h => ?_))
 ·rw [if_pos (show 4096 < s.length by simp at h; omega)]
  refine aR fun Z hZ => sA rfl rfl <| sA rfl rfl <| sAN hZ rfl rfl <| f3K 2 3 4 rfl <| aE ?_
  repeat refine nTR ?_
  exact jF6 [] rfl rfl rfl rfl (HLe.sub (lN _)) ⟨⟨_, jO8, rfl⟩, rfl⟩
 rw [if_neg (show ¬ 4096 < s.length by simp at h; omega)]
 have hb0 := (jJ6 (s := s) (i := 0) (xD _)).2
 have q1 := jO4
 obtain ⟨b, hb⟩ := xZ9 (jD2 s 0)
 have q2 := fun g => wE7 g s hs er es he1 he2 4 1 b rfl (by omega)
 have hjl := kL4 s 4 b (by omega)
 rw [hb] at hb0 ⊢
 unfold RdFn at q2
 obtain ⟨t, j, e, hv⟩ : ∃ t j e, valQ s 4 b = (t, j, e) := ⟨_, _, _, rfl⟩
 rw [hv] at q2 hjl ⊢
 simp only at q2 hjl ⊢
 refine aK <| nN <| aR fun Z hZ => sM rfl rfl <| jD4 tyZ145 tyP145 ?_
 refine jB5 (fun g1 => ?_)
 refine sAN hZ rfl rfl <| f2K 0 5 rfl <| aR fun Z hZ => sM rfl rfl <| jA5 [rdr g1 s 0 0] (TJ er es) (jO4 g1 s 0 0 (xD _) (by omega)) rfl (HLe.refl _) rfl ?_
 rintro v H' ⟨rfl, rfl⟩
 rw [hb]
 refine sN (hZ _ _ <| f2K 0 5 rfl <| aR fun Z hZ => sM rfl rfl <| jK1 [rdr g1 s b 0] (TJ er es) (TJ er es) (q2 g1) rfl (HLe.refl _) (xU _) (kA9 _ _) rfl ?_)
 rintro x H' ⟨hx, rfl⟩
 refine sAN hZ rfl rfl <| f3K 0 2 5 rfl <| jA6 ([rdr g1 s j e] ++ TJ er es) (HLe.refl _) <| aS <| aR fun Z hZ => sM rfl rfl <| jA0 ?_
 refine sFA0 jH9 ?_
 first | refine sL0 0 tyA33 tyS33 ?_
 refine jB0 ?_
 refine sN (hZ _ _ <| f4K 0 2 5 20 rfl <| aC0 (fun h => ?_) (fun h => ?_))
 ·have he : e = 0 := by simpa using h
  subst he
  rw [if_neg (by simp)]
  have hbj := jJ6 hjl
  obtain ⟨c, hc⟩ := xZ9 (jD2 s j)
  rw [hc] at hbj ⊢
  refine aR fun Z hZ => sM rfl rfl <| jA5 [rdr g1 s j 0] (TJ er es) (jO4 g1 s j 0 hjl (by omega)) rfl (HLe.refl _) rfl ?_
  rintro v H' ⟨rfl, rfl⟩
  rw [hc]
  refine sN (hZ _ _ <| f3K 0 2 5 rfl <| aR fun Z hZ => sM rfl rfl <| jA0 ?_)
  refine sFA0 jC5 ?_
  first | refine sL0 0 tyA3 tyS3 ?_
  refine sM rfl rfl <| jD6 Tryz.underlying9 rfl rfl <| jB2 ?_
  refine sN (hZ _ _ <| f4K 0 2 5 29 rfl <| aC0 (fun h2 => ?_) (fun h2 => ?_))
  ·rw [if_pos (show c < s.length by simpa using h2)]
   refine aG (fun Z hZ => sM rfl rfl <| sM rfl rfl <| jA0 ?_)
   refine sFA0 jC5 ?_
   first | refine sL0 0 tyA3 tyS3 ?_
   refine jA5 [rdr g1 s c 0] (TJ er es) (jJ2 g1 s c c 4) rfl (HLe.refl _) rfl ?_
   rintro v H' ⟨rfl, rfl⟩
   refine sN (hZ _ _ <| nF [(0, _), (2, _), (5, _)] (kR rfl) <| nN <| aS <| aR fun Z hZ => sM rfl rfl <| jA0 ?_)
   refine sFA0 jH9 ?_
   first | refine sL0 0 tyA33 tyS33 ?_
   refine jC7 ?_
   refine sN (hZ _ _ <| f4K 0 2 5 40 rfl <| aC0 (fun h3 => ?_) (fun h3 => ?_))
   ·refine jC6 mixed (by kernel_rfl) (fun Z hZ => ?_)
    refine qM rfl rfl <| jA9 rfl rfl <| qFA0 jC5 ?_
    first | refine jB6 0 tyA3 tyS3 ?_
    refine qM rfl rfl <| jA9 rfl rfl <| qFA0 jH9 ?_
    first | refine jB6 0 tyA33 tyS33 ?_
    refine jC8 rfl rfl <| jC8 rfl rfl <| jC8 rfl rfl <| jF0 (hZ _ _ <| f3K 2 3 4 rfl <| aE ?_)
    repeat refine nTR ?_
    exact jF6 [] rfl rfl rfl rfl (HLe.sub (lN _)) ⟨⟨_, jO8, rfl⟩, rfl⟩
   ·cases h3
  rw [if_neg (show ¬ c < s.length by simpa using h2)]
  refine aK <| nN <| aS <| aR fun Z hZ => sM rfl rfl <| jA0 ?_
  refine sFA0 jH9 ?_
  first | refine sL0 0 tyA33 tyS33 ?_
  refine jC7 ?_
  refine sN (hZ _ _ <| f4K 0 2 5 40 rfl <| aC0 (fun h3 => ?_) (fun h3 => ?_))
  ·cases h3
  refine aK <| nN <| aR fun Z hZ => sM rfl rfl <| sM rfl rfl <| jD6 Tryz.underlying9 rfl rfl <| sA rfl rfl <| sA rfl rfl <| sAN hZ rfl rfl <| f3K 2 3 4 rfl <| aE <| jF6 [] rfl rfl rfl rfl (HLe.sub (lN _)) ⟨⟨_, hx, rfl⟩, rfl⟩
 have he : e ≠ 0 := by simpa using h
 rw [if_pos he]
 refine aK <| nN <| aS <| aR fun Z hZ => sM rfl rfl <| jA0 ?_
 refine sFA0 jH9 ?_
 first | refine sL0 0 tyA33 tyS33 ?_
 refine jC7 ?_
 refine sN (hZ _ _ <| f4K 0 2 5 40 rfl <| aC0 (fun h3 => ?_) (fun h3 => ?_))
 ·refine jC6 mixed (by kernel_rfl) (fun Z hZ => ?_)
  refine qM rfl rfl <| jA9 rfl rfl <| qFA0 jC5 ?_
  first | refine jB6 0 tyA3 tyS3 ?_
  refine qM rfl rfl <| jA9 rfl rfl <| qFA0 jH9 ?_
  first | refine jB6 0 tyA33 tyS33 ?_
  refine jC8 rfl rfl <| jC8 rfl rfl <| jC8 rfl rfl <| jF0 (hZ _ _ <| f3K 2 3 4 rfl <| aE ?_)
  repeat refine nTR ?_
  exact jF6 [] rfl rfl rfl rfl (HLe.sub (lN _)) ⟨⟨_, jO8, rfl⟩, rfl⟩
 ·simp at h3; omega
end
section
open Go.RowKit V Y
set_option maxRecDepth 100000
section
variable {P : Program} {N : Frm} {w0 : World} {Wr : List Nat} {ops : Array Oper} {rest : List Oper} {fr : Fr} {H : Heap} {Z : Fr → Heap → Prop}
variable {d ty : Nat} {pos : String} {after : Array Edge}
theorem vJ3 {t xT e : TypeId} {x : Operand} {v z : Value} (ht : P.underlying t = some (.slice e)) (hz : ∀ w, (zeroValue t).run P w = .ok z w) (hv : v = .nilIface ∨ ∃ k x, k ≠ t ∧ v = .iface k x) (hx : ev fr x = some v) (hN : Nat.ble (d + 1) N.n = true)
  (h : sx P N w0 Wr ops rest ((d, .tuple #[z, .bool false]) :: fr) H Z) : sx P N w0 Wr ops (⟨some d, .typeAssert x xT t true, ty, pos, after, none⟩ :: rest) fr H Z :=
 jE9 _ hN (fun a w ha _ => by
  rcases hv with rfl | ⟨k, y, hk, rfl⟩
  ·simp [execOp, Instr.typeAssert, ha.eval hx, lI, run_underlying ht, hz w]
  ·simp [execOp, Instr.typeAssert, ha.eval hx, lI, run_underlying ht, hk, hz w]) h
end
abbrev plV (b : Int) (k : Nat) (s : List UInt8) : List Value := [iq b, .int .u8 (k : Nat), .string (str s)]
def chkP (b : Int) (k : Nat) (s : List UInt8) : Int :=
 if b < 512 ∨ 16257 < b then 15 else if 5 < k then 14 else if (ntQ s).2.2 ≠ 0 then ((ntQ s).2.2 : Nat) else if (ntQ s).1 = 1 then 0 else 4
theorem wA1 (w : World) : (zeroValue 73).run Tryz.prog w = .ok (.slice none 0 0) w := by kernel_rfl
theorem vX1 (b : Int) (k : Nat) (s : List UInt8) (hs : s.length ≤ 100000) (er es : Value) (he1 : ErOk er) (he2 : ErOk es) : Fn Tryz.prog 8 [.agg (plV b k s).toArray] (TJ er es) fun v _ => v = iq (chkP b k s) := by
 have hnt := vS0 s hs er es he1 he2
 obtain ⟨t, m, e, hq⟩ : ∃ t m e, ntQ s = (t, m, e) := ⟨_, _, _, rfl⟩
 unfold chkP
 rw [hq] at hnt ⊢
 refine Fn.enter (N := 38) Tryz.func8 rfl (by kernel_rfl) rfl (fun w0 => ?_)
 refine jA6 (TJ er es) (HLe.refl _) <| aR (fun Z hZ => jB5 (fun g1 => ?_))
 refine sAN hZ rfl rfl <| f1K 1 rfl <| aS (aB <| jA3 [(1, ptr g1 0), (8, .bool (decide (b < 512 ∨ 16257 < b)))] (.own g1 36 (plV b k s) :: TJ er es) (fun Z hZ => ?_) ?_)
 ·refine sFA0 kL9 ?_
  first | refine sL0 0 tyA3 tyS3 ?_
  refine jB2 ?_
  refine sM rfl rfl <| jD0 12 rfl (fun hb3 => ?_) (fun hb3 => ?_)
  ·refine sO0 ?_
   refine sO0 ?_
   refine sO0 ?_
   refine sP rfl rfl rfl <| sA rfl rfl <| sN (hZ _ _ ?_ ?_)
   ·exact Kn.cons rfl (Kn.cons (congrArg some (congrArg Value.bool (by simp at *; omega))) Kn.nil)
   ·exact HLe.refl _
  ·refine sOn0 ?_
   refine sFA0 kL9 ?_
   refine sOn0 ?_
   first | refine sL0 0 tyA3 tyS3 ?_
   refine sOn0 ?_
   refine jC4 ?_
   refine sP rfl rfl rfl <| sA rfl rfl <| sN (hZ _ _ ?_ ?_)
   ·exact Kn.cons rfl (Kn.cons (congrArg some (congrArg Value.bool (by simp at *; omega))) Kn.nil)
   ·exact HLe.refl _
 refine aC0 (fun h => ?_) (fun h => ?_)
 ·have h' : b < 512 ∨ 16257 < b := by simpa using h
  rw [if_pos h']
  refine aA rfl rfl <| f1K 2 rfl <| aE ?_
  repeat (with_reducible (first | refine nTR ?_ | refine nBR ?_))
  exact nR10 rfl
 have h' : ¬ (b < 512 ∨ 16257 < b) := by simpa using h
 rw [if_neg h']
 refine aR (fun Z hZ => sFA0 vI7 ?_)
 first | refine sL0 0 tyA5 tyS5 ?_
 refine jC4 ?_
 refine sAN hZ rfl rfl <| f2K 1 17 rfl <| aC0 (fun h2 => ?_) (fun h2 => ?_)
 ·have h2' : 5 < k := by simp at h2; omega
  rw [if_pos h2']
  refine aA rfl rfl <| f1K 2 rfl <| aE ?_
  repeat (with_reducible (first | refine nTR ?_ | refine nBR ?_))
  exact nR10 rfl
 have h2' : ¬ 5 < k := by simp at h2; omega
 rw [if_neg h2']
 refine aK ?_
 repeat refine nBN ?_
 refine nN <| aR (fun Z hZ => sFA0 vI6 ?_)
 first | refine sL0 0 tyA9 tyS9 ?_
 refine jK1 [] (TJ er es) (.own g1 36 (plV b k s) :: TJ er es) hnt rfl (HLe.refl _) (x4 _ _) (kA9 _ _) rfl ?_
 rintro v H' ⟨⟨x, htag, rfl⟩, rfl⟩
 refine jC3 (.own g1 36 (plV b k s) :: TJ er es) (HLe.refl _) <| sM rfl rfl <| sX rfl rfl rfl <| sX rfl rfl rfl <| sX rfl rfl rfl <| sA rfl rfl <| sA rfl rfl <| sAN hZ rfl rfl <| f2K 3 5 rfl <| aS <| aR fun Z hZ => sM rfl rfl <| jC7 ?_
 refine sN (hZ _ _ <| f3K 3 5 29 rfl <| aC0 (fun h3 => ?_) (fun h3 => ?_))
 ·have h3' : e ≠ 0 := by simpa using h3
  rw [if_pos h3']
  refine aR fun Z hZ => sM rfl rfl <| sAN hZ rfl rfl <| f1K 2 rfl <| aE ?_
  repeat refine nTR ?_
  exact nR10 rfl
 have h3' : ¬ e ≠ 0 := by simpa using h3
 rw [if_neg h3']
 refine aK <| nN ?_
 unfold TagIs at htag
 simp only at htag
 by_cases h4 : t = 1
 ·rw [if_pos h4]
  rw [if_pos h4] at htag
  obtain ⟨y, rfl⟩ := htag
  refine aS <| aR fun Z hZ => sM rfl rfl <| jU9 Tryz.underlying73 rfl rfl <| sM rfl rfl <| sX rfl rfl rfl <| sX rfl rfl rfl <| sA rfl rfl <| sAN hZ rfl rfl <| f1K 7 rfl <| aR fun Z hZ => sM rfl rfl <| jI8 rfl rfl <| sN (hZ _ _ <| f1K 37 rfl <| aC0 (fun h => ?_) (fun h => ?_))
  ·cases h
  refine aK <| nN <| aA rfl rfl <| f1K 2 rfl <| aE <| nR10 rfl
 ·rw [if_neg h4]
  rw [if_neg h4] at htag
  refine aS <| aR fun Z hZ => sM rfl rfl <| vJ3 Tryz.underlying73 wA1 htag rfl rfl <| sM rfl rfl <| sX rfl rfl rfl <| sX rfl rfl rfl <| sA rfl rfl <| sAN hZ rfl rfl <| f1K 7 rfl <| aR fun Z hZ => sM rfl rfl <| jI8 rfl rfl <| sN (hZ _ _ <| f1K 37 rfl <| aC0 (fun h => ?_) (fun h => ?_))
  ·refine aR (fun Z hZ => sAN hZ rfl rfl <| f1K 2 rfl <| aE ?_)
   repeat refine nTR ?_
   exact nR10 rfl
  ·cases h
theorem wH2 (A : Option Addr) (c n : Nat) (U : Heap) (hroU : Ro U) (b : Int) (k : Nat) (s : List UInt8) (e : Int) (he : e ≠ 0) (hc : Fn Tryz.prog 8 [.agg (plV b k s).toArray] U fun v _ => v = iq e) :
  Fn Tryz.prog 7 [chV A n c, .agg (plV b k s).toArray] U fun v _ => v = .tuple #[.string (str []), iq e] := by
 refine Fn.enterM (n := 56) Tryz.func7 rfl (by kernel_rfl) rfl (fun w0 => ?_)
 refine aR (fun Z hZ => jB5 (fun g1 => ?_))
 refine jB5 (fun g2 => ?_)
 refine sAl tyZ9 rfl (fun g3 => sAl tyZ33 rfl (fun g4 => sN (hZ _ _ <| f4K 2 3 4 5 rfl <| vH2 (vs := [ptr g4 0, ptr g3 0]) rfl rfl <| aS <| aR (fun Z hZ => sLA0 2 tyA36 tyS36 ?_))))
 refine jD1 U hc rfl (lP [_, _, _, _] _) hroU rfl <| sS10 0 tyS33 ?_
 refine sN (hZ _ _ <| f4K 2 3 4 5 rfl <| jA6 ([errE g4 e, strE g3 []] ++ [.own g2 36 (plV b k s), .own g1 30 [.slice A n c]]) (HLe.sub (lS [_, _, _, _] U)) <| aR (fun Z hZ => sL0 0 tyA33 tyS33 ?_))
 refine jC7 ?_
 refine sN (hZ _ _ <| f5K 2 3 4 5 16 rfl <| aC0 (fun h1 => ?_) (fun h1 => ?_))
 ·refine aE ?_
  repeat refine nTR ?_
  refine jX6 [errE g4 e, strE g3 []] [] (kX6 g4 g3 e []) (HLe.sub (lS [errE g4 e, strE g3 []] _)) ?_
  rintro v H' ⟨rfl, rfl⟩
  rw [if_neg he]
  refine jJ5 [] trivial (jD9 [errE g4 e, strE g3 []] rfl (ResOk.cell 1 rfl rfl tyA9 tyS9 rfl) (ResOk.cell 0 rfl rfl tyA33 tyS33 rfl) (HLe.refl _) rfl)
 ·exact absurd (by simpa using h1) he
structure PrK (L : List It) (p : Pn) : Prop where
 ok : ChOk L
 b : 512 ≤ p.b ∧ p.b ≤ 16257
 k : p.k ≤ 5
 parts : (prP L p).Ok
 root : (prS L p.b).1.length ≤ 10000 ∧ jF4 (prS L p.b).1
 rows : (prR L).length ≤ 10000 ∧ jF4 (prR L)
theorem vE3 (A : Option Addr) (c : Nat) (L : List It) (T U : Heap) (hA : jH6 A L.length) (hT : 0 < L.length → T = roE A (jA2 L)) (hro : Ro T) (hroU : Ro U) (p : Pn) (h : PrK L p) (hc : Fn Tryz.prog 8 [.agg p.cells.toArray] U fun v _ => v = iq 0) :
  Fn Tryz.prog 7 [chV A L.length c, .agg p.cells.toArray] (T ++ U) fun v _ => v = .tuple #[.string (str (prT L p)), iq (prE L p)] := by
 have hlen := h.ok.len
 have hrows := wZ4 A c L T hA hT hro h.ok
 obtain ⟨R, hR⟩ := xZ9 ((jL3 L).1)
 obtain ⟨D, hD⟩ := xZ9 ((jL3 L).2.flatten)
 have hRl := h.rows.1
 have hRo := h.rows.2
 rw [show prR L = R from hR] at hRl hRo
 rw [hR, hD] at hrows
 refine Fn.enterM (n := 56) Tryz.func7 rfl (by kernel_rfl) rfl (fun w0 => ?_)
 refine aR (fun Z hZ => jB5 (fun g1 => ?_))
 refine jB5 (fun g2 => ?_)
 refine sAl tyZ9 rfl (fun g3 => sAl tyZ33 rfl (fun g4 => sN (hZ _ _ <| f4K 2 3 4 5 rfl <| vH2 (vs := [ptr g4 0, ptr g3 0]) rfl rfl <| aS <| aR (fun Z hZ => sLA0 2 tyA36 tyS36 ?_))))
 refine jD1 U hc rfl ((lP T U).trans (lP [_, _, _, _] _)) hroU rfl <| sS10 0 tyS33 ?_
 refine sN (hZ _ _ <| f4K 2 3 4 5 rfl <| jA6 ([errE g4 0, strE g3 []] ++ ([.own g2 36 p.cells, .own g1 30 [.slice A L.length c]] ++ T)) (HLe.sub (lS ([_, _, _, _] ++ T) U)) <| aR (fun Z hZ => sL0 0 tyA33 tyS33 ?_))
 refine jC7 ?_
 refine sN (hZ _ _ <| f5K 2 3 4 5 16 rfl <| aC0 (fun h1 => ?_) (fun h1 => ?_))
 ·cases h1
 refine aK <| nN <| jA6 ([errE g4 0, strE g3 []] ++ ([.own g2 36 p.cells, .own g1 30 [.slice A L.length c]] ++ T)) (HLe.refl _) <| aR (fun Z hZ => sLA0 3 tyA30 tyS30 ?_)
 refine jK1 [] T ([errE g4 0, strE g3 []] ++ ([.own g2 36 p.cells, .own g1 30 [.slice A L.length c]] ++ T)) hrows rfl (HLe.refl _) ((lP [_, _] T).trans (lP [_, _] _)) hro rfl ?_
 rintro v H' ⟨u, rfl, hu, rfl⟩
 rw [jF1]
 obtain ⟨B, d, rfl, hB, hle⟩ := hu.ro
 refine kF6 (fun w hw => Go.Proofs.YtfeopecgedbfpaaGreatDoor.row_cap hu (fun x hx => xI _ hx) hw) (fun hcap => jC3 ([errE g4 0, strE g3 []] ++ ([.own g2 36 p.cells, .own g1 30 [.slice A L.length c]] ++ (roE B (jA1 R) ++ T))) ((zD6 [_, _] [_, _] _ T).trans (hle [] _ _ _ _)) <| sM rfl rfl <| sX rfl rfl rfl <| sX rfl rfl rfl <| sA rfl rfl <| sAN hZ rfl rfl <| f6K 2 3 4 5 6 7 rfl ?_)
 have hnil : B = none → R.length = 0 := hB.nil'
 have hsp := wW0 B d R (roE B (jA1 R)) (p.b : Nat) hB.arg (fun _ => rfl) (Ro.roE _ _) hRl hRo hnil hcap.1
 obtain ⟨sp, hsp'⟩ : ∃ sp, jK5 R (p.b : Nat) = sp := ⟨_, rfl⟩
 have hS : prS L p.b = sp := by rw [← hsp', ← hR]; rfl
 rw [hsp'] at hsp
 have hroot := h.root
 rw [hS] at hroot
 refine aR fun Z hZ => sM rfl rfl <| sFA0 kL9 ?_
 refine sL0 2 tyA3 tyS3 ?_
 refine jK1 [] (roE B (jA1 R)) ([errE g4 0, strE g3 []] ++ ([.own g2 36 p.cells, .own g1 30 [.slice A L.length c]] ++ (roE B (jA1 R) ++ T))) hsp rfl (HLe.refl _) (((lS (roE B (jA1 R)) T).trans (lP [_, _] _)).trans (lP [_, _] _)) (Ro.roE _ _) rfl ?_
 rintro v H' ⟨u2, rfl, hu2, rfl⟩
 rw [jF1]
 obtain ⟨B2, d2, rfl, hB2, hle2⟩ := hu2.ro
 refine jC3 ([errE g4 0, strE g3 []] ++ ([.own g2 36 p.cells, .own g1 30 [.slice A L.length c]] ++ (roE B2 (jA1 sp.1) ++ (roE B (jA1 R) ++ T)))) ((zD6 [_, _] [_, _] _ _).trans (hle2 [] _ _ _ _)) <| sM rfl rfl <| sX rfl rfl rfl <| sX rfl rfl rfl <| sX rfl rfl rfl <| sX rfl rfl rfl <| sA rfl rfl <| sA rfl rfl <| sA rfl rfl <| sS10 0 tyS33 ?_
 refine sN (hZ _ _ <| f8K 2 3 4 5 6 7 8 9 rfl <| jA6 ([errE g4 (sp.2.2.2 : Nat), strE g3 []] ++ ([.own g2 36 p.cells, .own g1 30 [.slice A L.length c]] ++ (roE B2 (jA1 sp.1) ++ (roE B (jA1 R) ++ T)))) (HLe.refl _) <| aS <| aR (fun Z hZ => sL0 0 tyA33 tyS33 ?_))
 refine jC7 ?_
 refine sN (hZ _ _ <| f9K 2 3 4 5 6 7 8 9 32 rfl <| aC0 (fun h1 => ?_) (fun h1 => ?_))
 ·have h1' : sp.2.2.2 ≠ 0 := by simpa using h1
  have hE : prE L p = (sp.2.2.2 : Nat) := by unfold prE; rw [hS, if_pos h1']
  have hT0 : prT L p = [] := by unfold prT; rw [hE, if_neg (by omega)]
  refine jR8 (fun j : Unit => [(4, ptr g3 0), (5, ptr g4 0)]) (fun j => [errE g4 (sp.2.2.2 : Nat), strE g3 []] ++ ([.own g2 36 p.cells, .own g1 30 [.slice A L.length c]] ++ (roE B2 (jA1 sp.1) ++ (roE B (jA1 R) ++ T)))) (fun j => True) _ [0, 1, 2] (Tr.fork (Tr.step (0, false) (Tr.step (1, false) (Tr.step (2, false) Tr.nil))) (Tr.step (1, false) (Tr.step (0, false) (Tr.step (2, false) Tr.nil)))) mixed (by kernel_rfl) (HLe.pick [] (by simp) (by simp only [pick, lZ]; rfl)) ?_ ?_
  ·refine kV4 ?_ ?_
   ·refine tt_g rfl <| sL0 0 tyA33 tyS33 ?_
    refine sN ⟨HLe.pick [] (by simp) rfl, ?_⟩
    refine tt_g rfl <| sS10 1 tyS9 ?_
    refine sN ⟨HLe.pick [] (by simp) rfl, ?_⟩
    refine tt_g rfl <| sS10 0 tyS33 ?_
    refine sN ⟨HLe.pick [] (by simp) rfl, ?_⟩
    refine kH4 <| ⟨(), trivial, kR rfl, HLe.refl _⟩
   ·refine tt_g rfl <| sS10 1 tyS9 ?_
    refine sN ⟨HLe.pick [] (by simp) rfl, ?_⟩
    refine tt_g rfl <| sL0 0 tyA33 tyS33 ?_
    refine sN ⟨HLe.pick [] (by simp) rfl, ?_⟩
    refine tt_g rfl <| sS10 0 tyS33 ?_
    refine sN ⟨HLe.pick [] (by simp) rfl, ?_⟩
    refine kH4 <| ⟨(), trivial, kR rfl, HLe.refl _⟩
  rintro - -
  refine aE ?_
  repeat refine nTR ?_
  refine jX6 [errE g4 (sp.2.2.2 : Nat), strE g3 []] [] (kX6 g4 g3 (sp.2.2.2 : Nat) []) (HLe.sub (lS [errE g4 (sp.2.2.2 : Nat), strE g3 []] _)) ?_
  rintro v H' ⟨rfl, rfl⟩
  refine jJ5 [] trivial (jD9 [errE g4 (sp.2.2.2 : Nat), strE g3 (if ((sp.2.2.2 : Nat) : Int) = 0 then [] else [])] rfl (ResOk.cell 1 rfl rfl tyA9 tyS9 rfl) (ResOk.cell 0 rfl rfl tyA33 tyS33 rfl) (HLe.refl _) <| by rw [hE, hT0]; split <;> rfl)
 have h1' : sp.2.2.2 = 0 := by simpa using h1
 rw [h1']
 refine aK <| nN ?_
 have hen := kS5 B2 d2 sp.1 (roE B2 (jA1 sp.1)) hB2.arg (fun _ => rfl) (Ro.roE _ _) hroot.1 hroot.2
 obtain ⟨en, hen'⟩ : ∃ en, encQ sp.1 = en := ⟨_, rfl⟩
 rw [hen'] at hen
 refine aR fun Z hZ => sM rfl rfl <| jD1 (roE B2 (jA1 sp.1)) hen rfl (((lS (roE B2 (jA1 sp.1)) _).trans (lP [_, _] _)).trans (lP [_, _] _)) (Ro.roE _ _) rfl <| sM rfl rfl <| sX rfl rfl rfl <| sX rfl rfl rfl <| sA rfl rfl <| sS10 0 tyS33 ?_
 refine sN (hZ _ _ <| f8K 2 3 4 5 6 7 9 11 rfl <| jA6 ([errE g4 (en.2 : Nat), strE g3 []] ++ ([.own g2 36 p.cells, .own g1 30 [.slice A L.length c]] ++ (roE B2 (jA1 sp.1) ++ (roE B (jA1 R) ++ T)))) (HLe.refl _) <| aS <| aR (fun Z hZ => sL0 0 tyA33 tyS33 ?_))
 refine jC7 ?_
 refine sN (hZ _ _ <| f9K 2 3 4 5 6 7 9 11 40 rfl <| aC0 (fun h2 => ?_) (fun h2 => ?_))
 ·have h2' : en.2 ≠ 0 := by simpa using h2
  have hE : prE L p = (en.2 : Nat) := by unfold prE; rw [hS, if_neg (by simpa using h1'), hen', if_pos h2']
  have hT0 : prT L p = [] := by unfold prT; rw [hE, if_neg (by omega)]
  refine jR8 (fun j : Unit => [(4, ptr g3 0), (5, ptr g4 0)]) (fun j => [errE g4 (en.2 : Nat), strE g3 []] ++ ([.own g2 36 p.cells, .own g1 30 [.slice A L.length c]] ++ (roE B2 (jA1 sp.1) ++ (roE B (jA1 R) ++ T)))) (fun j => True) _ [0, 1, 2] (Tr.fork (Tr.step (0, false) (Tr.step (1, false) (Tr.step (2, false) Tr.nil))) (Tr.step (1, false) (Tr.step (0, false) (Tr.step (2, false) Tr.nil)))) mixed (by kernel_rfl) (HLe.pick [] (by simp) (by simp only [pick, lZ]; rfl)) ?_ ?_
  ·refine kV4 ?_ ?_
   ·refine tt_g rfl <| sL0 0 tyA33 tyS33 ?_
    refine sN ⟨HLe.pick [] (by simp) rfl, ?_⟩
    refine tt_g rfl <| sS10 1 tyS9 ?_
    refine sN ⟨HLe.pick [] (by simp) rfl, ?_⟩
    refine tt_g rfl <| sS10 0 tyS33 ?_
    refine sN ⟨HLe.pick [] (by simp) rfl, ?_⟩
    refine kH4 <| ⟨(), trivial, kR rfl, HLe.refl _⟩
   ·refine tt_g rfl <| sS10 1 tyS9 ?_
    refine sN ⟨HLe.pick [] (by simp) rfl, ?_⟩
    refine tt_g rfl <| sL0 0 tyA33 tyS33 ?_
    refine sN ⟨HLe.pick [] (by simp) rfl, ?_⟩
    refine tt_g rfl <| sS10 0 tyS33 ?_
    refine sN ⟨HLe.pick [] (by simp) rfl, ?_⟩
    refine kH4 <| ⟨(), trivial, kR rfl, HLe.refl _⟩
  rintro - -
  refine aE ?_
  repeat refine nTR ?_
  refine jX6 [errE g4 (en.2 : Nat), strE g3 []] [] (kX6 g4 g3 (en.2 : Nat) []) (HLe.sub (lS [errE g4 (en.2 : Nat), strE g3 []] _)) ?_
  rintro v H' ⟨rfl, rfl⟩
  refine jJ5 [] trivial (jD9 [errE g4 (en.2 : Nat), strE g3 (if ((en.2 : Nat) : Int) = 0 then [] else [])] rfl (ResOk.cell 1 rfl rfl tyA9 tyS9 rfl) (ResOk.cell 0 rfl rfl tyA33 tyS33 rfl) (HLe.refl _) <| by rw [hE, hT0]; split <;> rfl)
 have h2' : en.2 = 0 := by simpa using h2
 rw [h2']
 refine aK <| nN ?_
 have hq : prP L p = ⟨en.1, p.note, sp.2.1, D⟩ := by unfold prP prD; rw [hS, hen', hD]
 have hqo := h.parts
 have hh : prH L p = kJ1 L R p.k := by unfold prH prR; rw [hR]
 have hho : (kJ1 L R p.k).Ok := vT1 (by omega) (by omega) h.k
 have hE : prE L p = jG0 (jH8 (kJ1 L R p.k) ⟨en.1, p.note, sp.2.1, D⟩) := by unfold prE; rw [hS, if_neg (by simpa using h1'), hen', if_neg (by simpa using h2'), hh, hq]
 have hTx : vF3 (kJ1 L R p.k) ⟨en.1, p.note, sp.2.1, D⟩ = if prE L p = 0 then vF3 (kJ1 L R p.k) ⟨en.1, p.note, sp.2.1, D⟩ else [] := by
  rw [hE]
  unfold vF3
  split <;> rfl
 have hTT : prT L p = vF3 (kJ1 L R p.k) ⟨en.1, p.note, sp.2.1, D⟩ := by rw [hTx]; unfold prT; rw [hh, hq]
 rw [hq] at hqo
 have hgl := yT5 (kJ1 L R p.k) hho ⟨en.1, p.note, sp.2.1, D⟩ hqo
 rw [← hE, ← hTT] at hgl
 have hhd := wY4 A c L T hA hT hro (by omega) h.ok.its B d R (roE B (jA1 R)) hB.arg (fun _ => rfl) (Ro.roE _ _) (by omega) hRo p.k
 obtain ⟨E, hEd⟩ := xZ9 (prE L p)
 obtain ⟨S, hSd⟩ := xZ9 (prT L p)
 have hfin : (if E = 0 then S else []) = S := by
  rw [← hSd, ← hEd]
  unfold prT
  split <;> rfl
 rw [hEd, hSd] at hgl ⊢
 refine jD3 _ [(0, true), (1, true), (2, true), (3, true), (4, false), (5, true), (6, true), (7, true), (8, true), (9, true), (10, true), (11, false), (12, true), (13, true), (14, false), (15, false)] mixed (by kernel_rfl) (HLe.pick [2, 3] (by simp) (by simp only [pick, l7, lZ]; rfl)) (fun Z hZ => ?_)
 refine tw_p rfl <| jM3 1 rfl rfl tyA30 tyS30 rfl (by simp only [qS]; rfl) rfl ?_
 refine vN <| tw_p rfl <| jA8 ?_
 refine vN <| tw_p rfl <| jA7 vI7 ?_
 refine vN <| tw_p rfl <| jE6 0 rfl rfl tyA5 tyS5 rfl rfl <| vN <| tw_g rfl <| jO2 (T ++ roE B (jA1 R)) hhd rfl ((HLe.swap (roE B (jA1 R)) T).trans (HLe.sub (((lP _ _).trans (lP [_, _] _)).trans (lP [_, _] _)))) (hro.append (Ro.roE _ _)) rfl <| sN ⟨HLe.pick [2, 3] (by simp) rfl, ?_⟩
 refine tw_p rfl <| jA8 ?_
 refine vN <| tw_p rfl <| jA7 vI6 ?_
 refine vN <| tw_p rfl <| jE6 0 rfl rfl tyA9 tyS9 rfl rfl <| vN <| tw_p rfl <| jA8 ?_
 refine vN <| tw_p rfl <| jA8 ?_
 refine vN <| tw_p rfl <| wD2 tyZ70 Tryz.underlying70 tyS9 rfl rfl (by simp only [qS, Nat.reduceAdd, Value.cells, wrV, Nat.reduceMul, xK]; rfl) rfl ?_
 refine vN <| tw_g rfl <| sCP0 hgl ?_
 refine sN ⟨HLe.pick [2, 3] (by simp) rfl, ?_⟩
 refine tw_p rfl <| jF7 rfl rfl rfl <| vN <| tw_p rfl <| jF7 rfl rfl rfl <| vN <| tw_g rfl <| sS10 1 tyS9 ?_
 refine sN ⟨HLe.pick [2, 3] (by simp) rfl, ?_⟩
 refine tw_g rfl <| sS10 0 tyS33 ?_
 refine sN ⟨HLe.pick [2, 3] (by simp) rfl, ?_⟩
 refine jI7 (hZ _ _ <| f2K 4 5 rfl <| jA6 ([errE g4 E, strE g3 S] ++ ([.own g2 36 p.cells, .own g1 30 [.slice A L.length c]] ++ (roE B2 (jA1 sp.1) ++ (roE B (jA1 R) ++ T)))) (HLe.refl _) <| aE <| jX6 [errE g4 E, strE g3 S] [] (kX6 g4 g3 E S) (HLe.sub (lS [errE g4 E, strE g3 S] _)) ?_)
 rintro v H' ⟨rfl, rfl⟩
 rw [hfin]
 refine jJ5 [] trivial (jD9 [errE g4 E, strE g3 S] rfl (ResOk.cell 1 rfl rfl tyA9 tyS9 rfl) (ResOk.cell 0 rfl rfl tyA33 tyS33 rfl) (HLe.refl _) rfl)
end
section
open Go.RowKit V
abbrev mapX (b : Nat) (es : Array MapEntry) (clock : Nat) : Ent := .ob b (fun o => o = .map es clock)
abbrev itX (r b since : Nat) (seen : Array Nat) (c : Nat) : Ent := .ob r (fun o => o = .mapIter (some b) since seen c)
section
variable {P : Program} {N : Frm} {w0 : World} {Wr : List Nat} {ops : Array Oper} {rest : List Oper} {fr : Fr} {H : Heap} {Z : Fr → Heap → Prop}
variable {d ty : Nat} {pos : String} {after : Array Edge}
theorem kR6 {b : Nat} {o : Obj} {w : World} (hw : Sat w0 Wr H w) (h : Ent.ob b (fun x => x = o) ∈ H) : w.heap[b]? = some o := by
 obtain ⟨x, h1, rfl⟩ := (hw.ents _ h).1
 exact h1
theorem HLe.exOb {κ ν : Type} [DecidableEq κ] {encK : κ → Value} {encV : ν → Value} {M : List (κ × ν)} {b : Nat} {T : Heap} {w : World} (hw : Sat w0 Wr (mapS encK encV b M :: T) w) : ∃ es clock, EsOk encK encV es clock M ∧ Sat w0 Wr (mapX b es clock :: T) w := by
 obtain ⟨⟨o, h1, es, clock, rfl, h2⟩, h3⟩ := hw.ents _ lO
 refine ⟨es, clock, h2, hw.only, fun x hx => ?_, ?_⟩
 ·rcases List.mem_cons.1 hx with rfl | hx
  ·exact ⟨⟨_, h1, rfl⟩, h3⟩
  ·exact hw.ents x (lW _ hx)
 ·have hp := List.pairwise_cons.1 hw.sep
  exact zN (fun x hx => hp.1 x hx) hp.2
theorem vP4 {K E T : TypeId} {x : Operand} {b : Nat} {es : Array MapEntry} {clock : Nat} (hT : P.underlying T = some (.map K E)) (hx : ev fr x = some (.map (some b))) (hH : mapX b es clock ∈ H) (hN : Nat.ble (d + 1) N.n = true)
  (h : ∀ r, sx P N w0 Wr ops rest ((d, ptr r 0) :: fr) (itX r b clock #[] clock :: H) Z) : sx P N w0 Wr ops (⟨some d, .range T x, ty, pos, after, none⟩ :: rest) fr H Z := by
 refine jL0 (R := fun v H' => ∃ r, v = ptr r 0 ∧ H' = itX r b clock #[] clock :: H) hN (fun a w ha hw => ?_) (fun v H' hR => by obtain ⟨r, rfl, rfl⟩ := hR; exact h r)
 have hb := kR6 hw hH
 refine ⟨_, w.alloc (.mapIter (some b) clock #[] clock), _, ?_, ⟨w.heap.size, rfl, rfl⟩, hw.allocOb _ _ rfl⟩
 simp [execOp, ha.eval hx, Instr.range, lI, run_underlying hT, MapKept.run_getObj_map hb, Result.andThen, ptr]
theorem yM2 (i : Nat) {x : Operand} {r b clock c : Nat} {es : Array MapEntry} {seen : Array Nat} (hx : ev fr x = some (ptr r 0)) (hH : H[i]? = some (itX r b clock seen c)) (hM : mapX b es clock ∈ H) (hlt : ∀ e ∈ es.toList, e.born < clock) (hc : clock ≤ c) (hN : Nat.ble (d + 1) N.n = true)
  (h0 : (leftOf es seen).size = 0 → sx P N w0 Wr ops rest ((d, .tuple #[.bool false]) :: fr) H Z)
  (h1 : ∀ e ∈ (leftOf es seen).toList, sx P N w0 Wr ops rest ((d, .tuple #[.bool true, e.key, e.val]) :: fr) (H.set i (itX r b clock (seen.push e.born) clock)) Z) :
  sx P N w0 Wr ops (⟨some d, .next x false, ty, pos, after, none⟩ :: rest) fr H Z := by
 refine jL0 (R := fun v H' => ((leftOf es seen).size = 0 ∧ v = .tuple #[.bool false] ∧ H' = H) ∨ ∃ e ∈ (leftOf es seen).toList, v = .tuple #[.bool true, e.key, e.val] ∧ H' = H.set i (itX r b clock (seen.push e.born) clock)) hN (fun a w ha hw => ?_) (fun v H' hR => ?_)
 ·have hr := kR6 hw (xM hH)
  have hb := kR6 hw hM
  have he : a.eval x = .pointer (some ⟨r, 0, none⟩) := ha.eval hx
  rcases run_next_at (P := P) w ty r b clock c seen es clock hr hb hlt hc with ⟨h1, h2⟩ | ⟨e, he1, w1, hw1, h2⟩
  ·exact ⟨_, w, H, by simp only [execOp, he, lI]; rw [h2]; rfl, .inl ⟨h1, rfl, rfl⟩, hw⟩
  ·have hw1' : Sat w0 Wr H w1 := by rcases hw1 with rfl | rfl; exact hw; exact hw.drew
   refine ⟨_, ChangeMaps.setBlock w1 r (.mapIter (some b) clock (seen.push e.born) clock), _, by simp only [execOp, he, lI]; rw [h2]; rfl, .inr ⟨e, he1, rfl, rfl⟩, ?_⟩
   have hr1 := kR6 hw1' (xM hH)
   have hsz := (Array.getElem?_eq_some_iff.1 hr1).1
   refine hw1'.turn hH rfl rfl ⟨rfl, rfl, rfl, by simp [ChangeMaps.setBlock], fun k _ hk => ?_⟩ ⟨_, ?_, rfl⟩
   ·have : r ≠ k := fun e => hk (by simp [e, Ent.g])
    simp [ChangeMaps.setBlock, Array.getElem?_setIfInBounds_ne this]
   ·show (w1.heap.setIfInBounds r _)[r]? = _
    rw [Array.getElem?_setIfInBounds_self_of_lt hsz]
 ·rcases hR with ⟨h2, rfl, rfl⟩ | ⟨e, he, rfl, rfl⟩
  ·exact h0 h2
  ·exact h1 e he
theorem vP5 (i : Nat) {x : Operand} {r b clock c : Nat} {es : Array MapEntry} {seen : Array Nat} (hx : ev fr x = some (ptr r 0)) (hH : H[i]? = some (itX r b clock seen c)) (hM : mapX b es clock ∈ H) (hlt : ∀ e ∈ es.toList, e.born < clock) (hc : clock ≤ c) (hN : Nat.ble (d + 1) N.n = true)
  (h : ∀ (u : Bool) (tl : List Value) (seen' : Array Nat) (c' : Nat), (u = false → (leftOf es seen).size = 0) → (u = true → ∃ e ∈ (leftOf es seen).toList, seen' = seen.push e.born ∧ c' = clock) → sx P N w0 Wr ops rest ((d, .tuple (Value.bool u :: tl).toArray) :: fr) (H.set i (itX r b clock seen' c')) Z) :
  sx P N w0 Wr ops (⟨some d, .next x false, ty, pos, after, none⟩ :: rest) fr H Z :=
 yM2 i hx hH hM hlt hc hN (fun h0 => by
  have := h false [] seen c (fun _ => h0) (fun e => by cases e)
  have e : H.set i (itX r b clock seen c) = H := by
   obtain ⟨hl, he⟩ := List.getElem?_eq_some_iff.1 hH
   rw [← he, List.set_getElem_self]
  rwa [e] at this) (fun e he => h true [e.key, e.val] (seen.push e.born) clock (fun e => by cases e) (fun _ => ⟨e, he, rfl, rfl⟩))
theorem yE1 {κ ν : Type} [DecidableEq κ] {encK : κ → Value} {encV : ν → Value} {M : List (κ × ν)} {b : Nat} {T : Heap} {c : Code} {Q : Exit → Act → World → Prop} (h : ∀ es clock, EsOk encK encV es clock M → awp P N w0 Wr c fr (mapX b es clock :: T) Q) : awp P N w0 Wr c fr (mapS encK encV b M :: T) Q :=
 fun a w ha hw => by
  obtain ⟨es, clock, h1, h2⟩ := HLe.exOb hw
  exact h es clock h1 a w ha h2
theorem wV1 {x : Operand} {r b clock : Nat} {es : Array MapEntry} {seen : Array Nat} {e : MapEntry} (hx : ev fr x = some (ptr r 0)) (hH : itX r b clock (seen.push e.born) clock ∈ H) (hM : mapX b es clock ∈ H) (he : e ∈ es.toList) (hn : (es.toList.map (·.born)).Nodup) (hN : Nat.ble (d + 1) N.n = true)
  (h : sx P N w0 Wr ops rest ((d, .tuple #[e.key, e.val]) :: fr) H Z) : sx P N w0 Wr ops (⟨some d, .entry x, ty, pos, after, none⟩ :: rest) fr H Z :=
 jE9 _ hN (fun a w ha hw => by
  have := run_entry_at (P := P) w r b clock seen es clock e (kR6 hw hH) (kR6 hw hM) he hn
  have hx' : a.eval x = .pointer (some ⟨r, 0, none⟩) := ha.eval hx
  simp only [execOp, hx', lI]
  rw [this]
  rfl) h
end
theorem yR8 {es : Array MapEntry} {js : List Nat} (hn : (es.toList.map (·.born)).Nodup) (hjs : ∀ j ∈ js, j < es.size) {e : MapEntry} (he : e ∈ (leftOf es (js.map fun j => (es.toList.map (·.born)).getD j 0).toArray).toList) : ∃ j, es.toList[j]? = some e ∧ j ∉ js ∧ j < es.size := by
 unfold leftOf at he
 simp only [Array.toList_filter, zJ] at he
 obtain ⟨h1, h2⟩ := he
 obtain ⟨j, hj⟩ := List.mem_iff_getElem?.1 h1
 refine ⟨j, hj, fun hm => ?_, by simpa using (List.getElem?_eq_some_iff.1 hj).1⟩
 have : (js.map fun j => (es.toList.map (·.born)).getD j 0).toArray.contains e.born = true := by
  rw [List.contains_toArray, List.contains_iff_mem]
  refine List.mem_map.2 ⟨j, hm, ?_⟩
  rw [uD, xR, hj]
  rfl
 rw [this] at h2
 cases h2
theorem wJ5 {es : Array MapEntry} {js : List Nat} (hn : (es.toList.map (·.born)).Nodup) (hjs : ∀ j ∈ js, j < es.size) (h0 : (leftOf es (js.map fun j => (es.toList.map (·.born)).getD j 0).toArray).size = 0) : ∀ j, j < es.size → j ∈ js := by
 intro j hj
 have hj' : j < es.toList.length := by simpa using hj
 by_cases hm : j ∈ js
 ·exact hm
 exfalso
 have hmem : es.toList[j] ∈ (leftOf es (js.map fun j => (es.toList.map (·.born)).getD j 0).toArray).toList := by
  unfold leftOf
  simp only [Array.toList_filter, zJ]
  refine ⟨uA hj', ?_⟩
  rw [List.contains_toArray]
  simp only [Bool.not_eq_true', List.contains_eq_mem, decide_eq_false_iff_not, xJ, not_exists, not_and]
  intro i hi e
  have hi' : i < es.toList.length := by simpa using hjs i hi
  rw [uD, xR, xC hi'] at e
  have e2 : (es.toList.map (·.born))[i]'(by simpa using hi') = (es.toList.map (·.born))[j]'(by simpa using hj') := by simpa using e
  have := (List.getElem_inj hn).1 e2
  subst this
  exact hm hi
 have hl : (leftOf es (js.map fun j => (es.toList.map (·.born)).getD j 0).toArray).toList = [] := by
  apply qT
  simpa using h0
 rw [hl] at hmem
 cases hmem
theorem vK8 {α : Type} [Inhabited α] {l : List α} {js : List Nat} (hn : js.Nodup) (hlt : ∀ j ∈ js, j < l.length) (hall : ∀ j, j < l.length → j ∈ js) : (js.map fun j => l[j]!).Perm l := by
 have hp : js.Perm (List.range l.length) := (List.perm_ext_iff_of_nodup hn List.nodup_range).2 fun j => ⟨fun h => List.mem_range.2 (hlt j h), fun h => hall j (List.mem_range.1 h)⟩
 have h1 := hp.map fun j => l[j]!
 have h2 : (List.range l.length).map (fun j => l[j]!) = l := by
  refine List.ext_getElem (by simp) fun j h1 h2 => ?_
  simp [xC h2]
 rwa [h2] at h1
end
section
open Go.RowKit Go.Sort
set_option maxRecDepth 100000
theorem vS4 (a : Nat) (W : World) : Calls Tryz.prog 176 #[.int .u32 (a : Nat)] W fun e w' => e = .returned (.bool false) ∧ w' = W := by
 go_enter Tryz.func176, Tryz.ntmps176
 go_wp2
 go_ret
 exact ⟨rfl, rfl⟩
theorem yD0 (a b : Nat) (W : World) : Calls Tryz.prog 135 #[.int .u32 (a : Nat), .int .u32 (b : Nat)] W fun e w' => e = .returned (iq (cmpQ a b)) ∧ w' = W := by
 have h1 := vS4 a
 have h2 := vS4 b
 by_cases hab : a < b
 ·rw [show cmpQ a b = -1 by unfold cmpQ; rw [if_pos hab]]
  go_enter Tryz.func135, Tryz.ntmps135
  go_wp2_with (first | (go_at_call 176; refine (h1 _).mono ?_; rintro e w' ⟨rfl, rfl⟩) | (go_at_call 176; refine (h2 _).mono ?_; rintro e w' ⟨rfl, rfl⟩))
  go_ret
  exact ⟨rfl, rfl⟩
 ·by_cases hba : b < a
  ·rw [show cmpQ a b = 1 by unfold cmpQ; rw [if_neg hab, if_pos hba]]
   go_enter Tryz.func135, Tryz.ntmps135
   go_wp2_with (first | (go_at_call 176; refine (h1 _).mono ?_; rintro e w' ⟨rfl, rfl⟩) | (go_at_call 176; refine (h2 _).mono ?_; rintro e w' ⟨rfl, rfl⟩))
   go_ret
   exact ⟨rfl, rfl⟩
  ·rw [show cmpQ a b = 0 by unfold cmpQ; rw [if_neg hab, if_neg hba]]
   go_enter Tryz.func135, Tryz.ntmps135
   go_wp2_with (first | (go_at_call 176; refine (h1 _).mono ?_; rintro e w' ⟨rfl, rfl⟩) | (go_at_call 176; refine (h2 _).mono ?_; rintro e w' ⟨rfl, rfl⟩))
   go_ret
   exact ⟨rfl, rfl⟩
abbrev Plc := Nat × Nat
abbrev Plc.cells (p : Plc) : List Value := [uq p.1, .int .u32 (p.2 : Nat)]
abbrev Plc.val (p : Plc) : Value := .agg (Plc.cells p).toArray
def pcmp (a b : Plc) : Int := if cmpQ a.1 b.1 ≠ 0 then cmpQ a.1 b.1 else cmpQ a.2 b.2
theorem zH3 (x y : Int) (g : Nat) (W : World) (h : ∀ k : Nat, W.cell? ⟨g, k, none⟩ = ([iq x, iq y] : List Value)[k]?) : Calls Tryz.prog 134 #[.slice (some ⟨g, 0, none⟩) 2 2] W fun e w' => e = .returned (iq (if x ≠ 0 then x else y)) ∧ w' = W := by
 have c0 := h 0
 have c1 := h 1
 simp only [qS] at c0 c1
 by_cases hx : x = 0
 ·subst hx
  rw [if_neg (by simp)]
  by_cases hy : y = 0
  ·subst hy
   go_enter Tryz.func134, Tryz.ntmps134
   go_wp2
   go_rounds 3
   all_goals (go_ret; exact ⟨rfl, rfl⟩)
  ·go_enter Tryz.func134, Tryz.ntmps134
   go_wp2
   go_rounds 3
   all_goals (go_ret; exact ⟨rfl, rfl⟩)
 ·rw [if_pos hx]
  go_enter Tryz.func134, Tryz.ntmps134
  go_wp2
  go_rounds 2
  all_goals (go_ret; exact ⟨rfl, rfl⟩)
theorem zC3 (x y : Plc) (W : World) : Calls Tryz.prog 87 #[x.val, y.val] W fun e w' => e = .returned (iq (pcmp x y)) ∧ ∃ q os', w' = grow (W.drewN q) os' := by
 have hmix := mixed
 have e40 : ∀ args w, (callFunc 40 args).run Tryz.prog w = .ok (.enter 40 args) w := enters_of Tryz.func40 (by kernel_rfl) rfl
 have hc1 := fun W => yJ0 x.1 y.1 W
 have hc2 := fun W => yD0 x.2 y.2 W
 obtain ⟨pv, hpv⟩ := xZ9 (pcmp x y)
 rw [hpv]
 go_enter Tryz.func87, Tryz.ntmps87
 go_wp2
 rename_i hK1
 obtain ⟨w2, hw2⟩ := xZ9 ((W.alloc (Obj.cells (Plc.cells x).toArray 172)).alloc (Obj.cells (Plc.cells y).toArray 172))
 have kc : ∀ (k : Nat) (u : Value), (Plc.cells x)[k]? = some u → ∀ n os, (grow (w2.drewN n) os).cell? ⟨W.heap.size, k, none⟩ = some u := fun k u hu n os => by
  subst hw2
  refine cell_grown (by simp; omega) ?_ n os
  show (match ((W.heap.push _).push _)[W.heap.size]? with | some (.cells c _ _) => _ | _ => none) = _
  rw [Array.getElem?_push_lt (by simp)]
  simp [← hu]
 have kd : ∀ (k : Nat) (u : Value), (Plc.cells y)[k]? = some u → ∀ n os, (grow (w2.drewN n) os).cell? ⟨W.heap.size + 1, k, none⟩ = some u := fun k u hu n os => by
  subst hw2
  refine cell_grown (by simp) ?_ n os
  show (match ((W.heap.push _).push _)[W.heap.size + 1]? with | some (.cells c _ _) => _ | _ => none) = _
  rw [show W.heap.size + 1 = (W.heap.push (Obj.cells (Plc.cells x).toArray 172)).size by simp, Array.getElem?_push_size]
  simp [← hu]
 have k1 := kc 0 _ rfl
 have k2 := kc 1 _ rfl
 have k3 := kd 0 _ rfl
 have k4 := kd 1 _ rfl
 clear kc kd
 rw [hw2]
 refine vH9 (n := 0) (ds := []) (jY3 (N := ⟨0, none, []⟩) (C := fun w' => ∃ p : GrownBy, w' = grow (w2.drewN p.n) p.os) [0, 1, 2, 3, 4, 5, 6, 7, 8, 9] [10, 11, 12] hmix (by kernel_rfl) ⟨⟨1, #[]⟩, by rw [grow_empty]; rfl⟩ ?_)
 refine kN2 _ _ (by decide) ?_
 repeat (quiet_step (first | (go_at_call 40; exact Calls.grown_of ((hc1 _).mono fun e w' ⟨he, hw⟩ => ⟨he, 0, #[], by rw [hw, grow_empty]; rfl⟩)) | (go_at_call 135; exact Calls.grown_of ((hc2 _).mono fun e w' ⟨he, hw⟩ => ⟨he, 0, #[], by rw [hw, grow_empty]; rfl⟩))))
 refine wpQuiet_nil ?_
 rintro _ ⟨⟨nq, osq⟩, rfl⟩
 refine jT2 _ _ _ (by decide) ?_
 refine wpList_plain rfl (fun K hK => ?_)
 go_simp
 refine hK _ _ ?_
 clear hK K
 obtain ⟨gz, hgz⟩ := xZ9 (w2.heap.size + osq.size)
 obtain ⟨w3, hw3⟩ := xZ9 ((grow (w2.drewN nq) osq).alloc (Obj.cells #[iq (cmpQ x.1 y.1), iq (cmpQ x.2 y.2)] 3))
 have hcell : ∀ k : Nat, w3.cell? ⟨gz, k, none⟩ = ([iq (cmpQ x.1 y.1), iq (cmpQ x.2 y.2)] : List Value)[k]? := fun k => by
  subst hw3
  show (match ((grow (w2.drewN nq) osq).heap.push _)[gz]? with | some (.cells c _ _) => _ | _ => none) = _
  rw [show gz = (grow (w2.drewN nq) osq).heap.size by rw [← hgz]; simp [grow], Array.getElem?_push_size]
  simp
 have hor : Calls Tryz.prog 134 #[.slice (some ⟨gz, 0, none⟩) 2 2] w3 fun e w' => e = .returned (iq pv) ∧ w' = w3 := by
  rw [← hpv]
  exact zH3 (cmpQ x.1 y.1) (cmpQ x.2 y.2) gz w3 hcell
 rw [hgz, hw3]
 refine wpList_plain rfl (fun K hK => ?_)
 go_simp
 refine hor.mono ?_
 rintro e w' ⟨rfl, rfl⟩
 refine hK _ _ ?_
 clear hK K
 refine wpList_plain rfl (fun K hK => ?_)
 go_simp
 refine hK _ _ ?_
 clear hK K
 refine ⟨rfl, hK1 _ w' ?_⟩
 go_wp2
 go_ret
 refine ⟨rfl, nq, #[Obj.cells (Plc.cells x).toArray 172] ++ #[Obj.cells (Plc.cells y).toArray 172] ++ osq ++ #[Obj.cells #[iq (cmpQ x.1 y.1), iq (cmpQ x.2 y.2)] 3], ?_⟩
 rw [← hw3, ← hw2, alloc_eq_grow, alloc_eq_grow, alloc_eq_grow]
 show grow (grow (grow (grow (W.drewN nq) _) _) osq) _ = _
 rw [grow_grow, grow_grow, grow_grow]
 simp only [Array.append_assoc]
def wE4 : Go.Shelf.Ren := ⟨fun n => match n with | 0 => 0 | 1 => 1 | 2 => 2 | 6 => 132 | 14 => 175 | 15 => 94 | 20 => 217 | 21 => 218 | 22 => 219 | 23 => 220 | 24 => 221 | 25 => 222 | 26 => 223 | 27 => 224 | 28 => 147 | 29 => 136 | 46 => 243 | 47 => 187 | 48 => 188 | 49 => 244 | 50 => 245 | 57 => 256 | 60 => 272 | 61 => 273 | 62 => 274 | 63 => 275 | 64 => 276 | 65 => 277 | 66 => 278 | 67 => 279 | 68 => 280 | 69 => 281 | 70 => 282 | 71 => 283 | 72 => 284 | 73 => 285 | 74 => 286 | 75 => 295 | _ => 0, fun n => match n with | 0 => 0 | 1 => 1 | 2 => 2 | 3 => 3 | 4 => 4 | 5 => 5 | 6 => 6 | 7 => 7 | 8 => 8 | 9 => 9 | 10 => 10 | 11 => 11 | 12 => 12 | 13 => 13 | 14 => 14 | 15 => 15 | 16 => 16 | 17 => 17 | 18 => 18 | 19 => 19 | 20 => 20 | 21 => 21 | 22 => 174 | 23 => 232 | 24 => 172 | 25 => 179 | 27 => 247 | 37 => 271 | 38 => 185 | 39 => 186 | 40 => 233 | 42 => 269 | 44 => 307 | 45 => 240 | 46 => 241 | 47 => 308 | 48 => 309 | 49 => 310 | 50 => 103 | 51 => 311 | 52 => 246 | 53 => 78 | 54 => 181 | 55 => 25 | 66 => 279 | 67 => 280 | 68 => 167 | 69 => 326 | 70 => 282 | 71 => 327 | 76 => 314 | 77 => 315 | 78 => 343 | 81 => 119 | 82 => 361 | 83 => 362 | 84 => 363 | 85 => 364 | 86 => 365 | 87 => 140 | 88 => 366 | 89 => 367 | 90 => 368 | 91 => 254 | 92 => 369 | 93 => 370 | 94 => 371 | 95 => 372 | 96 => 288 | _ => 0, fun n => match n with | _ => 0⟩
theorem yG7 : SlLaysF0.n6 Tryz.prog wE4 where
 mixed := by kernel_rfl
 f6 := ⟨"slices.SortFunc[[]gazetteer/audit.place,gazetteer/audit.place]", by decide, by kernel_rfl⟩
 f14 := ⟨"slices.pdqsortCmpFunc[gazetteer/audit.place]", by decide, by kernel_rfl⟩
 f15 := by kernel_rfl
 f20 := ⟨"slices.insertionSortCmpFunc[gazetteer/audit.place]", by decide, by kernel_rfl⟩
 f21 := ⟨"slices.heapSortCmpFunc[gazetteer/audit.place]", by decide, by kernel_rfl⟩
 f22 := ⟨"slices.breakPatternsCmpFunc[gazetteer/audit.place]", by decide, by kernel_rfl⟩
 f23 := ⟨"slices.choosePivotCmpFunc[gazetteer/audit.place]", by decide, by kernel_rfl⟩
 f24 := ⟨"slices.reverseRangeCmpFunc[gazetteer/audit.place]", by decide, by kernel_rfl⟩
 f25 := ⟨"slices.partialInsertionSortCmpFunc[gazetteer/audit.place]", by decide, by kernel_rfl⟩
 f26 := ⟨"slices.partitionEqualCmpFunc[gazetteer/audit.place]", by decide, by kernel_rfl⟩
 f27 := ⟨"slices.partitionCmpFunc[gazetteer/audit.place]", by decide, by kernel_rfl⟩
 f28 := by kernel_rfl
 f29 := by kernel_rfl
 f46 := ⟨"slices.siftDownCmpFunc[gazetteer/audit.place]", by decide, by kernel_rfl⟩
 f47 := by kernel_rfl
 f48 := by kernel_rfl
 f49 := ⟨"slices.medianAdjacentCmpFunc[gazetteer/audit.place]", by decide, by kernel_rfl⟩
 f50 := ⟨"slices.medianCmpFunc[gazetteer/audit.place]", by decide, by kernel_rfl⟩
 f57 := ⟨"slices.order2CmpFunc[gazetteer/audit.place]", by decide, by kernel_rfl⟩
 t0 := by kernel_rfl
 a0 := fun w => by kernel_rfl
 z0 := fun w => by kernel_rfl
 v0 := fun w => by kernel_rfl
 t3 := by kernel_rfl
 a3 := fun w => by kernel_rfl
 z3 := fun w => by kernel_rfl
 v3 := fun w => by kernel_rfl
 t4 := by kernel_rfl
 a4 := fun w => by kernel_rfl
 z4 := fun w => by kernel_rfl
 v4 := fun w => by kernel_rfl
 t5 := by kernel_rfl
 a5 := fun w => by kernel_rfl
 z5 := fun w => by kernel_rfl
 v5 := fun w => by kernel_rfl
 t9 := by kernel_rfl
 a9 := fun w => by kernel_rfl
 z9 := fun w => by kernel_rfl
 v9 := fun w => by kernel_rfl
 t22 := by kernel_rfl
 a22 := fun w => by kernel_rfl
 z22 := fun w => by kernel_rfl
 v22 := fun w => by kernel_rfl
 t25 := by kernel_rfl
 a25 := fun w => by kernel_rfl
 z25 := fun w => by kernel_rfl
 v25 := fun w => by kernel_rfl
 t39 := by kernel_rfl
 a39 := fun w => by kernel_rfl
 z39 := fun w => by kernel_rfl
 v39 := fun w => by kernel_rfl
 t45 := by kernel_rfl
 a45 := fun w => by kernel_rfl
 z45 := fun w => by kernel_rfl
 v45 := fun w => by kernel_rfl
 t46 := by kernel_rfl
 a46 := fun w => by kernel_rfl
 z46 := fun w => by kernel_rfl
 v46 := fun w => by kernel_rfl
 t50 := by kernel_rfl
 a50 := fun w => by kernel_rfl
 z50 := fun w => by kernel_rfl
 v50 := fun w => by kernel_rfl
 t53 := by kernel_rfl
 a53 := fun w => by kernel_rfl
 z53 := fun w => by kernel_rfl
 v53 := fun w => by kernel_rfl
 t55 := by kernel_rfl
 a55 := fun w => by kernel_rfl
 z55 := fun w => by kernel_rfl
 v55 := fun w => by kernel_rfl
 t66 := by kernel_rfl
 a66 := fun w => by kernel_rfl
 z66 := fun w => by kernel_rfl
 v66 := fun w => by kernel_rfl
 t70 := by kernel_rfl
 a70 := fun w => by kernel_rfl
 z70 := fun w => by kernel_rfl
 v70 := fun w => by kernel_rfl
 t76 := by kernel_rfl
 a76 := fun w => by kernel_rfl
 z76 := fun w => by kernel_rfl
 v76 := fun w => by kernel_rfl
 t77 := by kernel_rfl
 a77 := fun w => by kernel_rfl
 z77 := fun w => by kernel_rfl
 v77 := fun w => by kernel_rfl
abbrev plcs (L : List Plc) : List Value := L.flatMap Plc.cells
theorem kK4 (L : List Plc) : (plcs L).length = L.length * 2 := kD6 (f := Plc.cells) (n := 2) (fun _ => rfl) L
theorem vK7 (blk off size : Nat) (w : World) : CmpLays Tryz.prog 87 #[] Plc.cells 2 pcmp blk off size w :=
 fun _ _ _ _ x y => zC3 x y _
def pLt (a b : Plc) : Prop := a.1 < b.1 ∨ (a.1 = b.1 ∧ a.2 < b.2)
instance (a b : Plc) : Decidable (pLt a b) := by unfold pLt; infer_instance
theorem kK5 (x y : Plc) : ltOf pcmp x y = decide (pLt x y) := by
 have h1 : pcmp x y < 0 ↔ pLt x y := by
  unfold pcmp pLt
  split
  ·rename_i h
   rw [cmpQ_lt]
   have : x.1 ≠ y.1 := fun e => h (cmpQ_eq.2 e)
   omega
  ·rename_i h
   have : x.1 = y.1 := cmpQ_eq.1 (by simpa using h)
   rw [cmpQ_lt]
   omega
 unfold ltOf
 rw [lR]
 simp [h1]
theorem yP7 : SWO (ltOf pcmp) where
 irrefl x := by rw [kK5]; simp [pLt]
 trans x y z h1 h2 := by simp only [kK5, decide_eq_true_eq, decide_eq_false_iff_not] at *; unfold pLt at *; omega
 ntrans x y z h1 h2 := by simp only [kK5, decide_eq_true_eq, decide_eq_false_iff_not] at *; unfold pLt at *; omega
theorem wH6 : ∀ (L : List Plc) (t : Nat), t < L.length * 2 → (plcs L)[t]? = some ((L[t / 2]!).cells)[t % 2]!
 | [], t, h => by simp at h
 | e :: r, 0, _ => by simp
 | e :: r, 1, _ => by simp
 | e :: r, t + 2, h => by
  have h1 := wH6 r t (by simp at h; omega)
  have e1 : (t + 2) / 2 = t / 2 + 1 := by omega
  have e2 : (t + 2) % 2 = t % 2 := by omega
  rw [e1, e2]
  simp only [plcs, xX, Plc.cells] at h1 ⊢
  simpa using h1
theorem vR2 (L : List Plc) : (flatK Plc.cells 2 L.toArray).toList = plcs L := by
 refine uM fun t => ?_
 rcases xP t (L.length * 2) with h | h
 ·rw [wH6 L t h]
  have hs : t < (flatK Plc.cells 2 L.toArray).size := by rw [size_flatK]; simpa using h
  have g := get_flatK Plc.cells 2 L.toArray t (by simpa using h)
  rw [getElem!_pos _ t hs] at g
  rw [qW, qV hs, g]
  simp
 ·rw [qL (by simpa using h), qL (by rw [kK4]; omega)]
theorem kO3 : Enters Tryz.prog 132 := Enters.mk Tryz.func132 (by kernel_rfl) (by kernel_rfl)
theorem wX6 (g n c : Nat) (L : List Plc) (hn : n = L.length) (hL : L.length ≤ 1000000) :
  Fn Tryz.prog 132 [.slice (some ⟨g, 0, none⟩) n c, .func (.func 87) #[] #[]] [.ob g (RowP 172 2 n c (plcs L))] fun v H' => v = .tuple #[] ∧ ∃ M : List Plc, M.Perm L ∧ M.Pairwise (fun a b => ¬ pLt b a) ∧ H' = [.ob g (RowP 172 2 n c (plcs M))] := by
 refine ⟨kO3, fun w hw => ?_⟩
 subst hn
 obtain ⟨⟨ob, hob, cur, rfl, hc1, hc2, hc3, hc4, hc5⟩, _⟩ := hw.ents _ lO
 have hlt : g < w.heap.size := (Array.getElem?_eq_some_iff.1 hob).1
 have eg : ∀ args w, (callFunc 87 args).run Tryz.prog w = .ok (.enter 87 args) w := enters_of Tryz.func87 (by kernel_rfl) rfl
 have hH : HoldsK Plc.cells 2 w g 0 L.toArray := fun j hj => by
  have hj' : j < L.length * 2 := by simpa using hj
  have hjs : j < (flatK Plc.cells 2 L.toArray).size := hj
  have h1 : (plcs L)[j]? = some ((flatK Plc.cells 2 L.toArray)[j]!) := by
   rw [← vR2, qW, qV hjs, getElem!_pos _ j hjs]
  refine ⟨?_, ?_⟩
  ·rw [lA]
   simp only [World.cell?, hob]
   rw [← hc4, qU, if_pos hj'] at h1
   simpa using h1
  ·simp [World.frozen?, hob]
 have hcon := AnyQ.slices_SortFunc yG7 2 (fun w => by kernel_rfl) (fun w => by kernel_rfl) Plc.cells (fun _ => rfl) (fun x v hv => by simp [Plc.cells] at hv; rcases hv with rfl | rfl <;> rfl) pcmp yP7 87 #[] g 0 c L.toArray w eg (vK7 g 0 _ w) hH hlt (by simp; omega)
 have hcon' : Calls Tryz.prog 132 #[.slice (some ⟨g, 0, none⟩) L.length c, .func (.func 87) #[] #[]] w (fun e w' => e = .returned (.tuple #[]) ∧ ∃ d' n os, PermIn 0 L.length L.toArray d' ∧ SortedIn (ltOf pcmp) 0 L.length d' ∧ w' = sortWorldK Plc.cells 2 w g 0 n d' os) := hcon
 refine hcon'.mono fun e w' he => ?_
 obtain ⟨he, d', m, os, hp, hs, rfl⟩ := he
 have hsz : d'.size = L.length := by simpa using hp.1
 have hperm : d'.toList.Perm L := by
  have := hp.2.2
  have e : List.take d'.size L = L := by rw [hsz, x6]
  simpa [← hsz, e] using this
 refine ⟨_, [.ob g (RowP 172 2 L.length c (plcs d'.toList))], he, ⟨rfl, d'.toList, hperm, ?_, rfl⟩, ?_⟩
 ·refine List.pairwise_iff_getElem.2 fun i j hi hj hij => ?_
  have h1 := hs i j (xD _) hij (by simp at hj ⊢; omega)
  rw [kK5] at h1
  simp at hi hj
  rw [getElem!_pos d' i hi, getElem!_pos d' j hj] at h1
  simpa using h1
 ·have hfs : (flatK Plc.cells 2 d').size = L.length * 2 := by rw [size_flatK, hsz]
  have hfl : (flatK Plc.cells 2 d').toList = plcs d'.toList := by have := vR2 d'.toList; simpa using this
  obtain ⟨cur', hcur'⟩ : ∃ c', putCells id 0 (flatK Plc.cells 2 d') cur = c' := ⟨_, rfl⟩
  have hcs : cur'.size = c * 2 := by rw [← hcur']; simp [putCells, hc3]
  have hct : cur'.toList.take (L.length * 2) = plcs d'.toList := by
   refine uM fun t => ?_
   rcases xP t (L.length * 2) with h | h
   ·have ht : t < cur.size := by omega
    have htf : t < (flatK Plc.cells 2 d').size := by omega
    rw [qU, if_pos h, qW, ← hcur', ← hfl, qW]
    simp only [putCells, Array.getElem?_mapIdx, qV ht, qA, qV htf]
    rw [if_pos ⟨xD _, by omega⟩, Nat.sub_zero, getElem!_pos _ t htf]
    rfl
   ·rw [qL (by rw [xS]; omega), qL (by rw [kK4]; simp; omega)]
  have hblk : ∀ k, k < w.heap.size → (sortWorldK Plc.cells 2 w g 0 m d' os).heap[k]? = if g = k then some (.cells cur' 172 (0, 0)) else w.heap[k]? := fun k hk => by
   simp only [sortWorldK, grow, putRowK, putRow, mapBlock, Go.Sort.ahead]
   rw [Array.getElem?_append_left (by simpa using hk), zX]
   by_cases hgk : g = k
   ·subst hgk
    rw [if_pos rfl, if_pos rfl, hob, qA, onCells, hcur']
   ·rw [if_neg hgk, if_neg hgk]
  refine ⟨⟨rfl, rfl, rfl, by simp only [sortWorldK, grow, putRowK, putRow, mapBlock, Go.Sort.ahead, Array.size_append, Array.size_modify]; exact Nat.le_add_right _ _, fun k hk hn => ?_⟩, fun x hx => ?_, List.pairwise_singleton _ _⟩
  ·rw [hblk k hk, if_neg (fun h => hn (by subst h; exact (lO : g ∈ [g])))]
  ·obtain rfl := List.mem_singleton.1 hx
   refine ⟨⟨_, ?_, cur', rfl, hc1, hc2, hcs, hct, by rw [kK4]; simp [hsz]⟩, fun _ => .inl (lO : g ∈ [g])⟩
   have := hblk g hlt
   rw [if_pos rfl] at this
   exact this
theorem wH1 (v : Value) (L : List Plc) (hv : RowOk v L.length) (hL : L.length ≤ 1000000) :
  Fn Tryz.prog 132 [v, .func (.func 87) #[] #[]] (rowE v 172 2 (plcs L)) fun u H' => u = .tuple #[] ∧ ∃ M : List Plc, M.Perm L ∧ M.Pairwise (fun a b => ¬ pLt b a) ∧ H' = rowE v 172 2 (plcs M) := by
 rcases zK L.length with h0 | h0
 ·obtain rfl := qT h0
  obtain ⟨A, c, rfl, hA⟩ := hv.form
  exact ⟨kO3, fun w hw => (AnyF.slices_SortFunc_none yG7 A c (.func (.func 87) #[] #[]) w).mono fun e w' ⟨he, hw'⟩ => ⟨_, _, he, ⟨rfl, [], List.Perm.refl _, qH, rfl⟩, by rw [hw']; exact hw⟩⟩
 ·obtain ⟨g, c, rfl⟩ := hv.some h0
  exact wX6 g L.length c L rfl hL
end
section
open Go.RowKit V
set_option maxRecDepth 100000
theorem yY1 {T K A : Heap} (h : Wrs T) : HLe T (A ++ (T.filter Ent.wr ++ K)) := by
 rw [h.filter]
 exact HLe.sub ((lS T K).trans (lP A _))
theorem keyP : KeyOk Tryz.prog 172 (fun c : Plc => Plc.val c) where
 eq a b w := by
  obtain ⟨a1, a2⟩ := a
  obtain ⟨b1, b2⟩ := b
  simp [go_sem, Op.equal, Op.maxDepth]
  by_cases h1 : a1 = b1 <;> by_cases h2 : a2 = b2
  ·simp [h1, h2]
  ·have : ¬ (a2 : Int) = b2 := by omega
   simp [h1, h2, this]
  ·have : ¬ (a1 : Int) = b1 := by omega
   simp [h1, this]
  ·have : ¬ (a1 : Int) = b1 := by omega
   simp [h1, this]
 chk e a w := by
  have hi : ∀ (x : Nat) (n : Nat), (Instr.checkKey e (n + 1) 25 (.int .u64 (x : Int))).run Tryz.prog w = .ok () w := fun x n => by
   rw [Instr.checkKey]
   simp [run_underlying Tryz.underlying25]
  have hj : ∀ (x : Nat) (n : Nat), (Instr.checkKey e (n + 1) 78 (.int .u32 (x : Int))).run Tryz.prog w = .ok () w := fun x n => by
   rw [Instr.checkKey]
   simp [run_underlying Tryz.underlying78]
  rw [show (10000 : Nat) = 9998 + 1 + 1 from rfl, Instr.checkKey]
  simp [go_sem, run_underlying Tryz.underlying172, hi, hj]
 und := ⟨_, Tryz.underlying172, .inl fun a b => by simp [Instr.sameNow]⟩
 same a := by simp [Instr.sameBits]
abbrev PlM := List (Plc × Nat)
abbrev plcE (gm : Nat) (M : PlM) : Ent := mapS (fun c : Plc => Plc.val c) (fun n : Nat => iq (n : Nat)) gm M
abbrev PlEs (es : Array MapEntry) (clock : Nat) (M : PlM) : Prop := EsOk (fun c : Plc => Plc.val c) (fun n : Nat => iq (n : Nat)) es clock M
theorem PlEs.size {es : Array MapEntry} {clock : Nat} {M : PlM} (h : PlEs es clock M) : es.size = M.length := by simpa using congrArg List.length h.rd
theorem PlEs.key {es : Array MapEntry} {clock : Nat} {M : PlM} (h : PlEs es clock M) {j : Nat} {e : MapEntry} (he : es.toList[j]? = some e) : ∃ p, (jD8 M)[j]? = some p ∧ e.key = Plc.val p := by
 have h1 := congrArg (fun l => l[j]?) h.rd
 simp only [xR, he, qA] at h1
 cases hm : M[j]? with
 | none => rw [hm] at h1; cases h1
 | some x =>
  rw [hm] at h1
  simp only [qA, x5, Prod.mk.injEq] at h1
  exact ⟨x.1, by rw [jD8, xR, hm]; rfl, h1.1⟩
theorem vS3 {js : List Nat} {n : Nat} (hn : js.Nodup) (hlt : ∀ j ∈ js, j < n) : js.length ≤ n := by
 have h := kG1 js (List.range n) hn fun j hj => List.mem_range.2 (hlt j hj)
 rwa [List.length_range] at h
theorem wY1 (gb gm : Nat) (es : Array MapEntry) (clock : Nat) (M : PlM) (hE : PlEs es clock M) :
  yF6 Tryz.prog 133 [ptr gb 0] [.ro gb 0 [.map (some gm)]] [mapX gm es clock] ([] : List Nat)
   (fun js vs js' => ∃ j p, j ∉ js ∧ (jD8 M)[j]? = some p ∧ vs = [Plc.val p] ∧ js' = js ++ [j]) (fun js => ∀ j, j < M.length → j ∈ js) := by
 intro l J Jr S hJ hX hS hJr hY T0 hT0
 have hsz := hE.size
 have hX' : ∀ {js T A B}, J js T → mapX gm es clock ∈ A ++ (T ++ B) := fun h => x0 _ (xI _ ((hX _ _ h).subset lO))
 refine Fn.enter (N := 14) Tryz.func133 rfl (by kernel_rfl) rfl (fun w0 => ?_)
 refine jA6 (.ro gb 0 [.map (some gm)] :: (T0 ++ Jr)) (HLe.refl _) <| aR (fun Z hZ => jB4 0 rfl rfl 0 rfl tyA170 tyS170 rfl rfl <| vP4 Tryz.underlying170 rfl (hX' (A := [_]) hT0) rfl (fun r => sN (hZ _ _ <| f2K 0 5 rfl <| aB ?_)))
 refine jB9 (ι := List Nat × Heap × Nat) (fun i => [(0, .func (.yield l) #[] #[]), (5, ptr r 0)]) (fun i => itX r gm clock (i.1.map fun j => (es.toList.map (·.born)).getD j 0).toArray i.2.2 :: .ro gb 0 [.map (some gm)] :: (i.2.1 ++ Jr))
  (fun i => i.1.Nodup ∧ (∀ j ∈ i.1, j < es.size) ∧ J i.1 i.2.1 ∧ clock ≤ i.2.2) (fun i => es.size - i.1.length) ([], T0, clock) ⟨uB, by simp, hT0, xB _⟩ (kR rfl) (HLe.refl _) ?_
 rintro ⟨js, T2, c⟩ ⟨hn, hlt, hT2, hc⟩
 simp only at hn hlt hT2 hc
 refine jA6 (itX r gm clock (js.map fun j => (es.toList.map (·.born)).getD j 0).toArray c :: .ro gb 0 [.map (some gm)] :: (T2 ++ Jr)) (HLe.refl _) <| aR (fun Z hZ => vP5 0 rfl rfl (hX' (A := [_, _]) hT2) hE.lt hc rfl (fun u tl seen' c' hu0 hu1 => sX rfl rfl rfl <| sN (hZ _ _ <| f3K 0 5 7 rfl <| aS (aC0 (fun h => ?_) (fun h => ?_)))))
 ·have hu : u = true := by simpa using h
  obtain ⟨e, he, hs', hc'⟩ := hu1 hu
  rw [hs', hc']
  obtain ⟨j, hj, hjn, hjs⟩ := yR8 hE.bn hlt he
  obtain ⟨p, hp, hk⟩ := hE.key hj
  have hem : e ∈ es.toList := xM hj
  have hborn : (es.toList.map (·.born)).getD j 0 = e.born := by rw [uD, xR, hj]; rfl
  have hsn : (js.map fun j => (es.toList.map (·.born)).getD j 0).toArray.push e.born = ((js ++ [j]).map fun j => (es.toList.map (·.born)).getD j 0).toArray := by
   rw [x8, xN, qJ, hborn]
   simp
  refine aK <| nN <| aB <| aR (fun Z hZ => wV1 rfl lO (hX' (A := [_, _]) hT2) hem hE.bn rfl ?_)
  rw [hk]
  refine sX rfl rfl rfl <| sAl tyZ172 rfl (fun g1 => sS0 0 tyS172 ?_)
  refine sN (hZ _ _ <| f3K 0 3 5 rfl <| jA6 ([.own g1 172 (Plc.cells p), itX r gm clock ((js ++ [j]).map fun j => (es.toList.map (·.born)).getD j 0).toArray clock, .ro gb 0 [.map (some gm)]] ++ (T2 ++ Jr)) (by rw [← hsn]; exact HLe.refl _) ?_)
  refine jM2 (fun Z hZ => sy_x rfl <| sM rfl rfl <| sN <| sy_x rfl <| sLA0 0 tyA172 tyS172 ?_)
  refine sN <| kB8 [_, _, _] T2 Jr Jr (hY js [Plc.val p] (js ++ [j]) T2 ⟨j, p, hjn, hp, rfl, rfl⟩ hT2) rfl rfl rfl (xU _) hJr rfl ?_
  rintro v T3 ⟨b, rfl, hb1, hb2⟩
  refine sy_x rfl <| jI8 rfl rfl <| sN <| vB7 (hZ _ _ <| f3K 0 5 13 rfl <| aC0 (fun h3 => ?_) (fun h3 => ?_))
  ·have hb : b = false := by simpa using h3
   refine aE ?_
   repeat (with_reducible (first | refine nTR ?_ | refine nBR ?_))
   exact jK3 T3 rfl (yY1 (A := [_, _, _]) (hS T3 (hb2 hb))) (.inr (hb2 hb))
  have hb : b = true := by simpa using h3
  have hT3 := hb1 hb
  have hle : js.length < es.size := by
   have h1 := vS3 (n := es.size) (show (js ++ [j]).Nodup from List.nodup_append.2 ⟨hn, by simp, fun a ha b hb e => by rw [List.mem_singleton.1 hb] at e; exact hjn (e ▸ ha)⟩) (fun x hx => by rcases List.mem_append.1 hx with h | h; exact hlt x h; rw [List.mem_singleton.1 h]; exact hjs)
   rw [lX, zD] at h1
   omega
  rw [(hJ _ T3 hT3).filter]
  refine aK ?_
  repeat refine nBN ?_
  exact jB8 (js ++ [j], T3, clock) ⟨List.nodup_append.2 ⟨hn, by simp, fun a ha b hb e => by rw [List.mem_singleton.1 hb] at e; exact hjn (e ▸ ha)⟩, fun x hx => by rcases List.mem_append.1 hx with h | h; exact hlt x h; rw [List.mem_singleton.1 h]; exact hjs, hT3, xB _⟩ (by show es.size - (js ++ [j]).length < es.size - js.length; rw [lX, zD]; omega) (kR rfl) (HLe.drop 1 rfl)
 ·have hu : u = false := by simpa using h
  have hfin := wJ5 hE.bn hlt (hu0 hu)
  refine jB1 ?_
  repeat refine nTE ?_
  refine nBE <| jH5 T2 rfl (HLe.sub ((lS T2 Jr).trans (lP [_, _] _))) (.inl ⟨js, fun j hj => hfin j (by omega), hT2⟩)
theorem yU6 : ElemOk Tryz.prog 174 172 2 16 := ElemOk.mk_ (z := .agg #[.int .u64 0, .int .u32 0]) Tryz.underlying174 (by kernel_rfl) rfl (by omega)
abbrev plAt (M : PlM) (js : List Nat) : List Plc := js.map fun j => (jD8 M)[j]!
theorem vX2 (gb gm : Nat) (es : Array MapEntry) (clock : Nat) (M : PlM) (hE : PlEs es clock M) (hM : M.length ≤ 100000) :
  Fn Tryz.prog 174 [.slice none 0 0, .func (.func 133) #[] #[ptr gb 0]] [mapX gm es clock, .ro gb 0 [.map (some gm)]] fun u H' => ∃ L : List Plc, L.Perm (jD8 M) ∧ RowOk u L.length ∧ H' = rowE u 172 2 (plcs L) ++ [mapX gm es clock] := by
 have hkl : (jD8 M).length = M.length := by simp [jD8]
 refine Fn.enterM (n := 13) Tryz.func174 rfl (by kernel_rfl) rfl (fun w0 => ?_)
 refine aR (fun Z hZ => jB5 (fun g1 => ?_))
 refine sAN hZ rfl rfl <| f2K 1 2 rfl <| aS <| aR fun Z hZ => sMN hZ rfl rfl <| f2K 2 6 rfl <| aB ?_
 refine kH1 (fun (js : List Nat) T => ∃ v, RowOk v js.length ∧ js.Nodup ∧ (∀ j ∈ js, j < M.length) ∧ T = .own g1 174 [v] :: mapX gm es clock :: rowE v 172 2 (plcs (plAt M js))) [] (fun _ _ => False) (.own g1 174 [.slice none 0 0] :: mapX gm es clock :: []) (wY1 gb gm es clock M hE) rfl
  (fun js T ⟨v, _, _, _, h⟩ => h ▸ .cons rfl (.cons rfl (jI9 _ _ _ _))) (fun js T ⟨v, _, _, _, h⟩ => h ▸ .cons _ (.cons_cons _ (lN _))) (fun _ _ h => h.elim) Ro.nil (fun x hx => by rw [List.mem_singleton.1 hx]; rfl)
  (fun js vs js' ⟨j, p, _, _, h, _⟩ => by rw [h]; rfl) rfl ⟨_, RowOk.nil, uB, by simp, rfl⟩ (HLe.refl _) rfl ?_ ?_ (fun _ _ _ h => h.elim)
 ·rintro js vs js' T ⟨j, p, hjn, hp, rfl, rfl⟩ ⟨v, hv, hn, hlt, rfl⟩ l w1
  have hjl : j < (jD8 M).length := (List.getElem?_eq_some_iff.1 hp).1
  have hpe : (jD8 M)[j]! = p := by rw [getElem!_pos _ j hjl]; exact (List.getElem?_eq_some_iff.1 hp).2
  have hjm : j < M.length := by omega
  have hnd : (js ++ [j]).Nodup := List.nodup_append.2 ⟨hn, by simp, fun a ha b hb e => by rw [List.mem_singleton.1 hb] at e; exact hjn (e ▸ ha)⟩
  have hlt' : ∀ x ∈ js ++ [j], x < M.length := fun x hx => by
   rcases List.mem_append.1 hx with h | h
   ·exact hlt x h
   ·rw [List.mem_singleton.1 h]; exact hjm
  have hle : js.length < M.length := by
   have h1 := vS3 hnd hlt'
   rw [lX, zD] at h1
   omega
  have hcs : plcs (plAt M (js ++ [j])) = plcs (plAt M js) ++ Plc.cells p := by
   simp only [plAt, plcs, x8, xN, qJ, hpe, zV, xX, List.flatMap_nil, lH]
  refine jA6 (.own g1 174 [v] :: mapX gm es clock :: rowE v 172 2 (plcs (plAt M js))) (by rw [lH]; exact HLe.refl _) ?_
  refine aG (fun Z hZ => sAl tyZ172 rfl (fun g2 => sS0 0 tyS172 ?_))
  refine sN (hZ _ _ <| nF [(2, _), (5, _)] (kR rfl) <| jV7 [.own g2 172 (Plc.cells p)] (.cons rfl .nil) (by rw [lH]; exact HLe.refl _) fun w2 => ?_)
  refine aB <| jA6 ([.own g2 172 (Plc.cells p), .own g1 174 [v], mapX gm es clock] ++ rowE v 172 2 (plcs (plAt M js))) (by rw [lH]; exact HLe.refl _) ?_
  refine aG (fun Z hZ => sL0 1 tyA174 tyS174 ?_)
  refine sLA0 0 tyA172 tyS172 ?_
  refine sBS0 Tryz.underlying174 tyS172 tyZ172 (fun g3 => ?_)
  refine jC9 [_, _, _, _] yU6 rfl hv (by rw [kK4, zG]) rfl (fun w hw => jJ3 (i := 0) (n := 1) (xs := Plc.cells p) rfl rfl hw) rfl (by show _ ≤ 9223372036854775807; omega) (by omega) (HLe.refl _) rfl (fun v2 hv2 => ?_)
  obtain ⟨A2, c2, rfl, hA2⟩ := hv2.form
  refine sS10 2 tyS174 ?_
  refine sN (hZ _ _ <| nF [] (Kn.nil) <| nBN <| kA2 _ ⟨_, by rw [lX]; exact hv2, hnd, hlt', rfl⟩ (by rw [hcs]; exact HLe.drop 2 rfl))
 ·rintro D js T hfin ⟨v, hv, hn, hlt, rfl⟩
  obtain ⟨A2, c2, rfl, hA2⟩ := hv.form
  refine nBN ?_
  with_reducible refine jN8 ?_
  refine jA6 (.ob D jL4 :: .own g1 174 [.slice A2 js.length c2] :: mapX gm es clock :: (rowE (.slice A2 js.length c2) 172 2 (plcs (plAt M js)) ++ [.ro gb 0 [.map (some gm)]])) (by rw [lH]; exact HLe.refl _) ?_
  refine aR (fun Z hZ => sL0 1 tyA174 tyS174 ?_)
  refine sAN hZ rfl rfl <| f1K 4 rfl <| aE <| jJ5 [0] ⟨rfl, trivial⟩ (jC1 (rowE (.slice A2 js.length c2) 172 2 (plcs (plAt M js)) ++ [mapX gm es clock]) rfl rfl ((HLe.swap [_] _).trans (HLe.sub (.cons _ (.cons_cons _ (lS _ _))))) ⟨plAt M js, vK8 hn (fun j hj => by rw [hkl]; exact hlt j hj) (fun j hj => hfin j (by omega)), by rw [zG]; exact hv, rfl⟩)
theorem wY2 (gm : Nat) : Fn Tryz.prog 86 [.map (some gm)] [] fun v H' => ∃ gb, v = .func (.func 133) #[] #[ptr gb 0] ∧ H' = [.own gb 170 [.map (some gm)]] := by
 refine Fn.enter (N := 4) Tryz.func86 rfl (by kernel_rfl) rfl (fun w0 => ?_)
 refine aR (fun Z hZ => jB5 (fun g1 => ?_))
 refine sAN hZ rfl rfl <| f1K 1 rfl <| aR (fun Z hZ => jH1 rfl rfl <| sAN hZ rfl rfl <| f1K 2 rfl <| aE <| jC1 _ rfl rfl (HLe.refl _) ⟨_, rfl, rfl⟩)
theorem vL1 (gb gm : Nat) (es : Array MapEntry) (clock : Nat) (M : PlM) (hE : PlEs es clock M) (hM : M.length ≤ 100000) :
  Fn Tryz.prog 131 [.func (.func 133) #[] #[ptr gb 0]] [mapX gm es clock, .ro gb 0 [.map (some gm)]] fun u H' => ∃ L : List Plc, L.Perm (jD8 M) ∧ RowOk u L.length ∧ H' = rowE u 172 2 (plcs L) ++ [mapX gm es clock] := by
 refine Fn.enter (N := 5) Tryz.func131 rfl (by kernel_rfl) rfl (fun w0 => ?_)
 refine aA rfl rfl <| f1K 0 rfl <| aR fun Z hZ => sM rfl rfl <| jA5 [mapX gm es clock, .ro gb 0 [.map (some gm)]] [] (vX2 gb gm es clock M hE hM) rfl (HLe.refl _) rfl ?_
 rintro v H' ⟨L, hp, hv, rfl⟩
 rw [zB, jF1]
 refine sAN hZ rfl rfl <| f1K 2 rfl <| aE <| jC1 (rowE v 172 2 (plcs L) ++ [mapX gm es clock]) rfl rfl (by rw [lH]; exact HLe.refl _) ⟨L, hp, hv, rfl⟩
theorem vX0 (gb gm : Nat) (es : Array MapEntry) (clock : Nat) (M : PlM) (hE : PlEs es clock M) (hM : M.length ≤ 100000) :
  Fn Tryz.prog 85 [.func (.func 133) #[] #[ptr gb 0], .func (.func 87) #[] #[]] [mapX gm es clock, .ro gb 0 [.map (some gm)]] fun u H' => ∃ L : List Plc, L.Perm (jD8 M) ∧ L.Pairwise (fun a b => ¬ pLt b a) ∧ RowOk u L.length ∧ H' = rowE u 172 2 (plcs L) ++ [mapX gm es clock] := by
 have hkl : (jD8 M).length = M.length := by simp [jD8]
 refine Fn.enter (N := 12) Tryz.func85 rfl (by kernel_rfl) rfl (fun w0 => ?_)
 refine aA rfl rfl <| f2K 0 1 rfl <| aR fun Z hZ => sM rfl rfl <| jA5 [mapX gm es clock, .ro gb 0 [.map (some gm)]] [] (vL1 gb gm es clock M hE hM) rfl (HLe.refl _) rfl ?_
 rintro v H' ⟨L, hp, hv, rfl⟩
 rw [zB, jF1]
 refine sAN hZ rfl rfl <| f2K 1 5 rfl <| jA6 (rowE v 172 2 (plcs L) ++ [mapX gm es clock]) (by rw [lH]; exact HLe.refl _) ?_
 have hlen := hp.length_eq
 refine aR fun Z hZ => sM rfl rfl <| sM rfl rfl <| jA5 (rowE v 172 2 (plcs L)) [mapX gm es clock] (wH1 v L hv (by omega)) rfl (HLe.refl _) rfl ?_
 rintro v2 H' ⟨rfl, L2, hp2, hs, rfl⟩
 rw [jF1]
 refine sN (hZ _ _ <| f1K 5 rfl <| aR fun Z hZ => sM rfl rfl <| sAN hZ rfl rfl <| f1K 4 rfl <| aE ?_)
 have hl2 := hp2.length_eq
 exact jC1 (rowE v 172 2 (plcs L2) ++ [mapX gm es clock]) rfl rfl (HLe.refl _) ⟨L2, hp2.trans hp, hs, by rw [hl2]; exact hv, rfl⟩
abbrev BrE (gm : Nat) : Ent := mapE (fun k : Nat => .int .u8 (k : Nat)) (fun n : Nat => iq (n : Nat)) gm ([] : List (Nat × Nat))
theorem yD8 (gm : Nat) : Fn Tryz.prog 35 [.map (some gm)] [] fun v H' => ∃ gb, v = .func (.func 92) #[] #[ptr gb 0] ∧ H' = [.own gb 83 [.map (some gm)]] := by
 refine Fn.enter (N := 4) Tryz.func35 rfl (by kernel_rfl) rfl (fun w0 => ?_)
 refine aR (fun Z hZ => jB5 (fun g1 => ?_))
 refine sAN hZ rfl rfl <| f1K 1 rfl <| aR (fun Z hZ => jH1 rfl rfl <| sAN hZ rfl rfl <| f1K 2 rfl <| aE <| jC1 _ rfl rfl (HLe.refl _) ⟨_, rfl, rfl⟩)
theorem yD7 (gb gm clock : Nat) :
  yF6 Tryz.prog 92 [ptr gb 0] [.ro gb 0 [.map (some gm)]] [mapX gm #[] clock] () (fun _ _ _ => False) (fun _ => True) := by
 intro l J Jr S hJ hX hS hJr hY T0 hT0
 have hX' : ∀ {js T A B}, J js T → mapX gm #[] clock ∈ A ++ (T ++ B) := fun h => x0 _ (xI _ ((hX _ _ h).subset lO))
 refine Fn.enter (N := 14) Tryz.func92 rfl (by kernel_rfl) rfl (fun w0 => ?_)
 refine jA6 (.ro gb 0 [.map (some gm)] :: (T0 ++ Jr)) (HLe.refl _) <| aR (fun Z hZ => jB4 0 rfl rfl 0 rfl tyA83 tyS83 rfl rfl <| vP4 Tryz.underlying83 rfl (hX' (A := [_]) hT0) rfl (fun r => sN (hZ _ _ <| f2K 0 5 rfl <| aB <| jB9 (ι := Unit) (fun i => [(0, .func (.yield l) #[] #[]), (5, ptr r 0)]) (fun i => itX r gm clock #[] clock :: .ro gb 0 [.map (some gm)] :: (T0 ++ Jr)) (fun i => True) (fun i => 0) () trivial (kR rfl) (HLe.refl _) ?_)))
 rintro ⟨⟩ -
 refine aR (fun Z hZ => vP5 0 rfl rfl (hX' (A := [_, _]) hT0) (by simp) (xB _) rfl (fun u tl seen' c' hu0 hu1 => ?_))
 refine sX rfl rfl rfl <| sN (hZ _ _ <| f3K 0 5 7 rfl <| aS (aC0 (fun h => ?_) (fun h => ?_)))
 ·have hu : u = true := by simpa using h
  obtain ⟨e, he, _⟩ := hu1 hu
  simp [leftOf] at he
 ·refine jB1 ?_
  repeat refine nTE ?_
  refine nBE <| jH5 T0 rfl (HLe.sub ((lS T0 Jr).trans (lP [_, _] _))) (.inl ⟨(), trivial, hT0⟩)
theorem vZ1 (gb gm clock : Nat) :
  Fn Tryz.prog 137 [.slice none 0 0, .func (.func 92) #[] #[ptr gb 0]] [mapX gm #[] clock, .ro gb 0 [.map (some gm)]] fun u _ => u = .slice none 0 0 := by
 refine Fn.enterM (n := 13) Tryz.func137 rfl (by kernel_rfl) rfl (fun w0 => ?_)
 refine aR (fun Z hZ => jB5 (fun g1 => ?_))
 refine sAN hZ rfl rfl <| f2K 1 2 rfl <| aS <| aR fun Z hZ => sMN hZ rfl rfl <| f2K 2 6 rfl <| aB ?_
 refine kH1 (fun (_ : Unit) T => T = [.own g1 44 [.slice none 0 0], mapX gm #[] clock]) [] (fun _ _ => False) _ (yD7 gb gm clock) rfl
  (fun js T h => h ▸ .cons rfl (.cons rfl .nil)) (fun js T h => h ▸ .cons _ (.cons_cons _ (lN _))) (fun _ _ h => h.elim) Ro.nil (fun x hx => by rw [List.mem_singleton.1 hx]; rfl)
  (fun js vs js' h => h.elim) rfl rfl (HLe.refl _) rfl (fun _ _ _ _ h => h.elim) ?_ (fun _ _ _ h => h.elim)
 rintro D js T - rfl
 refine nBN ?_
 with_reducible refine jN8 ?_
 refine jA6 [.ob D jL4, .own g1 44 [.slice none 0 0]] (HLe.sub (.cons_cons _ (.cons_cons _ (lN _)))) <| aR (fun Z hZ => sL0 1 tyA44 tyS44 ?_)
 refine sAN hZ rfl rfl <| f1K 4 rfl <| aE <| jJ5 [0] ⟨rfl, trivial⟩ (nR10 rfl)
theorem vN9 (gb gm clock : Nat) : Fn Tryz.prog 90 [.func (.func 92) #[] #[ptr gb 0]] [mapX gm #[] clock, .ro gb 0 [.map (some gm)]] fun u _ => u = .slice none 0 0 := by
 refine Fn.enter (N := 5) Tryz.func90 rfl (by kernel_rfl) rfl (fun w0 => ?_)
 refine aA rfl rfl <| f1K 0 rfl <| aR fun Z hZ => sM rfl rfl <| jA5 [mapX gm #[] clock, .ro gb 0 [.map (some gm)]] [] (vZ1 gb gm clock) rfl (HLe.refl _) rfl ?_
 rintro v H' rfl
 refine sAN hZ rfl rfl <| f1K 2 rfl <| aE <| jC1 [] rfl rfl (HLe.sub (lN _)) rfl
theorem yX2 (A : Option Addr) (c : Nat) : Fn Tryz.prog 177 [.slice A 0 c, iq 0, iq 0] [] fun u _ => u = .tuple #[] := by
 refine Fn.enter (N := 49) Tryz.func177 rfl (by kernel_rfl) rfl (fun w0 => ?_)
 refine aR fun Z hZ => sM rfl rfl <| jZ5 _ rfl ?_
 refine sAN hZ rfl rfl <| f4K 0 1 2 6 rfl <| aB <| jB9 (ι := Unit) (fun _ => [(0, .slice A 0 c), (1, iq 0), (2, iq 0), (6, iq 1)]) (fun _ => []) (fun _ => True) (fun _ => 0) () trivial (kR rfl) (HLe.refl _) ?_
 rintro ⟨⟩ -
 refine aS <| aR fun Z hZ => sM rfl rfl <| sM rfl rfl <| jB2 ?_
 refine sN (hZ _ _ <| f5K 0 1 2 6 12 rfl <| aC0 (fun h => ?_) (fun h => ?_))
 ·cases h
 ·refine jB1 ?_
  repeat refine nTE ?_
  refine nBE <| jH5 [] rfl (HLe.refl _) rfl
theorem yW9 (A : Option Addr) (c : Nat) (k : Value) : Fn Tryz.prog 138 [.slice A 0 c, iq 0, iq 0, k] [] fun u _ => u = .tuple #[] := by
 refine Fn.enter (N := 134) Tryz.func138 rfl (by kernel_rfl) rfl (fun w0 => ?_)
 refine aA rfl rfl <| f5K 0 1 2 3 8 rfl <| aA rfl rfl <| f6K 0 1 2 3 8 9 rfl <| aB <| jB9 (ι := Unit) (fun _ => [(0, .slice A 0 c), (1, iq 0), (2, iq 0), (3, k), (8, .bool true), (9, .bool true)]) (fun _ => []) (fun _ => True) (fun _ => 0) () trivial (kR rfl) (HLe.refl _) ?_
 rintro ⟨⟩ -
 refine aB <| aR fun Z hZ => sM rfl rfl <| sM rfl rfl <| jN3 rfl rfl _ rfl rfl <| sAN hZ rfl rfl <| f7K 0 1 2 3 8 9 10 rfl <| aS <| aR fun Z hZ => sM rfl rfl <| jN4 rfl rfl rfl <| sN (hZ _ _ <| f8K 0 1 2 3 8 9 10 23 rfl ?_)
 refine aC0 (fun h => ?_) (fun h => ?_)
 ·refine aR (fun Z hZ => sM rfl rfl <| sM rfl rfl <| sM rfl rfl <| sCP0 (yX2 A c) ?_)
  refine sN (hZ _ _ <| aF [] (Kn.nil) <| aE ?_)
  repeat (with_reducible (first | refine nTR ?_ | refine nBR ?_))
  exact jK3 [] rfl (HLe.refl _) rfl
 ·cases h
theorem zI8 : Lays.n125 Tryz.prog jM4 where
 mixed := by kernel_rfl
 f125 := by kernel_rfl
 f128 := by kernel_rfl
 f129 := by kernel_rfl
 t3 := by kernel_rfl
 a3 := fun w => by kernel_rfl
 z3 := fun w => by kernel_rfl
 v3 := fun w => by kernel_rfl
 t4 := by kernel_rfl
 a4 := fun w => by kernel_rfl
 z4 := fun w => by kernel_rfl
 v4 := fun w => by kernel_rfl
 t5 := by kernel_rfl
 a5 := fun w => by kernel_rfl
 z5 := fun w => by kernel_rfl
 v5 := fun w => by kernel_rfl
 t9 := by kernel_rfl
 a9 := fun w => by kernel_rfl
 z9 := fun w => by kernel_rfl
 v9 := fun w => by kernel_rfl
 t46 := by kernel_rfl
 a46 := fun w => by kernel_rfl
 z46 := fun w => by kernel_rfl
 v46 := fun w => by kernel_rfl
 t51 := by kernel_rfl
 a51 := fun w => by kernel_rfl
 z51 := fun w => by kernel_rfl
 v51 := fun w => by kernel_rfl
 t53 := by kernel_rfl
 a53 := fun w => by kernel_rfl
 z53 := fun w => by kernel_rfl
 v53 := fun w => by kernel_rfl
theorem vY7 : Enters Tryz.prog 94 := Enters.mk Tryz.func94 (by kernel_rfl) (by kernel_rfl)
theorem yX0 : Fn Tryz.prog 94 [uq 0] [] fun v _ => v = iq ((Lib.bitLen 0 : Nat) : Int) :=
 Fn.of_same vY7 fun w => (Any.bits_Len zI8 0 w (by omega) (by omega)).mono fun e w' ⟨he, hw⟩ => ⟨by rw [he]; rfl, hw.symm⟩
theorem yD5 : Fn Tryz.prog 91 [.slice none 0 0] [] fun u _ => u = .tuple #[] := by
 refine Fn.enter (N := 11) Tryz.func91 rfl (by kernel_rfl) rfl (fun w0 => ?_)
 refine aR fun Z hZ => sM rfl rfl <| jE2 Tryz.underlying44 rfl rfl <| sAN hZ rfl rfl <| f2K 0 2 rfl <| aG (fun Z hZ => sM rfl rfl <| sM rfl rfl <| sM rfl rfl <| jB7 Tryz.underlying3 Tryz.underlying186 rfl (0 : Int) (by decide) rfl ?_)
 refine sCP0 yX0 ?_
 refine sCP0 (yW9 none 0 _) ?_
 refine sN (hZ _ _ <| nF [] (Kn.nil) <| jH5 [] rfl (HLe.refl _) rfl)
theorem vZ0 (gb gm clock : Nat) : Fn Tryz.prog 34 [.func (.func 92) #[] #[ptr gb 0]] [mapX gm #[] clock, .ro gb 0 [.map (some gm)]] fun u _ => u = .slice none 0 0 := by
 refine Fn.enter (N := 9) Tryz.func34 rfl (by kernel_rfl) rfl (fun w0 => ?_)
 refine aA rfl rfl <| f1K 0 rfl <| aR fun Z hZ => sM rfl rfl <| jA5 [mapX gm #[] clock, .ro gb 0 [.map (some gm)]] [] (vN9 gb gm clock) rfl (HLe.refl _) rfl ?_
 rintro v H' rfl
 refine jC3 [] (HLe.sub (lN _)) <| sAN hZ rfl rfl <| f1K 3 rfl <| aR fun Z hZ => sM rfl rfl <| sCP0 yD5 ?_
 refine sN (hZ _ _ <| f1K 3 rfl <| aR fun Z hZ => sM rfl rfl <| sAN hZ rfl rfl <| f1K 2 rfl <| aE <| nR10 rfl)
end
namespace V
open Go.RowKit
set_option maxRecDepth 100000
theorem vU0 (s : List UInt8) : (Y.cutP s).a.length ≤ s.length ∧ (Y.cutP s).c.length ≤ s.length ∧ (Y.cutP s).d.length ≤ s.length := by
 have hp : ∀ k, (Y.piece s k).length ≤ s.length := fun k => by
  unfold Y.piece
  rw [xS, xY]
  omega
 unfold Y.cutP
 split
 ·exact ⟨hp 0, hp 2, hp 3⟩
 ·exact ⟨xD _, xD _, xD _⟩
def nrE (s : List UInt8) : Int := if Y.cutE s = 0 then (if (decQ (Y.cutP s).a).2.2 = 0 then ((jQ5 (decQ (Y.cutP s).a).1 (Y.cutP s).c).2 : Int) else ((decQ (Y.cutP s).a).2.2 : Int)) else Y.cutE s
def nrL (s : List UInt8) : List En := if nrE s = 0 then (jQ5 (decQ (Y.cutP s).a).1 (Y.cutP s).c).1 else []
def nrT (s : List UInt8) : List UInt8 := if nrE s = 0 then (Y.cutP s).d else []
theorem wI9 (s : List UInt8) : (nrT s).length ≤ s.length := by
 unfold nrT
 split
 ·exact (vU0 s).2.2
 ·exact xD _
theorem kY7 (t : List UInt8) : ∀ (L out : List En), jF4 out → jF4 L → jF4 (jP1 t out L).1
 | [], out, h, _ => by
  rw [jP1]
  split
  ·exact fun e he => by cases he
  ·exact h
 | x :: r, out, h, hL => by
  rw [jP1]
  have hr : jF4 r := fun e he => hL e (lW _ he)
  split
  ·split
   ·exact fun e he => by cases he
   ·refine kY7 t r _ (fun e he => ?_) hr
    rcases List.mem_append.1 he with he | he
    ·exact h e he
    ·exact (kC8 x t).2 e he
  ·refine kY7 t r _ (fun e he => ?_) hr
   rcases List.mem_append.1 he with he | he
   ·exact h e he
   ·rw [List.mem_singleton.1 he]; exact hL x lO
theorem kN8 (t : List UInt8) : ∀ (L out : List En), (jP1 t out L).1.length ≤ out.length + L.length * 4097
 | [], out => by
  rw [jP1]
  split <;> simp
 | x :: r, out => by
  rw [jP1, lE]
  split
  ·split
   ·simp
   ·have h1 := kN8 t r (out ++ (jF9 x t).1)
    have h2 := (kC8 x t).1
    rw [lX] at h1
    omega
  ·have h1 := kN8 t r (out ++ [x])
   rw [lX] at h1
   simp at h1
   omega
theorem zC9 (s : List UInt8) : jF4 (nrL s) ∧ (nrL s).length ≤ maxLen := by
 obtain ⟨d1, d2, _, _⟩ := kG8 (Y.cutP s).a
 unfold nrL
 split
 ·unfold jQ5
  split
  ·exact ⟨fun e he => (by cases he), xD _⟩
  ·refine ⟨kY7 _ _ [] (fun e he => by cases he) d2, ?_⟩
   have := kN8 (Y.cutP s).c (decQ (Y.cutP s).a).1 []
   show _ ≤ 9223372036854775807
   simp at this
   omega
 ·exact ⟨fun e he => (by cases he), xD _⟩
theorem vS1 (s : List UInt8) (hs : s.length ≤ 100000) : Fn Tryz.prog 27 [.string (str s)] [] fun v H' => ∃ u, v = .tuple #[u, .string (str (nrT s)), iq (nrE s)] ∧ RowOk u (nrL s).length ∧ H' = rowE u 80 4 (jA1 (nrL s)) := by
 have hcut := Y.cut_fn s hs
 obtain ⟨hp0, hp2, _⟩ := vU0 s
 obtain ⟨h0, hh0⟩ := xZ9 (Y.cutH s)
 obtain ⟨p0, hpp⟩ := xZ9 (Y.cutP s)
 obtain ⟨e0, he0⟩ := xZ9 (Y.cutE s)
 have hE : nrE s = if e0 = 0 then (if (decQ p0.a).2.2 = 0 then ((jQ5 (decQ p0.a).1 p0.c).2 : Int) else ((decQ p0.a).2.2 : Int)) else e0 := by unfold nrE; rw [he0, hpp]
 have hLL : nrL s = if nrE s = 0 then (jQ5 (decQ p0.a).1 p0.c).1 else [] := by unfold nrL; rw [hpp]
 have hTT : nrT s = if nrE s = 0 then p0.d else [] := by unfold nrT; rw [hpp]
 rw [hh0, hpp, he0] at hcut
 rw [hpp] at hp0 hp2
 obtain ⟨d1, d2, d3, d4⟩ := kG8 p0.a
 have hdec := jY1 p0.a (by omega)
 refine Fn.enter (N := 43) Tryz.func27 rfl (by kernel_rfl) rfl (fun w0 => ?_)
 refine aR fun Z hZ => sA rfl rfl <| sA rfl rfl <| sAN hZ rfl rfl <| f1K 0 rfl <| aR fun Z hZ => sM rfl rfl <| sCP0 hcut ?_
 refine sM rfl rfl <| sX rfl rfl rfl <| sX rfl rfl rfl <| sX rfl rfl rfl <| sAl tyZ68 rfl (fun g1 => sAl tyZ70 rfl (fun g2 => sS0 1 tyS68 ?_))
 refine sS0 0 tyS70 ?_
 refine sAN hZ rfl rfl <| f2K 6 7 rfl <| aS <| aR fun Z hZ => sM rfl rfl <| jC7 ?_
 refine sN (hZ _ _ <| f3K 6 7 18 rfl <| aC0 (fun h => ?_) (fun h => ?_))
 ·have h' : ¬ e0 = 0 := by simpa using h
  have hx : nrE s = e0 := by rw [hE, if_neg h']
  rw [hLL, hTT, hx, if_neg h', if_neg h']
  refine aR fun Z hZ => sM rfl rfl <| sA rfl rfl <| sA rfl rfl <| sAN hZ rfl rfl <| f3K 2 3 4 rfl <| aE ?_
  repeat refine nTR ?_
  exact jF6 [] rfl rfl rfl rfl (HLe.sub (lN _)) ⟨_, rfl, RowOk.nil, rfl⟩
 have h' : e0 = 0 := by simpa using h
 rw [if_pos h'] at hE
 refine aK <| nN ?_
 obtain ⟨Q, hQ⟩ := xZ9 ((decQ p0.a).1)
 obtain ⟨ed, hed⟩ := xZ9 ((decQ p0.a).2.2)
 rw [hQ, hed] at hdec hE d4
 rw [hQ] at d1 d2 hLL
 refine aR (fun Z hZ => jP3 0 Tryz.underlying70 tyS9 rfl rfl (by omega) rfl rfl ?_)
 refine sL0 0 tyA9 tyS9 ?_
 refine jA5 [] [_, _] hdec rfl (HLe.refl _) rfl ?_
 rintro v H' ⟨u, rfl, hu, rfl⟩
 rw [jF1]
 obtain ⟨A1, c1, rfl, hA1, hle1⟩ := hu.ro
 refine jC3 ([_, _] ++ roE A1 (jA1 Q)) ((HLe.swap _ _).trans (hle1 [] [_, _] 80 4 (jA1 Q))) <| sM rfl rfl <| sX rfl rfl rfl <| sX rfl rfl rfl <| sX rfl rfl rfl <| sA rfl rfl <| sA rfl rfl <| sAN hZ rfl rfl <| f3K 6 7 8 rfl <| aS <| aR fun Z hZ => sM rfl rfl <| jC7 ?_
 refine sN (hZ _ _ <| f4K 6 7 8 28 rfl <| aC0 (fun h2 => ?_) (fun h2 => ?_))
 ·have h2' : ¬ ed = 0 := by simp at h2; omega
  rw [if_neg h2'] at hE
  have hx : ¬ nrE s = 0 := by rw [hE]; omega
  rw [hLL, hTT, if_neg hx, if_neg hx, hE]
  refine aR fun Z hZ => sM rfl rfl <| sA rfl rfl <| sA rfl rfl <| sAN hZ rfl rfl <| f3K 2 3 4 rfl <| aE ?_
  repeat refine nTR ?_
  exact jF6 [] rfl rfl rfl rfl (HLe.sub (lN _)) ⟨_, rfl, RowOk.nil, rfl⟩
 have h2' : ed = 0 := by simp at h2; omega
 rw [if_pos h2'] at hE
 have hjoin := yS7 A1 c1 Q (roE A1 (jA1 Q)) hA1.arg (fun _ => rfl) (Ro.roE _ _) (by show _ ≤ 9223372036854775807; omega) d2 p0.c (by omega)
 obtain ⟨J, hJ⟩ := xZ9 ((jQ5 Q p0.c).1)
 obtain ⟨ej, hej⟩ := xZ9 ((jQ5 Q p0.c).2)
 rw [hJ, hej] at hjoin
 rw [hej] at hE
 rw [hJ] at hLL
 refine aK <| nN <| aR fun Z hZ => sM rfl rfl <| jP3 2 Tryz.underlying70 tyS9 rfl rfl (by omega) rfl rfl ?_
 refine sL0 0 tyA9 tyS9 ?_
 refine jU6 (roE A1 (jA1 Q)) hjoin rfl (HLe.sub (.cons _ (.cons _ (xU _)))) (Ro.roE _ _) rfl ?_
 rintro v H' ⟨u, rfl, hu2, rfl⟩
 rw [jF1]
 refine jC3 ([_, _] ++ rowE u 80 4 (jA1 J)) ((HLe.swap _ _).trans (HLe.sub (zS (.cons_cons _ (.cons_cons _ (lN _))) _))) <| sM rfl rfl <| sX rfl rfl rfl <| sX rfl rfl rfl <| sA rfl rfl <| sAN hZ rfl rfl <| f3K 6 7 10 rfl <| aS <| aR fun Z hZ => sM rfl rfl <| jC7 ?_
 refine sN (hZ _ _ <| f4K 6 7 10 38 rfl <| aC0 (fun h3 => ?_) (fun h3 => ?_))
 ·have h3' : ¬ ej = 0 := by simp at h3; omega
  have hx : ¬ nrE s = 0 := by rw [hE]; omega
  rw [hLL, hTT, if_neg hx, if_neg hx, hE]
  refine aR fun Z hZ => sM rfl rfl <| sA rfl rfl <| sA rfl rfl <| sAN hZ rfl rfl <| f3K 2 3 4 rfl <| aE ?_
  repeat refine nTR ?_
  exact jF6 [] rfl rfl rfl rfl (HLe.sub (lN _)) ⟨_, rfl, RowOk.nil, rfl⟩
 have h3' : ej = 0 := by simp at h3; omega
 have hx : nrE s = 0 := by rw [hE]; omega
 rw [hLL, hTT, hx, if_pos rfl, if_pos rfl]
 refine aK <| nN <| jC6 mixed (by kernel_rfl) (fun Z hZ => ?_)
 refine qM rfl rfl <| kW6 3 Tryz.underlying70 tyS9 rfl rfl (by omega) rfl rfl ?_
 refine jB6 0 tyA9 tyS9 ?_
 refine jC8 rfl rfl <| jC8 rfl rfl <| jC8 rfl rfl <| jF0 (hZ _ _ <| f3K 2 3 4 rfl <| aE <| jF6 _ rfl rfl rfl rfl (HLe.sub (lP _ _)) ⟨_, rfl, hu2, rfl⟩)
def rdE (s : List UInt8) : Int := if nrE s = 0 then ((mbQ (nrL s) (nrT s)).1 : Int) else nrE s
def rdO (s : List UInt8) : List It := if nrE s = 0 then (mbQ (nrL s) (nrT s)).2 else []
theorem nread_fn (s : List UInt8) (hs : s.length ≤ 100000) : Fn Tryz.prog 9 [.string (str s)] [] fun v H' => ∃ u, v = .tuple #[.agg #[u], iq (rdE s)] ∧ RowOk u (rdO s).length ∧ H' = rowE u 53 2 (jA2 (rdO s)) := by
 have hrw := vS1 s hs
 obtain ⟨l1, l2⟩ := zC9 s
 have l3 := wI9 s
 refine Fn.enter (N := 22) Tryz.func9 rfl (by kernel_rfl) rfl (fun w0 => ?_)
 refine aR (fun Z hZ => sAl tyZ30 rfl (fun g1 => sAN hZ rfl rfl <| f2K 0 2 rfl <| aR fun Z hZ => sM rfl rfl <| jA5 [] [_] hrw rfl (HLe.refl _) rfl ?_))
 rintro v H' ⟨u, rfl, hu, rfl⟩
 rw [jF1]
 obtain ⟨A1, c1, rfl, hA1, hle1⟩ := hu.ro
 refine jC3 ([_] ++ roE A1 (jA1 (nrL s))) ((HLe.swap _ _).trans (hle1 [] [_] 80 4 (jA1 (nrL s)))) <| sM rfl rfl <| sX rfl rfl rfl <| sX rfl rfl rfl <| sX rfl rfl rfl <| sA rfl rfl <| sA rfl rfl <| sAN hZ rfl rfl <| f4K 2 4 5 6 rfl <| aS <| aR fun Z hZ => sM rfl rfl <| jC7 ?_
 refine sN (hZ _ _ <| f5K 2 4 5 6 14 rfl <| aC0 (fun h => ?_) (fun h => ?_))
 ·have h' : ¬ nrE s = 0 := by simpa using h
  rw [show rdE s = nrE s by unfold rdE; rw [if_neg h'], show rdO s = [] by unfold rdO; rw [if_neg h']]
  refine aR (fun Z hZ => jD4 tyZ30 tyP30 ?_)
  refine sM rfl rfl ?_
  first | refine sS0 0 tyS30 ?_
  refine sAN hZ rfl rfl <| f2K 2 3 rfl <| aE ?_
  repeat refine nTR ?_
  exact jD9 [] rfl (ResOk.cell 0 rfl rfl tyA30 tyS30 rfl) rfl (HLe.sub (lN _)) ⟨_, rfl, RowOk.nil, rfl⟩
 have h' : nrE s = 0 := by simpa using h
 rw [show rdE s = ((mbQ (nrL s) (nrT s)).1 : Int) by unfold rdE; rw [if_pos h'], show rdO s = (mbQ (nrL s) (nrT s)).2 by unfold rdO; rw [if_pos h']]
 have hb := wZ5 A1 c1 (nrL s) (roE A1 (jA1 (nrL s))) hA1.arg (fun _ => rfl) (Ro.roE _ _) l2 l1 (nrT s) (by omega)
 refine aK <| nN <| aR fun Z hZ => sM rfl rfl <| sM rfl rfl <| jU6 (roE A1 (jA1 (nrL s))) hb rfl (HLe.sub (.cons _ (xU _))) (Ro.roE _ _) rfl ?_
 rintro v H' ⟨u, rfl, hu2, rfl⟩
 rw [jF1]
 refine jC3 ([_] ++ rowE u 53 2 (jA2 (mbQ (nrL s) (nrT s)).2)) ((HLe.swap _ _).trans (HLe.sub (zS (.cons_cons _ (lN _)) _))) ?_
 obtain ⟨A2, c2, rfl, _⟩ := hu2.form
 refine sX rfl rfl rfl <| sX rfl rfl rfl ?_
 first | refine sS0 0 tyS30 ?_
 refine sAN hZ rfl rfl <| f2K 2 3 rfl <| aE <| jD9 _ rfl (ResOk.cell 0 rfl rfl tyA30 tyS30 rfl) rfl (HLe.sub (lP [_] _)) ⟨_, rfl, hu2, rfl⟩
end V
namespace V
open Go.RowKit
theorem yW5 {n z : Nat} (hz : 0 < z) : cntP n z ≤ n := by
 rcases xP n (cntP n z) with h | h
 ·have h1 := (jR2 hz).1 h
  have := Nat.le_mul_of_pos_right n hz
  omega
 ·exact h
end V
namespace V
open Go.RowKit
set_option maxRecDepth 100000

end V
namespace V.L
open Go.RowKit
theorem rowQ_cons {f : Nat} {e : En} {r : List En} : rowQ f (e :: r) = 0 ↔ chkE e = 0 ∧ f ≤ e.id ∧ rowQ (jK7 e + 1) r = 0 := by
 rw [rowQ]
 by_cases h1 : chkE e = 0
 ·rw [if_pos h1]
  by_cases h2 : e.id < f
  ·rw [if_pos h2]
   exact ⟨(fun h => absurd h (by decide)), fun h => by omega⟩
  ·rw [if_neg h2]
   exact ⟨fun h => ⟨h1, by omega, h⟩, fun h => h.2.2⟩
 ·rw [if_neg h1]
  exact ⟨fun h => absurd h h1, fun h => absurd h.1 h1⟩
theorem wJ8 {e : En} (h : e.ok) (hc : chkE e = 0) : e.id ≤ jK7 e := by
 have := h.wide
 unfold jK7
 rw [if_pos hc]
 omega
theorem vD8 : ∀ {f g : Nat} {Q : List En}, f ≤ g → rowQ g Q = 0 → rowQ f Q = 0
 | _, _, [], _, _ => rfl
 | f, g, e :: r, h, hr => by
  obtain ⟨h1, h2, h3⟩ := rowQ_cons.1 hr
  exact rowQ_cons.2 ⟨h1, by omega, h3⟩
theorem vD9 : ∀ {P Q : List En} {f : Nat}, jF4 P → rowQ f (P ++ Q) = 0 → rowQ f Q = 0
 | [], Q, f, _, h => h
 | e :: P, Q, f, hE, h => by
  obtain ⟨h1, h2, h3⟩ := rowQ_cons.1 h
  have h4 := vD9 (fun x hx => hE x (lW _ hx)) h3
  have := wJ8 (hE e lO) h1
  exact vD8 (by omega) h4
theorem vR4 {L : List En} {z : Nat} (hz : 0 < z) : (pcs L z).flatten = L := by
 have key : ∀ k, ((List.range k).map (pcL L z)).flatten = L.take (k * z) := fun k => by
  induction k with
  | zero => simp
  | succ k ih =>
   rw [List.range_succ, x8, List.flatten_append, ih, zZ, List.take_add]
   simp [pcL]
 rw [pcs, key]
 refine qZ ?_
 have h : ¬ cntP L.length z * z < L.length := fun h => by have := (jR2 hz).2 h; omega
 omega
theorem wO1 {P : List En} (h : (encQ P).2 = 0) : 0 < (encQ P).1.length := by
 rw [(kZ7 h).2.2]
 exact vA6 P
theorem vQ4 : ∀ (ps : List (List En)) (t f : Nat), (∀ P ∈ ps, 0 < P.length ∧ jF4 P ∧ (encQ P).2 = 0) → rowQ f ps.flatten = 0 → t + 65536 * ps.length ≤ 1099511627776 → rowQ f (jI6 t ps) = 0
 | [], _, _, _, _, _ => rfl
 | [] :: r, t, f, hP, _, _ => by have := (hP [] lO).1; simp at this
 | (e :: P) :: r, t, f, hP, h, ht => by
  obtain ⟨_, hE, he⟩ := hP (e :: P) lO
  have heo : e.ok := hE e lO
  have hl := kE1 (e :: P)
  have hp := wO1 he
  rw [lE] at ht
  rw [z6, lL] at h
  obtain ⟨h1, h2, h3⟩ := rowQ_cons.1 h
  have hid := (kI6 heo h1).2.1
  have hw := heo.wide
  have hat : atE (e :: P) 0 = e := rfl
  have hc : chkE (kC4 t (e :: P)) = 0 := by
   unfold chkE
   have hwide : (kC4 t (e :: P)).wide = 1 := rfl
   have hnx : (kC4 t (e :: P)).next = t + (encQ (e :: P)).1.length := by
    show (t + (encQ (e :: P)).1.length) % 18446744073709551616 = _
    omega
   rw [if_neg (by show ¬ (encQ (e :: P)).1.length = 0; omega), hwide, if_neg (by show ¬ _ < (atE (e :: P) 0).id; rw [hat]; omega), hnx, if_neg (by show ¬ (1099511627776 < t ∨ _); omega)]
  refine rowQ_cons.2 ⟨hc, by show f ≤ (atE (e :: P) 0).id; rw [hat]; exact h2, ?_⟩
  have hlast : jK7 (kC4 t (e :: P)) = e.id := by
   unfold jK7
   rw [if_pos hc]
   show (atE (e :: P) 0).id + 1 - 1 = e.id
   rw [hat]
   omega
  rw [hlast]
  have h4 := vD9 (fun x hx => hE x (lW _ hx)) h3
  have := wJ8 heo h1
  exact vQ4 r _ _ (fun Q hQ => hP Q (lW _ hQ)) (vD8 (by omega) h4) (by omega)
theorem vQ5 : ∀ (ps : List (List En)) (t : Nat), (jI6 t ps).filter jT5 = jI6 t ps
 | [], _ => rfl
 | P :: r, t => by
  rw [jI6, xL, if_pos (by rfl), vQ5 r]
def endQ : Nat → List En → Nat
 | n, [] => n
 | n, e :: r => endQ (if chkE e = 0 then max n e.next else n) r
theorem vQ6 : ∀ (ps : List (List En)) (t n : Nat), n ≤ t → (∀ P ∈ ps, 0 < P.length ∧ jF4 P ∧ (encQ P).2 = 0) → (∀ f, rowQ f (jI6 t ps) = 0 → True) → (∀ e ∈ jI6 t ps, chkE e = 0) → t + 65536 * ps.length ≤ 1099511627776 → (ps = [] → n = t) → endQ n (jI6 t ps) = t + (jI0 ps).length
 | [], t, n, _, _, _, _, _, h0 => by rw [h0 rfl]; rfl
 | P :: r, t, n, hn, hP, _, hc, ht, _ => by
  have hl := kE1 P
  rw [lE] at ht
  rw [jI6, endQ, if_pos (hc _ (by rw [jI6]; exact lO))]
  have hnx : (kC4 t P).next = t + (encQ P).1.length := by
   show (t + (encQ P).1.length) % 18446744073709551616 = _
   omega
  rw [hnx, show max n (t + (encQ P).1.length) = t + (encQ P).1.length by omega, vQ6 r _ _ (xB _) (fun Q hQ => hP Q (lW _ hQ)) (fun _ _ => trivial) (fun e he => hc e (by rw [jI6]; exact lW _ he)) (by omega) (fun _ => rfl)]
  simp only [jI0, xX, lX]
  omega
theorem vQ3 : ∀ {f : Nat} {L : List En}, rowQ f L = 0 → ∀ e ∈ L, chkE e = 0
 | _, [], _, e, h => by cases h
 | f, x :: r, hr, e, h => by
  obtain ⟨h1, _, h3⟩ := rowQ_cons.1 hr
  rcases List.mem_cons.1 h with rfl | h
  ·exact h1
  ·exact vQ3 h3 e h
theorem vF0 : ∀ (ps : List (List En)) (out : List En) (pre : List UInt8), (∀ P ∈ ps, 0 < P.length ∧ jF4 P ∧ (encQ P).2 = 0 ∧ jI2 P = false) → rowC (out ++ ps.flatten) = 0 →
  jP1 (pre ++ jI0 ps) out (jI6 pre.length ps) = (out ++ ps.flatten, 0)
 | [], out, pre, _, hr => by
  rw [jI6, jP1]
  rw [List.flatten_nil, lH] at hr ⊢
  rw [if_neg (by simpa using hr)]
 | P :: r, out, pre, hP, hr => by
  obtain ⟨h0, hE, he, hh⟩ := hP P lO
  obtain ⟨hrc, hsz, henc⟩ := kZ7 he
  obtain ⟨S, hS⟩ := xZ9 ((encQ P).1)
  have hSe : S = allB (jF3 P) := by rw [← hS, henc]
  have hd := vT9 hE hrc [] (by simpa using hsz)
  rw [lH, if_neg (by decide), ← hSe] at hd
  have htx : jI0 (P :: r) = S ++ jI0 r := by rw [jI0, xX, hS]; rfl
  have hsl : ((pre ++ jI0 (P :: r)).drop pre.length).take S.length = S := by rw [htx, List.drop_left, List.take_left]
  have hpc : jF9 (kC4 pre.length P) (pre ++ jI0 (P :: r)) = (P, 0) := by
   have e1 : (kC4 pre.length P).off = pre.length := rfl
   have e2 : (kC4 pre.length P).len = S.length := hS ▸ rfl
   have e3 : (kC4 pre.length P).id = (atE P 0).id := rfl
   unfold jF9
   rw [e1, e2, e3, hsl, hd, if_neg (by rw [htx, lX, lX]; omega), if_neg (by simp), if_neg (by rw [hh]; decide), if_neg (fun h => h.elim (fun h => absurd h (Nat.ne_of_gt h0)) (fun h => h rfl))]
  rw [jI6, jP1, if_pos (by rfl), hpc, if_neg (by simp)]
  have ih := vF0 r (out ++ P) (pre ++ S) (fun Q hQ => hP Q (lW _ hQ)) (by rw [xF, ← z6]; exact hr)
  rw [lX, xF, ← htx, xF, ← z6, ← hS] at ih
  exact ih
theorem kR8 {t : List UInt8} : ∀ (L out : List En), jI2 L = false → rowC (out ++ L) = 0 → jP1 t out L = (out ++ L, 0)
 | [], out, _, hr => by
  rw [jP1]
  rw [lH] at hr ⊢
  rw [if_neg (by simpa using hr)]
 | x :: r, out, hh, hr => by
  rw [jI2, List.any_cons, Bool.or_eq_false_iff] at hh
  rw [jP1, if_neg (by rw [hh.1]; decide), kR8 r (out ++ [x]) hh.2 (by rw [xF]; exact hr), xF]
  rfl
theorem zB2 {L : List En} (h : rowC L = 0) : rowQ 0 L = 0 ∧ L.length ≤ 4096 := by
 unfold rowC at h
 split at h
 ·cases h
 ·exact ⟨h, by omega⟩
theorem zB5 {L : List En} (h : rowQ 0 L = 0) (hl : L.length ≤ 4096) : rowC L = 0 := by
 unfold rowC
 rw [if_neg (by omega), h]
theorem kI0 {L : List En} {b : Int} : ∀ (k z : Nat), 0 < z → jU0 L b k z = ([], [], 0, 15) ∨ ∃ y, 0 < y ∧ okQ L b y = true ∧ jU0 L b k z = (jI6 0 (pcs L y), jI0 (pcs L y), y, 0)
 | 0, _, _ => .inl rfl
 | k + 1, z, hz => by
  rw [jU0]
  by_cases h : okQ L b z = true
  ·rw [if_pos h]
   exact .inr ⟨z, hz, h, rfl⟩
  ·rw [if_neg h]
   exact kI0 k (2 * z) (by omega)
theorem vD0 (L : List En) (b : Int) : (∃ e, e ≠ 0 ∧ jK5 L b = ([], [], 0, e)) ∨
  (rowC L = 0 ∧ jI2 L = false ∧ 1 ≤ b ∧ b ≤ 16257 ∧ ((jK5 L b = (L, [], 0, 0) ∧ (jM8 L : Int) ≤ b) ∨ ∃ y, 0 < y ∧ okQ L b y = true ∧ jK5 L b = (jI6 0 (pcs L y), jI0 (pcs L y), y, 0))) := by
 unfold jK5
 by_cases h1 : b < 1 ∨ 16257 < b
 ·rw [if_pos h1]; exact .inl ⟨2, by decide, rfl⟩
 rw [if_neg h1]
 by_cases h2 : rowC L ≠ 0
 ·rw [if_pos h2]; exact .inl ⟨_, h2, rfl⟩
 rw [if_neg h2]
 by_cases h3 : jI2 L = true
 ·rw [if_pos h3]; exact .inl ⟨14, by decide, rfl⟩
 rw [if_neg h3]
 have h2' : rowC L = 0 := by omega
 have h3' : jI2 L = false := by simpa using h3
 by_cases h4 : (jM8 L : Int) ≤ b
 ·rw [if_pos h4]
  exact .inr ⟨h2', h3', by omega, by omega, .inl ⟨rfl, h4⟩⟩
 rw [if_neg h4]
 rcases kI0 (L := L) (b := b) 13 1 (by omega) with h | ⟨y, hy, ho, h⟩
 ·rw [h]; exact .inl ⟨15, by decide, rfl⟩
 ·exact .inr ⟨h2', h3', by omega, by omega, .inr ⟨y, hy, ho, h⟩⟩
theorem wI6 {L : List En} {b : Int} {y : Nat} (hy : 0 < y) (hE : jF4 L) (hh : jI2 L = false) (h : okQ L b y = true) : (∀ P ∈ pcs L y, 0 < P.length ∧ jF4 P ∧ (encQ P).2 = 0 ∧ jI2 P = false) ∧ (jM8 (jI6 0 (pcs L y)) : Int) ≤ b := by
 unfold okQ at h
 rw [xW, xZ, decide_eq_true_eq] at h
 refine ⟨fun P hP => ⟨wH5 hy hP, fun e he => hE e (kX7 hP e he), by simpa using h.1 P hP, ?_⟩, h.2⟩
 rw [jI2, List.any_eq_false] at hh ⊢
 exact fun e he => hh e (kX7 hP e he)
end V.L
end Go.Proofs.YtfeopecgedbfpaaGreatDoor
