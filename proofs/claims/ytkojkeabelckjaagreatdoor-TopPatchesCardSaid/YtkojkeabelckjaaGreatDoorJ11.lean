/- Walks and plain laws for this claim (texts Gch2, joined). Each theorem states its own conditions. -/
import Derived.Test.YtkojkeabelckjaaGreatDoorJ09
import Derived.Test.YtkojkeabelckjaaGreatDoorJ10
import Derived.Lib.ItoaNum

set_option linter.all false
namespace Go.Proofs.YtkojkeabelckjaaGreatDoor
open Go.RowKit
theorem keyU : KeyOk Tryz.prog 45 (fun k : Nat => uq k) where
 eq a b w := by
  have h : ((a : Int) = (b : Int)) ↔ a = b := by omega
  simp [go_sem, Op.equal, Op.maxDepth]
  rw [Bool.eq_iff_iff]
  simp [h]
 chk e a w := by
  rw [show (10000 : Nat) = 9999 + 1 from rfl, Instr.checkKey]
  simp [run_underlying Tryz.underlying45]
 und := ⟨_, Tryz.underlying45, .inr fun a b => by
  have h : ((a : Int) = (b : Int)) ↔ a = b := by omega
  simp only [Instr.sameNow, if_true]
  congr 1
  rw [Bool.eq_iff_iff]
  simp [h]⟩
 same a := by simp [Instr.sameBits]
theorem zeroI (w : World) : (zeroValue 3).run Tryz.prog w = .ok (iq (0 : Nat)) w := by kernel_rfl
def CntOk (M : List (Nat × Nat)) (seen : List Nat) : Prop := ∀ k, aget M k = if k ∈ seen then some 1 else none
theorem cnt_get {M : List (Nat × Nat)} {seen : List Nat} (h : CntOk M seen) (k : Nat) : (if false = true then Value.tuple #[((aget M k).map fun n : Nat => iq n).getD (iq (0 : Nat)), .bool (aget M k).isSome] else ((aget M k).map fun n : Nat => iq n).getD (iq (0 : Nat))) = iq ((if k ∈ seen then 1 else 0 : Nat) : Nat) := by
 rw [h k]
 by_cases hk : k ∈ seen <;> simp [hk]
theorem look_put (M : List (Nat × Nat)) (k v : Nat) : (if false = true then Value.tuple #[((aget (aput M k v) k).map fun n : Nat => iq n).getD (iq (0 : Nat)), .bool (aget (aput M k v) k).isSome] else ((aget (aput M k v) k).map fun n : Nat => iq n).getD (iq (0 : Nat))) = iq (v : Nat) := by
 rw [aget_put, if_pos rfl]
 rfl
theorem cof_fn (A : Option Addr) (c : Nat) (L : List It) (T : Heap) (hA : jH1 A L.length) (hT : 0 < L.length → T = roE A (jA0 L)) (hro : Ro T) (hL : L.length ≤ 100000) :
  Fn Tryz.prog 16 [.slice A L.length c] T fun v H' => ∃ u, v = .tuple #[.agg #[u], iq (ofQ L)] ∧ ((ofQ L = 0 ∧ RowOk u (sortI L).length ∧ H' = rowE u 62 2 (jA0 (sortI L))) ∨ (ofQ L ≠ 0 ∧ u = .slice none 0 0 ∧ H' = [])) := by
 refine Fn.enter (N := 48) Tryz.func16 rfl (by kernel_rfl) rfl (fun w0 => ?_)
 refine aR (fun Z hZ => ?_)
 refine sAl tyZ27 rfl (fun g1 => ?_)
 refine sA rfl rfl <| sN (hZ _ _ ?_)
 refine aF [(0, _), (2, _)] (kR rfl) ?_
 refine aR (fun Z hZ => ?_)
 refine sx_makeMap rfl (fun k : Nat => uq k) (fun n : Nat => iq n) (fun b => ?_)
 refine sA rfl rfl <| sN (hZ _ _ ?_)
 refine aF [(0, _), (2, _), (4, _)] (kR rfl) ?_
 refine aR fun Z hZ => sA rfl rfl <| sN (hZ _ _ ?_)
 refine aF [(0, _), (2, _), (4, _), (5, _)] (kR rfl) ?_
 refine aS ?_
 refine aR fun Z hZ => sM rfl rfl ?_
 refine jD9 Tryz.underlying25 rfl rfl ?_
 refine sM rfl rfl <| sN (hZ _ _ ?_)
 refine aF [(2, _), (4, _), (5, _), (10, _), (11, _), (12, _)] (kR rfl) ?_
 refine aB ?_
 refine jB6 (ι := Nat × Value × List (Nat × Nat)) (fun i => [(2, ptr g1 0), (4, .map (some b)), (5, i.2.1), (10, .slice A L.length c), (11, iq (L.length : Nat)), (12, iq (i.1 : Nat))])
  (fun i => mapE (fun k : Nat => uq k) (fun n : Nat => iq n) b i.2.2 :: .own g1 27 [.slice none 0 0] :: (T ++ rowE i.2.1 62 2 (jA0 (L.take i.1))))
  (fun i => i.1 ≤ L.length ∧ RowOk i.2.1 i.1 ∧ CntOk i.2.2 (idsI (L.take i.1)) ∧ ofE (idsI (L.take i.1)) (L.drop i.1) = ofQ L) (fun i => L.length - i.1) (0, .slice none 0 0, []) ⟨by simp, RowOk.nil, fun k => by simp [idsI, aget], rfl⟩ (kR rfl) (by simp [rowE]; exact HLe.refl _) ?_
 rintro ⟨i, v, M⟩ ⟨hi, hv, hM, hq⟩
 simp only at hi hv hM hq
 refine aR (fun Z hZ => ?_)
 refine jC4 rfl rfl rfl ?_
 refine sN (hZ _ _ ?_)
 refine aF [(2, _), (4, _), (5, _), (10, _), (11, _), (12, _), (13, _)] (kR rfl) ?_
 refine aS (aC rfl (fun h => ?_) (fun h => ?_))
 ·have hlt : i < L.length := by simpa using h
  have hx := itAt_at hlt
  obtain ⟨x, hxe⟩ : ∃ x, itAt L i = x := ⟨_, rfl⟩
  rw [hxe] at hx
  have hdr : L.drop i = x :: L.drop (i + 1) := by rw [List.drop_eq_getElem_cons hlt]; congr 1; exact (List.getElem?_eq_some_iff.1 hx).2
  have htk : idsI (L.take (i + 1)) = idsI (L.take i) ++ [x.id] := by rw [List.take_add_one, hx]; simp [idsI]
  have hsl : (idsI (L.take i)).length = i := by simp [idsI]; omega
  rw [hdr, ofE, hsl, ← htk] at hq
  obtain ⟨n, hn⟩ : ∃ n, (if x.id ∈ idsI (L.take i) then 1 else 0 : Nat) = n := ⟨_, rfl⟩
  have hget := cnt_get hM x.id
  rw [hn] at hget
  have hn1 : n ≤ 1 := by rw [← hn]; split <;> omega
  obtain ⟨g, o, rfl⟩ := hA (by omega)
  obtain rfl := hT (by omega)
  refine jA8 (mapE (fun k : Nat => uq k) (fun n : Nat => iq n) b M :: .own g1 27 [.slice none 0 0] :: .ro g o (jA0 L) :: rowE v 62 2 (jA0 (L.take i))) (HLe.refl _) ?_
  refine aK ?_
  with_reducible refine nN ?_
  refine aS (aB ?_)
  refine aR (fun Z hZ => ?_)
  refine jA6 (o + i * 2) Tryz.underlying25 tyS62 rfl rfl (by omega) (by simp) rfl ?_
  refine jD5 2 rfl rfl (i * 2) rfl tyA62 tyS62 (icells_all hx) rfl ?_
  refine sAl tyZ62 rfl (fun g2 => ?_)
  refine sS 0 rfl rfl rfl tyS62 (by simp only [Value.cells]; rfl) rfl rfl rfl (by simp only [qS, Nat.reduceAdd, wrV]; rfl) (by simp only [List.set_cons_zero]; rfl) ?_
  refine sN (hZ _ _ ?_)
  refine aF [(2, _), (4, _), (5, _), (7, _), (10, _), (11, _), (12, _)] (kR rfl) ?_
  refine aS ?_
  refine aR fun Z hZ => sM rfl rfl ?_
  refine sFA rfl tyF62_0 (by simp only [Nat.add_zero]; rfl) rfl ?_
  refine sL 0 rfl rfl tyA45 tyS45 rfl rfl ?_
  refine sx_lookup 1 keyU Tryz.underlying85 zeroI x.id _ rfl rfl rfl hget rfl ?_
  refine jB8 rfl rfl ((n + 1 : Nat) : Int) (by rw [IntWalk.i64_in _ (by omega)]; omega) rfl ?_
  refine sx_mapUpdate 1 keyU Tryz.underlying85 x.id (n + 1) rfl rfl rfl rfl rfl ?_
  refine sN (hZ _ _ ?_)
  refine aF [(2, _), (4, _), (5, _), (7, _), (10, _), (11, _), (12, _)] (kR rfl) ?_
  refine aR fun Z hZ => sM rfl rfl ?_
  refine sFA rfl tyF62_0 (by simp only [Nat.add_zero]; rfl) rfl ?_
  refine sL 0 rfl rfl tyA45 tyS45 rfl rfl ?_
  refine sx_lookup 1 keyU Tryz.underlying85 zeroI x.id _ rfl rfl rfl (look_put M x.id (n + 1)) rfl ?_
  refine jF3 rfl rfl rfl ?_
  refine sN (hZ _ _ ?_)
  refine aF [(2, _), (4, _), (5, _), (7, _), (10, _), (11, _), (12, _), (25, _)] (kR rfl) ?_
  refine aC rfl (fun h1 => ?_) (fun h1 => ?_)
  ·have hin : x.id ∈ idsI (L.take i) := by
    have : n = 1 := by simp at h1; omega
    rw [this] at hn
    split at hn
    ·assumption
    ·omega
   rw [if_pos hin] at hq
   rw [← hq]
   refine aR (fun Z hZ => ?_)
   refine jD1 tyZ27 tyP27 rfl rfl rfl rfl ?_
   refine sS 2 rfl rfl rfl tyS27 (by simp only [Value.cells]; rfl) rfl rfl rfl (by simp only [qS, wrV]; rfl) (by simp only [qS]; rfl) ?_
   refine sA rfl rfl <| sN (hZ _ _ ?_)
   refine aF [(2, _), (3, _)] (kR rfl) ?_
   refine aE ?_
   repeat (with_reducible (first | refine nTR ?_ | refine nBR ?_))
   exact jB4 [] rfl (ResOk.cell 2 rfl rfl tyA27 tyS27 rfl) rfl (HLe.sub (List.nil_sublist _)) ⟨_, rfl, .inr ⟨by decide, rfl, rfl⟩⟩
  have hin : x.id ∉ idsI (L.take i) := fun hc => by
   rw [if_pos hc] at hn
   simp at h1
   omega
  have hn0 : n = 0 := by rw [if_neg hin] at hn; omega
  subst hn0
  rw [if_neg hin] at hq
  obtain ⟨e, he⟩ : ∃ e, jC7 x.id x.tx (decide (2048 ≤ i)) = e := ⟨_, rfl⟩
  have hw := wrong_fn x.id x.tx (decide (2048 ≤ i))
  rw [he] at hw hq
  have hlen : decide ((2048 : Int) ≤ ((i : Nat) : Int)) = decide (2048 ≤ i) := by rw [Bool.eq_iff_iff]; simp; omega
  obtain ⟨Av, cv, rfl, hAv⟩ := hv.form
  refine aK ?_
  with_reducible refine nN ?_
  refine aS ?_
  refine aR (fun Z hZ => ?_)
  refine sFA rfl tyF62_0 (by simp only [Nat.add_zero]; rfl) rfl ?_
  refine sL 0 rfl rfl tyA45 tyS45 rfl rfl ?_
  refine sFA rfl tyF62_1 (by simp only [Nat.zero_add]; rfl) rfl ?_
  refine sL 0 rfl rfl tyA9 tyS9 rfl rfl ?_
  refine sM rfl rfl ?_
  refine jD9 Tryz.underlying25 rfl rfl ?_
  refine sx_geq rfl rfl rfl ?_
  refine sCP hw (by first | exact (congrArg (fun b => some [uq x.id, .string (str x.tx), .bool b]) hlen) | rfl) rfl ?_
  refine sA rfl rfl <| sN (hZ _ _ ?_)
  refine aF [(2, _), (4, _), (5, _), (7, _), (8, _), (10, _), (11, _), (12, _)] (kR rfl) ?_
  refine aR fun Z hZ => sM rfl rfl ?_
  refine jE5 rfl rfl rfl ?_
  refine sN (hZ _ _ ?_)
  refine aF [(2, _), (4, _), (5, _), (7, _), (8, _), (10, _), (11, _), (12, _), (36, _)] (kR rfl) ?_
  refine aC rfl (fun h2 => ?_) (fun h2 => ?_)
  ·have he' : e ≠ 0 := by simp at h2; omega
   rw [if_pos he'] at hq
   rw [← hq]
   refine aR (fun Z hZ => ?_)
   refine jD1 tyZ27 tyP27 rfl rfl rfl rfl ?_
   refine sM rfl rfl ?_
   refine sS 2 rfl rfl rfl tyS27 (by simp only [Value.cells]; rfl) rfl rfl rfl (by simp only [qS, wrV]; rfl) (by simp only [qS]; rfl) ?_
   refine sA rfl rfl <| sN (hZ _ _ ?_)
   refine aF [(2, _), (3, _)] (kR rfl) ?_
   refine aE ?_
   repeat (with_reducible (first | refine nTR ?_ | refine nBR ?_))
   exact jB4 [] rfl (ResOk.cell 2 rfl rfl tyA27 tyS27 rfl) rfl (HLe.sub (List.nil_sublist _)) ⟨_, rfl, .inr ⟨he', rfl, rfl⟩⟩
  have he' : e = 0 := by simp at h2; omega
  rw [if_neg (by simpa using he')] at hq
  refine aK ?_
  with_reducible refine nN ?_
  have hM2 : CntOk (aput M x.id 1) (idsI (L.take (i + 1))) := fun k => by
   rw [aget_put, htk, hM k]
   by_cases hk : x.id = k
   ·subst hk
    simp
   ·have hk' : ¬ k = x.id := fun h => hk h.symm
    simp [hk, hk']
  refine aG (fun Z hZ => ?_)
  refine sM rfl rfl ?_
  refine sLA 0 rfl rfl tyA62 tyS62 rfl (by simp only [qS]; rfl) rfl ?_
  refine sBS Tryz.underlying25 tyS62 tyZ62 rfl rfl rfl rfl (by simp only [qS, Nat.reduceAdd, Value.cells, wrV, Nat.reduceMul, Nat.zero_mul]; rfl) rfl (fun g3 => ?_)
  refine jD2 [_, _, _, _, _] elemIt rfl hv (by rw [jF4, List.length_take]; omega) rfl (fun w hw => rd_own (i := 0) (xs := x.cells) rfl rfl hw) rfl (by show _ ≤ 9223372036854775807; omega) (by omega) (HLe.refl _) rfl (fun v2 hv2 => ?_)
  refine sA rfl rfl <| sN (hZ _ _ ?_)
  refine nF [(2, _), (4, _), (5, _), (10, _), (11, _), (12, _)] (kR rfl) ?_
  repeat (with_reducible refine nBN ?_)
  with_reducible refine nN ?_
  refine aG (fun Z hZ => ?_)
  refine jB8 rfl rfl ((i + 1 : Nat) : Int) (by rw [IntWalk.i64_in _ (by omega)]; omega) rfl ?_
  refine sM rfl rfl <| sN (hZ _ _ ?_)
  refine nF [(2, _), (4, _), (5, _), (10, _), (11, _), (12, _)] (kR rfl) ?_
  refine jB5 (i + 1, v2, aput M x.id 1) ⟨by show i + 1 ≤ _; omega, hv2, hM2, hq⟩ (by simp; omega) (kR rfl) ?_
  simp only
  rw [icells_take hx]
  exact HLe.drop 2 rfl
 ·refine jB1 ?_
  repeat (with_reducible refine nTE ?_)
  with_reducible refine nBE ?_
  with_reducible refine nN ?_
  have hke : i = L.length := by simp at h; omega
  subst hke
  rw [List.drop_length, ofE] at hq
  have h0 : ofQ L = 0 := hq.symm
  obtain ⟨o1, o2, o3, o4⟩ := of_ok h0
  rw [List.take_length, h0]
  have hol := o4.length_eq
  rcases Nat.eq_zero_or_pos L.length with hz | hz
  ·obtain rfl : L = [] := List.length_eq_zero_iff.1 hz
   obtain ⟨Av, cv, rfl, hAv⟩ := hv.form
   refine jA8 (.own g1 27 [.slice none 0 0] :: rowE (.slice Av 0 cv) 62 2 []) (HLe.sub ((List.Sublist.cons_cons _ (List.sublist_append_right T _)).trans (List.sublist_cons_self _ _))) ?_
   refine aR fun Z hZ => sM rfl rfl ?_
   refine sCP (sortE_fn Av cv) rfl rfl ?_
   refine sN (hZ _ _ ?_)
   refine aF [(2, _), (5, _)] (kR rfl) ?_
   refine aR fun Z hZ => sM rfl rfl ?_
   refine jD1 tyZ27 tyP27 rfl rfl (by simp only [qS, Value.cells, wrV]; rfl) rfl ?_
   first | refine sS 0 rfl rfl rfl tyS27 (by simp only [Value.cells]; rfl) rfl rfl rfl (by simp only [qS, wrV]; rfl) (by simp only [List.set_cons_zero]; rfl) ?_
   refine sA rfl rfl <| sN (hZ _ _ ?_)
   refine aF [(2, _), (3, _)] (kR rfl) ?_
   refine aE ?_
   exact jB4 _ rfl (ResOk.cell 0 rfl rfl tyA27 tyS27 rfl) rfl (HLe.drop 1 rfl) ⟨_, rfl, .inl ⟨rfl, hv, rfl⟩⟩
  ·obtain ⟨gv, cv, rfl⟩ := hv.some hz
   refine jA8 ([.ob gv (RowP 62 2 L.length cv (jA0 L))] ++ [.own g1 27 [.slice none 0 0]]) ((HLe.swap _ _).trans (HLe.sub ((List.Sublist.cons_cons _ (List.sublist_append_right T _)).trans (List.sublist_cons_self _ _)))) ?_
   refine aR fun Z hZ => sM rfl rfl ?_
   refine jD3 [.ob gv (RowP 62 2 L.length cv (jA0 L))] [.own g1 27 [.slice none 0 0]] (sort_fn gv L.length cv L rfl (by omega)) rfl (HLe.refl _) rfl ?_
   rintro v H' ⟨rfl, Ms, hp, hs, rfl⟩
   obtain rfl := sort_is o1 hp hs
   refine jC1 [.ob gv (RowP 62 2 L.length cv (jA0 (sortI L))), .own g1 27 [.slice none 0 0]] (HLe.refl _) ?_
   refine sN (hZ _ _ ?_)
   refine aF [(2, _), (5, _)] (kR rfl) ?_
   refine aR fun Z hZ => sM rfl rfl ?_
   refine jD1 tyZ27 tyP27 rfl rfl (by simp only [qS, Value.cells, wrV]; rfl) rfl ?_
   refine sS 1 rfl rfl rfl tyS27 (by simp only [Value.cells]; rfl) rfl rfl rfl (by simp only [qS, wrV]; rfl) (by simp only [qS]; rfl) ?_
   refine sA rfl rfl <| sN (hZ _ _ ?_)
   refine aF [(2, _), (3, _)] (kR rfl) ?_
   refine aE ?_
   exact jB4 [.ob gv (RowP 62 2 L.length cv (jA0 (sortI L)))] rfl (ResOk.cell 1 rfl rfl tyA27 tyS27 rfl) rfl (HLe.sub (List.sublist_append_left [_] [_])) ⟨_, rfl, .inl ⟨rfl, by rw [hol]; exact RowOk.mk gv _ cv, rfl⟩⟩
end Go.Proofs.YtkojkeabelckjaaGreatDoor
namespace Go.Proofs.YtkojkeabelckjaaGreatDoor
open Go.RowKit
def zLo (L : List It) : Int := if L = [] then 0 else zoomQ (itAt L 0).id
def zHi (L : List It) : Int := if L = [] then 0 else zoomQ (itAt L (L.length - 1)).id
theorem zooms_fn (A : Option Addr) (c : Nat) (L : List It) (T : Heap) (hA : jH1 A L.length) (hT : 0 < L.length → T = roE A (jA0 L)) (hro : Ro T) (hL : L.length ≤ 1000000) (hk : ItsOk L) :
  Fn Tryz.prog 65 [chV A L.length c] T fun v _ => v = .tuple #[iq (zLo L), iq (zHi L), .bool (!L.isEmpty)] := by
 refine Fn.enter (N := 25) Tryz.func65 rfl (by kernel_rfl) rfl (fun w0 => ?_)
 refine aR (fun Z hZ => ?_)
 refine jC3 rfl rfl rfl (fun g1 => ?_)
 refine sA rfl rfl <| sA rfl rfl <| sA rfl rfl <| sN (hZ _ _ ?_)
 refine aF [(1, _)] (Kn.cons rfl (Kn.nil)) ?_
 refine aR (fun Z hZ => ?_)
 refine sFA rfl tyF27_0 (by simp only [Nat.add_zero]; rfl) rfl ?_
 first | refine sL 0 rfl rfl tyA25 tyS25 rfl rfl ?_
 refine jD9 Tryz.underlying25 rfl rfl ?_
 refine sA rfl rfl <| sN (hZ _ _ ?_)
 refine aF [(1, _), (5, _)] (kR rfl) ?_
 refine aS ?_
 refine aR fun Z hZ => sM rfl rfl ?_
 refine jC8 rfl rfl rfl ?_
 refine sN (hZ _ _ ?_)
 refine aF [(1, _), (5, _), (10, _)] (kR rfl) ?_
 refine aC rfl (fun h => ?_) (fun h => ?_)
 ·have h0 : L = [] := List.length_eq_zero_iff.1 (by simpa using h)
  subst h0
  refine aR fun Z hZ => sA rfl rfl <| sA rfl rfl <| sA rfl rfl <| sN (hZ _ _ ?_)
  refine aF [(2, _), (3, _), (4, _)] (kR rfl) ?_
  refine aE ?_
  repeat (with_reducible refine nTR ?_)
  exact nx_ret3 rfl rfl rfl rfl rfl
 have h0 : 0 < L.length := by
  have : ¬ L.length = 0 := by simpa using h
  omega
 have hne : L ≠ [] := List.length_pos_iff.1 h0
 have x1 := itAt_at (L := L) (i := 0) h0
 obtain ⟨m, hm⟩ : ∃ m, L.length - 1 = m := ⟨_, rfl⟩
 have x2 := itAt_at (L := L) (i := m) (by omega)
 have z1 := zoom_fn (itAt L 0).id (hk _ (List.mem_of_getElem? x1))
 have z2 := zoom_fn (itAt L m).id (hk _ (List.mem_of_getElem? x2))
 rw [show zLo L = zoomQ (itAt L 0).id by unfold zLo; rw [if_neg hne], show zHi L = zoomQ (itAt L m).id by unfold zHi; rw [if_neg hne, hm], show L.isEmpty = false by simpa using hne]
 obtain ⟨g, o, rfl⟩ := hA h0
 obtain rfl := hT h0
 refine aK ?_
 with_reducible refine nN ?_
 refine jB9 mixed (by kernel_rfl) (fun Z hZ => ?_)
 refine qFA rfl tyF27_0 (by simp only [Nat.add_zero]; rfl) rfl ?_
 first | refine jB7 0 rfl rfl tyA25 tyS25 rfl rfl ?_
 refine jE8 (o + 0 * 2) Tryz.underlying25 tyS62 rfl rfl (by omega) (by simp) rfl ?_
 refine qFA rfl tyF62_0 (by simp only [Nat.add_zero]; rfl) rfl ?_
 refine jG8 1 rfl rfl (0 * 2) rfl tyA45 tyS45 (jF1 x1) rfl ?_
 refine sq_callP z1 rfl rfl ?_
 refine qFA rfl tyF27_0 (by simp only [Nat.add_zero]; rfl) rfl ?_
 first | refine jB7 0 rfl rfl tyA25 tyS25 rfl rfl ?_
 refine qM rfl rfl ?_
 refine sq_sub rfl rfl ((m : Nat) : Int) (by rw [IntWalk.i64_in _ (by omega)]; omega) rfl ?_
 refine jE8 (o + m * 2) Tryz.underlying25 tyS62 rfl rfl (by omega) (by simp) rfl ?_
 refine qFA rfl tyF62_0 (by simp only [Nat.add_zero]; rfl) rfl ?_
 refine jG8 1 rfl rfl (m * 2) rfl tyA45 tyS45 (jF1 x2) rfl ?_
 refine sq_callP z2 rfl rfl ?_
 refine jB3 rfl rfl ?_
 refine jB3 rfl rfl ?_
 refine jB3 rfl rfl ?_
 refine jE0 (hZ _ _ ?_)
 refine aF [(2, _), (3, _), (4, _)] (kR rfl) ?_
 refine aE ?_
 exact nx_ret3 rfl rfl rfl rfl rfl
end Go.Proofs.YtkojkeabelckjaaGreatDoor
namespace Go.Proofs.YtkojkeabelckjaaGreatDoor
open Go.RowKit
def putE (k : Nat) (s : List UInt8) (L : List It) : Nat := jC7 k s (fullQ k L)
def putQ (k : Nat) (s : List UInt8) (L : List It) : List It := if putE k s L = 0 then cPut k s L else L
theorem rfull_eq {L : List It} (hr : Rise L) (k : Nat) : rfullQ k L = fullQ k L := by
 unfold rfullQ fullQ
 rw [(get_eq hr k).1]
theorem rput_fn2 (A : Option Addr) (c : Nat) (L : List It) (T : Heap) (hA : jH1 A L.length) (hT : 0 < L.length → T = roE A (jA0 L)) (hro : Ro T) (hL : L.length ≤ 100000) (hr : Rise L) (k : Nat) (s : List UInt8) :
  Fn Tryz.prog 19 [.slice A L.length c, uq k, .string (str s)] T fun v H' => ∃ u, v = .tuple #[u, iq (putE k s L)] ∧ ((putE k s L = 0 ∧ RowOk u (cPut k s L).length ∧ H' = rowE u 60 2 (jA0 (cPut k s L))) ∨ (¬ putE k s L = 0 ∧ u = .slice A L.length c ∧ H' = [])) := by
 have h := rput_fn A c L T hA hT hro hL k s
 rw [rfull_eq hr, ← put_eq hr] at h
 exact h
theorem put_fn2 (A : Option Addr) (c : Nat) (L : List It) (T : Heap) (hA : SlIn A L.length c) (hT : 0 < L.length → T = roE A (jA0 L)) (hro : Ro T) (hL : L.length ≤ 100000) (hr : Rise L) (k : Nat) (s : List UInt8) :
  Fn Tryz.prog 18 [chV A L.length c, uq k, .string (str s)] T fun v H' => ∃ u, v = .tuple #[.agg #[u], iq (putE k s L)] ∧ ((putE k s L = 0 ∧ RowOk u (cPut k s L).length ∧ H' = rowE u 62 2 (jA0 (cPut k s L))) ∨ (¬ putE k s L = 0 ∧ u = .slice A L.length c ∧ H' = [])) :=
 put_fn A c L T hA hT hro hL hr k s
theorem del_fn2 (A : Option Addr) (c : Nat) (L : List It) (T : Heap) (hA : SlIn A L.length c) (hT : 0 < L.length → T = roE A (jA0 L)) (hro : Ro T) (hL : L.length ≤ 100000) (hr : Rise L) (k : Nat) :
  Fn Tryz.prog 72 [chV A L.length c, uq k] T fun v H' => ∃ u, v = .agg #[u] ∧ ((cHas k L = true ∧ RowOk u (cDel k L).length ∧ H' = rowE u 62 2 (jA0 (cDel k L))) ∨ (¬ cHas k L = true ∧ u = .slice A L.length c ∧ H' = [])) := by
 have h := del_fn A c L T hA hT hro hL hr k
 refine ⟨h.1, fun w hw => (h.2 w hw).mono ?_⟩
 rintro e w' ⟨v, H', he, ⟨u, hv, h1 | ⟨h1, h2⟩⟩, hS⟩
 ·exact ⟨v, H', he, ⟨u, hv, .inl h1⟩, hS⟩
 ·exact ⟨v, H', he, ⟨u, hv, .inr ⟨by rw [h1]; decide, h2⟩⟩, hS⟩
theorem del_same {k : Nat} {L : List It} (h : ¬ cHas k L = true) : cDel k L = L := by unfold cDel; rw [if_neg h]
theorem putQ_new {k : Nat} {s : List UInt8} {L : List It} (h : putE k s L = 0) : putQ k s L = cPut k s L := by unfold putQ; rw [if_pos h]
theorem putQ_old {k : Nat} {s : List UInt8} {L : List It} (h : ¬ putE k s L = 0) : putQ k s L = L := by unfold putQ; rw [if_neg h]
theorem ChOk.putQ {L : List It} (h : ChOk L) (k : Nat) (s : List UInt8) : ChOk (putQ k s L) := by
 unfold Go.Proofs.YtkojkeabelckjaaGreatDoor.putQ
 split
 ·rename_i h1; exact h.put h1
 ·exact h
section
variable {P : Program} {N : Frm} {w0 w : World} {Wr : List Nat} {ops : Array Oper} {rest : List Oper} {fr : Fr} {H : Heap} {Z : Fr → Heap → Prop} {d ty : Nat} {pos : String} {after : Array Edge}
end
end Go.Proofs.YtkojkeabelckjaaGreatDoor
namespace Go.Proofs.YtkojkeabelckjaaGreatDoor
open Go.RowKit
section
variable {P : Program} {N : Frm} {w0 w : World} {Wr : List Nat} {ops : Array Oper} {rest : List Oper} {fr : Fr} {H : Heap} {Z : Fr → Heap → Prop} {d ty : Nat} {pos : String} {after : Array Edge}
theorem row_none {A : Option Addr} {n c : Nat} (hv : RowOk (.slice A n c) n) : A = none → c = 0 := fun ha => by
 rcases hv with ⟨h1, _⟩ | ⟨g, c', h1⟩
 ·injection h1
 ·injection h1 with h2 _ _; rw [ha] at h2; cases h2
theorem sx_callRowW {f : FuncId} {xs : List Operand} {vs : List Value} {ts : Array TypeId} {e : TypeId} {size n n1 n2 c : Nat} {A : Option Addr} {xs0 ys zs : List Value} {p : Prop} (mk : Value → Value) (X : Heap) (hv : RowOk (.slice A n1 c) n1) (hH : HLe (X ++ rowE (.slice A n1 c) e size xs0) H)
  (hc : SlIn A n1 c → Fn P f vs (roE A xs0) fun v H' => ∃ u, v = mk u ∧ ((p ∧ RowOk u n ∧ H' = rowE u e size ys) ∨ (¬ p ∧ u = .slice A n1 c ∧ H' = []))) (hx : evs fr xs = some vs) (hN : Nat.ble (d + 1) N.n = true)
  (hnew : p → n = n2 ∧ ys = zs) (hold : ¬ p → n1 = n2 ∧ xs0 = zs)
  (h : ∀ u, RowOk u n2 → (¬ p → u = .slice A n1 c) → sx P N w0 Wr ops rest ((d, mk u) :: fr) (X ++ rowE u e size zs) Z) :
  sx P N w0 Wr ops (⟨some d, .call { callee := .value (.func f), args := xs.toArray, argTypes := ts }, ty, pos, after, none⟩ :: rest) fr H Z := by
 refine jC1 _ hH ?_
 refine sx_pure (fun w hw => row_cap hv (fun x hx => List.mem_append_right _ hx) hw) (fun hcap => ?_)
 obtain ⟨A2, c2, he, hA, hle⟩ := hv.ro
 injection he with e1 _ e3
 subst e1 e3
 refine sx_callVU (roE A xs0) (hc ⟨hA, hcap.1, row_none hv⟩) hx (row_view hle X _ _ _) (Ro.roE _ _) hN ?_
 rintro v H' ⟨u, rfl, ⟨hp, hu, rfl⟩ | ⟨hp, rfl, rfl⟩⟩
 ·obtain ⟨rfl, rfl⟩ := hnew hp
  rw [jE4]
  exact jC1 (X ++ rowE u e size ys) ((HLe.swap _ _).trans (HLe.sub (List.Sublist.append_left (List.sublist_append_left _ _) _))) (h u hu (fun hn => absurd hp hn))
 ·obtain ⟨rfl, rfl⟩ := hold hp
  exact h _ hv (fun _ => rfl)
end
def ItsTx (L : List It) : Prop := ∀ e ∈ L, e.id < 18446744073709551616 ∧ e.tx.length ≤ maxLen
theorem over_fn (A : Option Addr) (c : Nat) (L : List It) (T : Heap) (hA : jH1 A L.length) (hT : 0 < L.length → T = roE A (jA0 L)) (hro : Ro T) (hL : L.length ≤ maxLen) (hE : ItsTx L) (m b : Nat) (hm : m ≤ maxLen) (hb : b ≤ maxLen) :
  Fn Tryz.prog 5 [.slice A L.length c, iq m, iq b] T fun v _ => v = .bool (decide (b < jD8 L ∨ m < L.length)) := by
 have hL' : L.length ≤ 9223372036854775807 := hL
 have hm' : m ≤ 9223372036854775807 := hm
 have hb' : b ≤ 9223372036854775807 := hb
 refine Fn.enter (N := 28) Tryz.func5 rfl (by kernel_rfl) rfl (fun w0 => ?_)
 refine aR fun Z hZ => sA rfl rfl <| sN (hZ _ _ ?_)
 refine aF [(0, _), (1, _), (2, _)] (kR rfl) ?_
 refine aS ?_
 refine aR fun Z hZ => sA rfl rfl <| sN (hZ _ _ ?_)
 refine aF [(0, _), (1, _), (2, _), (7, _)] (kR rfl) ?_
 refine aB ?_
 refine jB6 (ι := Nat) (fun k => [(0, .slice A L.length c), (1, iq (m : Nat)), (2, iq ((b - jD8 (L.take k) : Nat) : Nat)), (7, iq (k : Nat))]) (fun _ => T)
  (fun k => k ≤ L.length ∧ jD8 (L.take k) ≤ b) (fun k => L.length - k) 0 ⟨by simp, by simp [jD8]⟩ (Kn.cons rfl (Kn.cons rfl (Kn.cons (by simp [jD8, lk, Nat.beq]) (Kn.cons rfl Kn.nil)))) (HLe.refl _) ?_
 rintro k ⟨hk, hq⟩
 refine aS ?_
 refine aR fun Z hZ => sM rfl rfl <| sM rfl rfl ?_
 refine jD9 Tryz.underlying22 rfl rfl ?_
 refine jC4 rfl rfl rfl ?_
 refine sN (hZ _ _ ?_)
 refine aF [(0, _), (1, _), (2, _), (7, _), (11, _)] (kR rfl) ?_
 refine aC rfl (fun h => ?_) (fun h => ?_)
 ·have hlt : k < L.length := by simpa using h
  have hx := itAt_at hlt
  have hs := cBytes_snoc hx
  have hl := cBytes_le L (k + 1)
  obtain ⟨x, hxe⟩ : ∃ x, itAt L k = x := ⟨_, rfl⟩
  rw [hxe] at hx hs
  have htl : x.tx.length ≤ 9223372036854775807 := (hE x (List.mem_of_getElem? hx)).2
  obtain ⟨g, o, rfl⟩ := hA (by omega)
  obtain rfl := hT (by omega)
  refine aK ?_
  with_reducible refine nN ?_
  refine aS (aB ?_)
  refine aR fun Z hZ => sM rfl rfl <| sM rfl rfl <| sM rfl rfl ?_
  refine jA6 (o + k * 2) Tryz.underlying22 tyS60 rfl rfl (by omega) (by simp) rfl ?_
  refine sFA rfl tyF60_1 rfl rfl ?_
  refine jD5 0 rfl rfl (k * 2 + 1) rfl tyA9 tyS9 (icells_tx hx) rfl ?_
  refine jF0 Tryz.underlying9 rfl rfl ?_
  refine sx_sub rfl rfl (((b - jD8 (L.take k) : Nat) : Int) - (x.tx.length : Nat)) (by rw [IntWalk.i64_in _ (by omega)]) rfl ?_
  refine sA rfl rfl <| sN (hZ _ _ ?_)
  refine aF [(0, _), (1, _), (2, _), (7, _)] (kR rfl) ?_
  refine aR fun Z hZ => sM rfl rfl ?_
  refine jC4 rfl rfl rfl ?_
  refine sN (hZ _ _ ?_)
  refine aF [(0, _), (1, _), (2, _), (7, _), (23, _)] (kR rfl) ?_
  refine aC rfl (fun h2 => ?_) (fun h2 => ?_)
  ·have h2' : b < jD8 L := by simp at h2; omega
   rw [decide_eq_true (p := b < jD8 L ∨ m < L.length) (.inl h2')]
   refine aR fun Z hZ => sA rfl rfl <| sN (hZ _ _ ?_)
   refine aF [(6, _)] (Kn.cons rfl (Kn.nil)) ?_
   refine aE ?_
   repeat (with_reducible (first | refine nTR ?_ | refine nBR ?_))
   exact nR1 rfl rfl rfl
  have h2' : jD8 (L.take (k + 1)) ≤ b := by simp at h2; omega
  have h3 : ((b - jD8 (L.take k) : Nat) : Int) - (x.tx.length : Nat) = ((b - jD8 (L.take (k + 1)) : Nat) : Int) := by omega
  rw [h3]
  refine aK ?_
  repeat (with_reducible refine nBN ?_)
  with_reducible refine nN ?_
  refine aG (fun Z hZ => ?_)
  refine sM rfl rfl ?_
  refine jB8 rfl rfl ((k + 1 : Nat) : Int) (by rw [IntWalk.i64_in _ (by omega)]; omega) rfl ?_
  refine sA rfl rfl <| sN (hZ _ _ ?_)
  refine nF [(0, _), (1, _), (2, _), (7, _)] (kR rfl) ?_
  exact jB5 (k + 1) ⟨by omega, h2'⟩ (by omega) (kR rfl) (HLe.refl _)
 ·refine jB1 ?_
  repeat (with_reducible refine nTE ?_)
  with_reducible refine nBE ?_
  with_reducible refine nN ?_
  have hke : k = L.length := by simp at h; omega
  subst hke
  rw [List.take_length] at hq
  have hd : decide (b < jD8 L ∨ m < L.length) = decide ((m : Int) < (L.length : Int)) := by
   rw [Bool.eq_iff_iff]
   simp
   omega
  rw [hd]
  refine aR fun Z hZ => sM rfl rfl ?_
  refine jD9 Tryz.underlying22 rfl rfl ?_
  refine sM rfl rfl ?_
  refine jF3 rfl rfl rfl ?_
  refine sA rfl rfl <| sN (hZ _ _ ?_)
  refine aF [(6, _)] (Kn.cons rfl (Kn.nil)) ?_
  refine aE ?_
  exact nR1 rfl rfl rfl
def ownQ (L : List It) : List It := L.foldl (fun acc e => putQ e.id e.tx acc) []
theorem ownQ_snoc (L : List It) (x : It) : ownQ (L ++ [x]) = putQ x.id x.tx (ownQ L) := by simp [ownQ]
theorem ownQ_ok (L : List It) : ChOk (ownQ L) := by
 have h : ∀ (L acc : List It), ChOk acc → ChOk (L.foldl (fun acc e => putQ e.id e.tx acc) acc) := by
  intro L
  induction L with
  | nil => exact fun _ h => h
  | cons e r ih => exact fun acc h => ih _ (h.putQ _ _)
 exact h L [] ChOk.nil
theorem own_fn (A : Option Addr) (c : Nat) (L : List It) (T : Heap) (hA : jH1 A L.length) (hT : 0 < L.length → T = roE A (jA0 L)) (hro : Ro T) (hL : L.length ≤ 100000) :
  Fn Tryz.prog 7 [.slice A L.length c] T fun v H' => ∃ u1 u2, v = .tuple #[.agg #[u1], u2] ∧ RowOk u1 (ownQ L).length ∧ RowOk u2 (ownQ L).length ∧ H' = rowE u1 62 2 (jA0 (ownQ L)) ++ rowE u2 60 2 (jA0 (ownQ L)) := by
 refine Fn.enter (N := 55) Tryz.func7 rfl (by kernel_rfl) rfl (fun w0 => ?_)
 refine aR (fun Z hZ => ?_)
 refine sAl tyZ27 rfl (fun g1 => ?_)
 refine sA rfl rfl <| sN (hZ _ _ ?_)
 refine aF [(0, _), (2, _)] (kR rfl) ?_
 refine aR (fun Z hZ => ?_)
 refine sAl tyZ27 rfl (fun g2 => ?_)
 refine sN (hZ _ _ ?_)
 refine aF [(0, _), (2, _), (4, _)] (kR rfl) ?_
 refine aR fun Z hZ => sA rfl rfl <| sN (hZ _ _ ?_)
 refine aF [(0, _), (2, _), (4, _), (5, _)] (kR rfl) ?_
 refine aS ?_
 refine aR fun Z hZ => sA rfl rfl <| sN (hZ _ _ ?_)
 refine aF [(0, _), (2, _), (4, _), (5, _), (6, _)] (kR rfl) ?_
 refine aB ?_
 refine jB6 (ι := Nat × Value × Value) (fun i => [(0, .slice A L.length c), (2, ptr g1 0), (4, ptr g2 0), (5, i.2.2), (6, iq (i.1 : Nat))])
  (fun i => .own g2 27 [i.2.1] :: .own g1 27 [.slice none 0 0] :: (T ++ (rowE i.2.1 62 2 (jA0 (ownQ (L.take i.1))) ++ rowE i.2.2 60 2 (jA0 (ownQ (L.take i.1))))))
  (fun i => i.1 ≤ L.length ∧ RowOk i.2.1 (ownQ (L.take i.1)).length ∧ RowOk i.2.2 (ownQ (L.take i.1)).length) (fun i => L.length - i.1) (0, .slice none 0 0, .slice none 0 0) ⟨by simp, RowOk.nil, RowOk.nil⟩ (kR rfl) (by simp [rowE]; exact HLe.refl _) ?_
 rintro ⟨i, u1, u2⟩ ⟨hi, hu1, hu2⟩
 simp only at hi hu1 hu2
 refine aS ?_
 refine aR fun Z hZ => sM rfl rfl <| sM rfl rfl ?_
 refine jD9 Tryz.underlying22 rfl rfl ?_
 refine jC4 rfl rfl rfl ?_
 refine sN (hZ _ _ ?_)
 refine aF [(0, _), (2, _), (4, _), (5, _), (6, _), (14, _)] (kR rfl) ?_
 refine aC rfl (fun h => ?_) (fun h => ?_)
 ·have hlt : i < L.length := by simpa using h
  have hx := itAt_at hlt
  obtain ⟨x, hxe⟩ : ∃ x, itAt L i = x := ⟨_, rfl⟩
  rw [hxe] at hx
  have htk : L.take (i + 1) = L.take i ++ [x] := by rw [List.take_add_one, hx]; rfl
  have hok := ownQ_ok (L.take i)
  have hsn := ownQ_snoc (L.take i) x
  rw [← htk] at hsn
  obtain ⟨O, hO⟩ : ∃ O, ownQ (L.take i) = O := ⟨_, rfl⟩
  obtain ⟨e, he⟩ : ∃ e, putE x.id x.tx O = e := ⟨_, rfl⟩
  have hll := hok.len
  rw [hO] at hok hsn hu1 hu2 hll ⊢
  have hput := fun A c (hA : SlIn A O.length c) => put_fn2 A c O (roE A (jA0 O)) hA (fun _ => rfl) (Ro.roE _ _) (by omega) hok.rise x.id x.tx
  have hputR := fun A c (hA : SlIn A O.length c) => rput_fn2 A c O (roE A (jA0 O)) hA.arg (fun _ => rfl) (Ro.roE _ _) (by omega) hok.rise x.id x.tx
  have hq1 : putE x.id x.tx O = 0 → (cPut x.id x.tx O).length = (putQ x.id x.tx O).length ∧ jA0 (cPut x.id x.tx O) = jA0 (putQ x.id x.tx O) := fun hp => by rw [putQ_new hp]; exact ⟨rfl, rfl⟩
  have hq2 : ¬ putE x.id x.tx O = 0 → O.length = (putQ x.id x.tx O).length ∧ jA0 O = jA0 (putQ x.id x.tx O) := fun hp => by rw [putQ_old hp]; exact ⟨rfl, rfl⟩
  rw [he] at hput hputR hq1 hq2
  rw [← hsn] at hq1 hq2
  obtain ⟨g, o, rfl⟩ := hA (by omega)
  obtain rfl := hT (by omega)
  obtain ⟨A1, c1, rfl, hA1⟩ := hu1.form
  obtain ⟨A2, c2, rfl, hA2⟩ := hu2.form
  refine jA8 (.own g2 27 [.slice A1 O.length c1] :: .ro g o (jA0 L) :: .own g1 27 [.slice none 0 0] :: (rowE (.slice A1 O.length c1) 62 2 (jA0 O) ++ rowE (.slice A2 O.length c2) 60 2 (jA0 O))) (fun _ _ _ hw => hw.perm (List.Perm.cons _ (List.Perm.swap _ _ _))) ?_
  refine aK ?_
  with_reducible refine nN ?_
  refine aS (aB ?_)
  refine awk_seq_region (fun j : Value × Nat => [(0, .slice (some ⟨g, o, none⟩) L.length c), (2, ptr g1 0), (4, ptr g2 0), (5, .slice A2 O.length c2), (6, iq (i : Nat)), (7, ptr j.2 0), (8, iq (e : Nat))]) (fun j => .own j.2 27 [j.1] :: .ro g o (jA0 L) :: .own g2 27 [.slice A1 O.length c1] :: .own g1 27 [.slice none 0 0] :: (rowE j.1 62 2 (jA0 (ownQ (L.take (i + 1)))) ++ rowE (.slice A2 O.length c2) 60 2 (jA0 O))) (fun j => RowOk j.1 (ownQ (L.take (i + 1))).length ∧ (¬ e = 0 → j.1 = .slice A1 O.length c1)) _ [11, 15, 16] [(0, true), (1, true), (2, true), (3, true), (4, true), (5, true), (6, true), (7, true), (8, true), (9, true), (10, true), (11, false), (12, true), (13, true), (14, true), (15, false), (16, false), (17, true)] [(0, true), (1, true), (2, true), (3, true), (4, true), (5, true), (6, true), (7, true), (8, true), (9, true), (10, true), (15, false), (11, false), (12, true), (13, true), (14, true), (16, false), (17, true)] mixed (by kernel_rfl) (HLe.pick [0, 1] (by simp) (by simp only [pick, List.filterMap_cons, qS]; rfl)) ?_ ?_ ?_
  ·refine tw_p rfl ?_
   refine sv_loadA 0 rfl rfl tyA27 tyS27 rfl (by simp only [qS]; rfl) rfl ?_
   refine vN ?_
   refine tw_p rfl ?_
   refine jA3 rfl rfl ?_
   refine vN ?_
   refine tw_p rfl ?_
   refine jA3 rfl rfl ?_
   refine vN ?_
   refine tw_p rfl ?_
   refine jC9 (o + i * 2) Tryz.underlying22 tyS60 rfl rfl (by omega) (by simp) rfl ?_
   refine vN ?_
   refine tw_p rfl ?_
   refine jA2 rfl tyF60_0 (by simp only [Nat.add_zero]; rfl) rfl ?_
   refine vN ?_
   refine tw_p rfl ?_
   refine jF7 1 rfl rfl (i * 2) rfl tyA45 tyS45 (jF1 hx) rfl ?_
   refine vN ?_
   refine tw_p rfl ?_
   refine jA3 rfl rfl ?_
   refine vN ?_
   refine tw_p rfl ?_
   refine jA3 rfl rfl ?_
   refine vN ?_
   refine tw_p rfl ?_
   refine jC9 (o + i * 2) Tryz.underlying22 tyS60 rfl rfl (by omega) (by simp) rfl ?_
   refine vN ?_
   refine tw_p rfl ?_
   refine jA2 rfl tyF60_1 rfl rfl ?_
   refine vN ?_
   refine tw_p rfl ?_
   refine jF7 1 rfl rfl (i * 2 + 1) rfl tyA9 tyS9 (icells_tx hx) rfl ?_
   refine vN ?_
   refine tw_g rfl ?_
   refine sx_callRowW (fun u => .tuple #[.agg #[u], iq e]) _ hu1 (HLe.toEnd [_, _, _] _ _) (hput A1 c1) rfl rfl hq1 hq2 (fun u3 hu3 hs3 => ?_)
   obtain ⟨A3, c3, rfl, _⟩ := hu3.form
   refine sN ⟨HLe.pick [0, 1] (by simp) rfl, ?_⟩
   refine tw_p rfl ?_
   refine jA3 rfl rfl ?_
   refine vN ?_
   refine tw_p rfl ?_
   refine jG6 rfl rfl rfl ?_
   refine vN ?_
   refine tw_p rfl ?_
   refine jG6 rfl rfl rfl ?_
   refine vN ?_
   refine tw_g rfl ?_
   refine sAl tyZ27 rfl (fun g3 => ?_)
   refine sN ⟨HLe.pick [1, 2] (by simp) rfl, ?_⟩
   refine tw_g rfl ?_
   refine sS 0 rfl rfl rfl tyS27 (by simp only [Value.cells]; rfl) rfl rfl rfl (by simp only [qS, wrV]; rfl) (by simp only [List.set_cons_zero]; rfl) ?_
   refine sN ⟨HLe.pick [1, 2] (by simp) rfl, ?_⟩
   refine tw_p rfl ?_
   refine jD7 rfl rfl ?_
   refine vN ?_
   refine jH2 ?_
   exact ⟨(_, g3), ⟨hu3, hs3⟩, kR rfl, fun _ _ _ hw => hw.perm (.cons _ ((List.Perm.swap _ _ _).trans (.cons _ (.cons _ (.cons _ List.perm_append_comm)))))⟩
  ·refine tw_p rfl ?_
   refine sv_loadA 0 rfl rfl tyA27 tyS27 rfl (by simp only [qS]; rfl) rfl ?_
   refine vN ?_
   refine tw_p rfl ?_
   refine jA3 rfl rfl ?_
   refine vN ?_
   refine tw_p rfl ?_
   refine jA3 rfl rfl ?_
   refine vN ?_
   refine tw_p rfl ?_
   refine jC9 (o + i * 2) Tryz.underlying22 tyS60 rfl rfl (by omega) (by simp) rfl ?_
   refine vN ?_
   refine tw_p rfl ?_
   refine jA2 rfl tyF60_0 (by simp only [Nat.add_zero]; rfl) rfl ?_
   refine vN ?_
   refine tw_p rfl ?_
   refine jF7 1 rfl rfl (i * 2) rfl tyA45 tyS45 (jF1 hx) rfl ?_
   refine vN ?_
   refine tw_p rfl ?_
   refine jA3 rfl rfl ?_
   refine vN ?_
   refine tw_p rfl ?_
   refine jA3 rfl rfl ?_
   refine vN ?_
   refine tw_p rfl ?_
   refine jC9 (o + i * 2) Tryz.underlying22 tyS60 rfl rfl (by omega) (by simp) rfl ?_
   refine vN ?_
   refine tw_p rfl ?_
   refine jA2 rfl tyF60_1 rfl rfl ?_
   refine vN ?_
   refine tw_p rfl ?_
   refine jF7 1 rfl rfl (i * 2 + 1) rfl tyA9 tyS9 (icells_tx hx) rfl ?_
   refine vN ?_
   refine tw_g rfl ?_
   refine sAl tyZ27 rfl (fun g3 => ?_)
   refine sN ⟨HLe.pick [1, 2] (by simp) rfl, ?_⟩
   refine tw_g rfl ?_
   refine sx_callRowW (fun u => .tuple #[.agg #[u], iq e]) _ hu1 (HLe.toEnd [_, _, _, _] _ _) (hput A1 c1) rfl rfl hq1 hq2 (fun u3 hu3 hs3 => ?_)
   obtain ⟨A3, c3, rfl, _⟩ := hu3.form
   refine sN ⟨HLe.pick [1, 2] (by simp) rfl, ?_⟩
   refine tw_p rfl ?_
   refine jA3 rfl rfl ?_
   refine vN ?_
   refine tw_p rfl ?_
   refine jG6 rfl rfl rfl ?_
   refine vN ?_
   refine tw_p rfl ?_
   refine jG6 rfl rfl rfl ?_
   refine vN ?_
   refine tw_g rfl ?_
   refine sS 0 rfl rfl rfl tyS27 (by simp only [Value.cells]; rfl) rfl rfl rfl (by simp only [qS, wrV]; rfl) rfl ?_
   refine sN ⟨HLe.pick [1, 2] (by simp) rfl, ?_⟩
   refine tw_p rfl ?_
   refine jD7 rfl rfl ?_
   refine vN ?_
   refine jH2 ?_
   exact ⟨(_, g3), ⟨hu3, hs3⟩, kR rfl, fun _ _ _ hw => hw.perm (.cons _ ((List.Perm.swap _ _ _).trans (.cons _ (.cons _ (.cons _ List.perm_append_comm)))))⟩
  rintro ⟨u3, g7⟩ ⟨hu3, hs3⟩
  simp only at hu3 hs3
  obtain ⟨A3, c3, rfl, _⟩ := hu3.form
  refine jA8 (.own g7 27 [.slice A3 (ownQ (L.take (i + 1))).length c3] :: .ro g o (jA0 L) :: .own g2 27 [.slice A1 O.length c1] :: .own g1 27 [.slice none 0 0] :: (rowE (.slice A3 (ownQ (L.take (i + 1))).length c3) 62 2 (jA0 (ownQ (L.take (i + 1)))) ++ rowE (.slice A2 O.length c2) 60 2 (jA0 O))) (HLe.refl _) ?_
  refine awp_cut (ι := Value) (fun u => [(0, .slice (some ⟨g, o, none⟩) L.length c), (2, ptr g1 0), (4, ptr g2 0), (5, .slice A2 O.length c2), (6, iq (i : Nat))]) (fun u => .ro g o (jA0 L) :: .own g2 27 [u] :: .own g1 27 [.slice none 0 0] :: (rowE u 62 2 (jA0 (ownQ (L.take (i + 1)))) ++ rowE (.slice A2 O.length c2) 60 2 (jA0 O))) (fun u => RowOk u (ownQ (L.take (i + 1))).length) ?_ ?_
  ·refine aR (fun Z hZ => ?_)
   refine sM rfl rfl ?_
   refine jC8 rfl rfl rfl ?_
   refine sN (hZ _ _ ?_)
   refine aF [(0, _), (2, _), (4, _), (5, _), (6, _), (7, _), (33, _)] (kR rfl) ?_
   refine aC rfl (fun h2 => ?_) (fun h2 => ?_)
   ·refine aG (fun Z hZ => ?_)
    refine sLA 0 rfl rfl tyA27 tyS27 rfl (by simp only [qS]; rfl) rfl ?_
    refine sS 2 rfl rfl rfl tyS27 (by simp only [Value.cells]; rfl) rfl rfl rfl (by simp only [qS, wrV]; rfl) (by simp only [qS]; rfl) ?_
    refine sN (hZ _ _ ?_)
    refine nF [(0, _), (2, _), (4, _), (5, _), (6, _)] (kR rfl) ?_
    refine jG2 _ hu3 (kR rfl) ?_
    exact HLe.drop 1 rfl
   ·have he0 : ¬ e = 0 := by simp at h2; omega
    have hs4 := hs3 he0
    rw [hs4] at hu3 ⊢
    refine aK ?_
    refine jG2 _ hu3 (kR rfl) ?_
    exact HLe.drop 1 rfl
  rintro u4 hu4
  refine jA8 (.ro g o (jA0 L) :: .own g2 27 [u4] :: .own g1 27 [.slice none 0 0] :: (rowE u4 62 2 (jA0 (ownQ (L.take (i + 1)))) ++ rowE (.slice A2 O.length c2) 60 2 (jA0 O))) (HLe.refl _) ?_
  refine jD0 _ [(0, true), (1, true), (2, true), (3, true), (4, true), (5, true), (6, true), (7, true), (8, true), (9, true), (10, true), (11, false), (12, true), (13, true), (14, true), (15, true), (16, true)] mixed (by kernel_rfl) (HLe.pick [0] (by simp) (by simp only [pick, List.filterMap_cons, qS]; rfl)) (fun Z hZ => ?_)
  refine tw_p rfl ?_
  refine jA3 rfl rfl ?_
  refine vN ?_
  refine tw_p rfl ?_
  refine jA3 rfl rfl ?_
  refine vN ?_
  refine tw_p rfl ?_
  refine jA3 rfl rfl ?_
  refine vN ?_
  refine tw_p rfl ?_
  refine jC9 (o + i * 2) Tryz.underlying22 tyS60 rfl rfl (by omega) (by simp) rfl ?_
  refine vN ?_
  refine tw_p rfl ?_
  refine jA2 rfl tyF60_0 (by simp only [Nat.add_zero]; rfl) rfl ?_
  refine vN ?_
  refine tw_p rfl ?_
  refine jF7 0 rfl rfl (i * 2) rfl tyA45 tyS45 (jF1 hx) rfl ?_
  refine vN ?_
  refine tw_p rfl ?_
  refine jA3 rfl rfl ?_
  refine vN ?_
  refine tw_p rfl ?_
  refine jA3 rfl rfl ?_
  refine vN ?_
  refine tw_p rfl ?_
  refine jC9 (o + i * 2) Tryz.underlying22 tyS60 rfl rfl (by omega) (by simp) rfl ?_
  refine vN ?_
  refine tw_p rfl ?_
  refine jA2 rfl tyF60_1 rfl rfl ?_
  refine vN ?_
  refine tw_p rfl ?_
  refine jF7 0 rfl rfl (i * 2 + 1) rfl tyA9 tyS9 (icells_tx hx) rfl ?_
  refine vN ?_
  refine tw_g rfl ?_
  refine sx_callRowW (fun u => .tuple #[u, iq e]) (.ro g o (jA0 L) :: .own g2 27 [u4] :: .own g1 27 [.slice none 0 0] :: rowE u4 62 2 (jA0 (ownQ (L.take (i + 1))))) hu2 (HLe.refl _) (hputR A2 c2) rfl rfl hq1 hq2 (fun u5 hu5 hs5 => ?_)
  refine sN ⟨HLe.pick [0] (by simp) rfl, ?_⟩
  refine tw_p rfl ?_
  refine jA3 rfl rfl ?_
  refine vN ?_
  refine tw_p rfl ?_
  refine jG6 rfl rfl rfl ?_
  refine vN ?_
  refine tw_p rfl ?_
  refine jG6 rfl rfl rfl ?_
  refine vN ?_
  refine tw_p rfl ?_
  refine jD7 rfl rfl ?_
  refine vN ?_
  refine tw_p rfl ?_
  refine jD7 rfl rfl ?_
  refine vN ?_
  refine jH2 (hZ _ _ ?_)
  refine aF [(0, _), (2, _), (4, _), (5, _), (6, _), (9, _), (10, _)] (kR rfl) ?_
  refine aR fun Z hZ => sM rfl rfl ?_
  refine jC8 rfl rfl rfl ?_
  refine sN (hZ _ _ ?_)
  refine aF [(0, _), (2, _), (4, _), (5, _), (6, _), (9, _), (51, _)] (kR rfl) ?_
  refine aC rfl (fun h2 => ?_) (fun h2 => ?_)
  ·refine aG (fun Z hZ => ?_)
   refine sM rfl rfl <| sA rfl rfl <| sN (hZ _ _ ?_)
   refine nF [(0, _), (2, _), (4, _), (5, _), (6, _)] (kR rfl) ?_
   repeat (with_reducible refine nBN ?_)
   with_reducible refine nN ?_
   refine aG (fun Z hZ => ?_)
   refine sM rfl rfl ?_
   refine jB8 rfl rfl ((i + 1 : Nat) : Int) (by rw [IntWalk.i64_in _ (by omega)]; omega) rfl ?_
   refine sA rfl rfl <| sN (hZ _ _ ?_)
   refine nF [(0, _), (2, _), (4, _), (5, _), (6, _)] (kR rfl) ?_
   exact jB5 (i + 1, u4, u5) ⟨by show i + 1 ≤ _; omega, hu4, hu5⟩ (by simp; omega) (kR rfl) (fun _ _ _ hw => hw.perm ((List.Perm.swap _ _ _).trans (.cons _ (List.Perm.swap _ _ _))))
  ·have he0 : ¬ e = 0 := by simp at h2; omega
   obtain rfl := hs5 he0
   refine aK ?_
   repeat (with_reducible refine nBN ?_)
   with_reducible refine nN ?_
   refine aG (fun Z hZ => ?_)
   refine sM rfl rfl ?_
   refine jB8 rfl rfl ((i + 1 : Nat) : Int) (by rw [IntWalk.i64_in _ (by omega)]; omega) rfl ?_
   refine sA rfl rfl <| sN (hZ _ _ ?_)
   refine nF [(0, _), (2, _), (4, _), (5, _), (6, _)] (kR rfl) ?_
   exact jB5 (i + 1, u4, .slice A2 O.length c2) ⟨by show i + 1 ≤ _; omega, hu4, hu5⟩ (by simp; omega) (kR rfl) (fun _ _ _ hw => hw.perm ((List.Perm.swap _ _ _).trans (.cons _ (List.Perm.swap _ _ _))))
 ·refine jB1 ?_
  repeat (with_reducible refine nTE ?_)
  with_reducible refine nBE ?_
  with_reducible refine nN ?_
  have hke : i = L.length := by simp at h; omega
  subst hke
  rw [List.take_length] at hu1 hu2 ⊢
  obtain ⟨A1, c1, rfl, _⟩ := hu1.form
  refine aR (fun Z hZ => ?_)
  refine sLA 0 rfl rfl tyA27 tyS27 rfl (by simp only [qS]; rfl) rfl ?_
  refine sM rfl rfl ?_
  refine sS 1 rfl rfl rfl tyS27 (by simp only [Value.cells]; rfl) rfl rfl rfl (by simp only [qS, wrV]; rfl) (by simp only [qS]; rfl) ?_
  refine sA rfl rfl <| sN (hZ _ _ ?_)
  refine aF [(2, _), (3, _)] (kR rfl) ?_
  refine aE ?_
  exact jB4 _ rfl (ResOk.cell 1 rfl rfl tyA27 tyS27 rfl) rfl (HLe.sub ((List.sublist_append_right T _).trans (List.sublist_append_right [_, _] _))) ⟨_, _, rfl, hu1, hu2, rfl⟩
end Go.Proofs.YtkojkeabelckjaaGreatDoor
namespace Go.Proofs.YtkojkeabelckjaaGreatDoor
open Go.RowKit
theorem ChOk.its {L : List It} (h : ChOk L) : ItsOk L := fun e he => by have := h.lt e he; omega
end Go.Proofs.YtkojkeabelckjaaGreatDoor
namespace Go.Proofs.YtkojkeabelckjaaGreatDoor
open Go.RowKit
theorem HLe.two {T U H : Heap} (h1 : T.Sublist H) (h2 : U.Sublist H) (hU : Ro U) : HLe (T ++ U) H := (HLe.sub (List.Sublist.append_right h1 U)).trans (HLe.dup h2 hU)
theorem Sat.both {w : World} {T U : Heap} (h : Sat w [] T w) (k : Sat w [] U w) (hT : Ro T) (hU : Ro U) : Sat w [] (T ++ U) w :=
 ⟨h.only, fun e he => by
  rcases List.mem_append.1 he with he | he
  ·exact h.ents e he
  ·exact k.ents e he, List.pairwise_append.2 ⟨h.sep, k.sep, fun a ha b hb hw => by
   rw [hT a ha, hU b hb] at hw
   cases hw⟩⟩
theorem alike_str {L : List TypeDesc} {cs : List Value} (h : Alike (.string :: L) cs) : ∃ (s : List UInt8) (c : List Value), cs = .string (str s) :: c ∧ s.length ≤ maxLen ∧ Alike L c := by
 cases h with
 | cons h1 h2 =>
  obtain ⟨l, rfl, hl⟩ := h1
  exact ⟨l, _, rfl, hl, h2⟩
def ofL (L : List It) : List It := if ofQ L = 0 then sortI L else []
section
variable {N : Frm} {w0 w : World} {Wr : List Nat} {ops : Array Oper} {rest : List Oper} {fr : Fr} {H : Heap} {Z : Fr → Heap → Prop} {d ty : Nat} {pos : String} {after : Array Edge} {xs : List Operand} {ts : Array TypeId} {A B : Option Addr} {c c2 : Nat}
theorem sx_itemsE (L : List It) (hA : SlIn A L.length c) (hS : (roE A (jA0 L)).Sublist H) (hL : L.length ≤ 100000) (hx : evs fr xs = some [chV A L.length c]) (hN : Nat.ble (d + 1) N.n = true)
  (h : ∀ A' c', SlIn A' L.length c' → sx Tryz.prog N w0 Wr ops rest ((d, .slice A' L.length c') :: fr) (H ++ roE A' (jA0 L)) Z) : sx Tryz.prog N w0 Wr ops ((⟨some d, .call { callee := .value (.func 110), args := xs.toArray, argTypes := ts }, ty, pos, after, none⟩ : Oper) :: rest) fr H Z :=
 sx_callI (roE A (jA0 L)) (items_fn A c L _ hA.arg (fun _ => rfl) hA.nil (Ro.roE _ _) hL) hx hS (Ro.roE _ _) hN fun A' c' hA' => jC1 _ (HLe.swap _ _) (h A' c' hA')
theorem sx_ownE (L : List It) (T : Heap) (hA : jH1 A L.length) (hT : 0 < L.length → T = roE A (jA0 L)) (hro : Ro T) (hS : T.Sublist H) (hL : L.length ≤ 100000) (hx : evs fr xs = some [.slice A L.length c]) (hN : Nat.ble (d + 1) N.n = true)
  (h : ∀ A1 c1 A2 c2, SlIn A1 (ownQ L).length c1 → SlIn A2 (ownQ L).length c2 → sx Tryz.prog N w0 Wr ops rest ((d, .tuple #[chV A1 (ownQ L).length c1, .slice A2 (ownQ L).length c2]) :: fr) ((H ++ roE A1 (jA0 (ownQ L))) ++ roE A2 (jA0 (ownQ L))) Z) : sx Tryz.prog N w0 Wr ops ((⟨some d, .call { callee := .value (.func 7), args := xs.toArray, argTypes := ts }, ty, pos, after, none⟩ : Oper) :: rest) fr H Z :=
 sx_callU T (own_fn A c L T hA hT hro hL) hx hS hro hN (by
  rintro v H' ⟨u1, u2, rfl, hu1, hu2, rfl⟩
  rw [((rowE_wrs _ _ _ _).append (rowE_wrs _ _ _ _)).filter]
  obtain ⟨A1, c1, rfl, hA1, hle1⟩ := hu1.ro
  obtain ⟨A2, c2, rfl, hA2, hle2⟩ := hu2.ro
  refine sx_pure (fun w hw => row_cap hu1 (fun x hx => List.mem_append_left _ (List.mem_append_left _ hx)) hw) (fun hc1 => ?_)
  refine sx_pure (fun w hw => row_cap hu2 (fun x hx => List.mem_append_left _ (List.mem_append_right _ hx)) hw) (fun hc2 => ?_)
  refine jC1 _ ?_ (h A1 c1 A2 c2 ⟨hA1, hc1.1, row_none hu1⟩ ⟨hA2, hc2.1, row_none hu2⟩)
  rw [List.append_assoc]
  refine (HLe.swap _ _).trans ?_
  refine HLe.trans ?_ (by rw [List.append_assoc]; exact hle1 [] _ _ _ _)
  rw [List.append_assoc]
  exact hle2 _ _ _ _ _)
theorem sx_cget (L : List It) (k : Nat) (hA : SlIn A L.length c) (h1 : (roE A (jA0 L)).Sublist H) (hok : ChOk L) (hx : evs fr xs = some [chV A L.length c, uq k]) (hN : Nat.ble (d + 1) N.n = true)
  (h : sx Tryz.prog N w0 Wr ops rest ((d, .tuple #[.string (str (cGet k L)), .bool (cHas k L)]) :: fr) H Z) : sx Tryz.prog N w0 Wr ops ((⟨some d, .call { callee := .value (.func 71), args := xs.toArray, argTypes := ts }, ty, pos, after, none⟩ : Oper) :: rest) fr H Z :=
 sx_callV (roE A (jA0 L)) (get_fn A c L _ hA.arg (fun _ => rfl) (Ro.roE _ _) (by have := hok.len; omega) hok.rise k) hx (HLe.sub h1) (Ro.roE _ _) hN h
end
set_option maxRecDepth 100000
theorem leaves_it : leaves Tryz.prog 5 60 = some [.int .u64, .string] := by kernel_rfl
def It.ok (e : It) : Prop := e.id < 18446744073709551616 ∧ e.tx.length ≤ maxLen
theorem it_of (r : List Value) (h : Alike [.int .u64, .string] r) : ∃ x : It, x.ok ∧ r = x.cells := by
 obtain ⟨a, c, rfl, ha, a1⟩ := alike_u64 h
 obtain ⟨s, c, rfl, hs, a2⟩ := alike_str a1
 cases a2
 exact ⟨⟨a, s⟩, ⟨ha, hs⟩, rfl⟩
theorem open_its {H : Type} {enc : TypeId × Value → H} {w : World} {b0 : Nat} {r : Reach} {v : Value} {d : DataW H} {p : List MemPlace}
  (hv : Value.okWide Tryz.prog w r b0 22 v) (h : DataW.Trod enc Tryz.prog w 0 (fun _ => true) true 22 v d p) :
  ∃ A c, ∃ L : List It, ∃ T : Heap, v = .slice A L.length c ∧ jH1 A L.length ∧ L.length ≤ maxLen ∧ ItsTx L ∧ (0 < L.length → T = roE A (jA0 L)) ∧ Ro T ∧ Sat w [] T w ∧ L.length ≤ c := by
 obtain ⟨A, n, c, rows, hv2, h1, h2, h3, h4⟩ := open_rows 5 Tryz.underlying22 leaves_it (by kernel_rfl) (Nat.succ_pos _) hv h
 have hcap : n ≤ c := by
  obtain ⟨a0, len0, cap0, rfl⟩ := Go.WideShapes.okWide_slice Tryz.underlying22 hv
  injection hv2 with e1 e2 e3
  obtain ⟨fuel, hf⟩ := h
  rcases Go.Deep.open_slice Tryz.underlying22 hf with ⟨hcs, _⟩ | ⟨a, len, cap, m', n', D, Pl, hcs, _, hl, hm, hmm, _, hi⟩
  ·simp [Value.cells] at hcs
   omega
  ·simp [Value.cells] at hcs
   omega
 subst hv2
 obtain ⟨L, h5, h6, h7⟩ := rows_as (f := It.cells) (ok := It.ok) it_of rows h3
 have hn : L.length = n := by omega
 subst hn
 rw [h5] at h4
 by_cases h0 : 0 < L.length
 ·exact ⟨A, c, L, roE A (jA0 L), rfl, arg_ok h4, h2, h7, fun _ => rfl, Ro.roE _ _, arg_sat h4 h0, hcap⟩
 ·exact ⟨A, c, L, [], rfl, arg_ok h4, h2, h7, fun h => absurd h h0, Ro.nil, Sat.nil w, hcap⟩
end Go.Proofs.YtkojkeabelckjaaGreatDoor
namespace Go.Proofs.YtkojkeabelckjaaGreatDoor
open Go.RowKit
theorem ofE_zero : ∀ (M : List It) (seen : List Nat), (seen ++ idsI M).Nodup → seen.length + M.length ≤ 2048 → (∀ e ∈ M, e.id < 6004799503160661 ∧ e.tx ≠ [] ∧ e.tx.length ≤ 65536) → ofE seen M = 0
 | [], _, _, _, _ => rfl
 | e :: r, seen, hn, hl, hg => by
  have h1 := hg e List.mem_cons_self
  have h2 : e.id ∉ seen := fun hm => by
   have := List.nodup_append.1 hn
   exact this.2.2 e.id hm e.id (by simp [idsI]) rfl
  have h3 : ¬ 2048 ≤ seen.length := by simp at hl; omega
  have hw : jC7 e.id e.tx (decide (2048 ≤ seen.length)) = 0 := by
   unfold jC7
   rw [if_neg (by omega), if_neg h1.2.1, if_neg (by omega), decide_eq_false h3]
   rfl
  rw [ofE, if_neg h2, hw, if_neg (by simp)]
  refine ofE_zero r (seen ++ [e.id]) (by simpa [idsI] using hn) (by simp at hl ⊢; omega) fun x hx => hg x (List.mem_cons_of_mem _ hx)
theorem of_perm {O M : List It} (hO : ChOk O) (hp : M.Perm O) : ofQ M = 0 ∧ ofL M = O := by
 have hn : (idsI O).Nodup := by
  unfold idsI
  have := hO.rise
  exact (List.pairwise_map.2 (this.imp fun h => Nat.ne_of_lt h))
 have hnM : (idsI M).Nodup := (hp.map fun e : It => e.id).nodup_iff.2 hn
 have h0 : ofQ M = 0 := ofE_zero M [] (by simpa using hnM) (by have := hp.length_eq; have := hO.len; simp; omega) fun e he => by
  have hm := hp.mem_iff.1 he
  exact ⟨hO.lt e hm, hO.tx e hm⟩
 refine ⟨h0, ?_⟩
 unfold ofL
 rw [if_pos h0]
 exact (sort_is hnM hp.symm (hO.rise.imp fun h => Nat.le_of_lt h)).symm
theorem put_get {L : List It} (hr : Rise L) {k : Nat} {s : List UInt8} (h : putE k s L = 0) : cHas k (putQ k s L) = true ∧ cGet k (putQ k s L) = s := by
 rw [putQ_new h]
 obtain ⟨X, Y, hh, ⟨t, rfl⟩ | rfl⟩ := it_half hr k
 ·rw [hh.put1, hh.has1, hh.get1]; exact ⟨rfl, rfl⟩
 ·rw [hh.put0, hh.has1, hh.get1]; exact ⟨rfl, rfl⟩
end Go.Proofs.YtkojkeabelckjaaGreatDoor
