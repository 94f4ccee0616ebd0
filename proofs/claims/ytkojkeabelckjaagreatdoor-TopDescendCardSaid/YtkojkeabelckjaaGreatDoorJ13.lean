/- Walks and plain laws for this claim (texts Gch2, Mg1, Mg2, Mg3, joined). Each theorem states its own conditions. -/
import Derived.Test.YtkojkeabelckjaaGreatDoorJ12
import Derived.Lib.ItoaNum
import Derived.Test.YtkojkeabelckjaaGreatDoorJ09
import Derived.Test.YtkojkeabelckjaaGreatDoorJ11

section
set_option linter.all false
namespace Go.Proofs.YtkojkeabelckjaaGreatDoor
open Go.RowKit
theorem keyU : KeyOk Tryz.prog 45 (fun k : Nat => uq k) where
  eq a b w := by
    have h : ((a : Int) = (b : Int)) ↔ a = b := by omega
    simp [go_sem, Op.equal, Op.maxDepth]
    rw [Bool.eq_iff_iff]
    simp [h]
  chk e a w := by
    rw [show (10000 : Nat) = 9999 + 1 from rfl, Instr.checkKey]
    simp [run_underlying Tryz.underlying45]
  und := ⟨_, Tryz.underlying45, .inr fun a b => by
    have h : ((a : Int) = (b : Int)) ↔ a = b := by omega
    simp only [Instr.sameNow, if_true]
    congr 1
    rw [Bool.eq_iff_iff]
    simp [h]⟩
  same a := by simp [Instr.sameBits]
theorem zeroI (w : World) : (zeroValue 3).run Tryz.prog w = .ok (iq (0 : Nat)) w := by kernel_rfl
def CntOk (M : List (Nat × Nat)) (seen : List Nat) : Prop := ∀ k, aget M k = if k ∈ seen then some 1 else none
theorem cnt_get {M : List (Nat × Nat)} {seen : List Nat} (h : CntOk M seen) (k : Nat) : (if false = true then Value.tuple #[((aget M k).map fun n : Nat => iq n).getD (iq (0 : Nat)), .bool (aget M k).isSome] else ((aget M k).map fun n : Nat => iq n).getD (iq (0 : Nat))) = iq ((if k ∈ seen then 1 else 0 : Nat) : Nat) := by
  rw [h k]
  by_cases hk : k ∈ seen <;> simp [hk]
theorem look_put (M : List (Nat × Nat)) (k v : Nat) : (if false = true then Value.tuple #[((aget (aput M k v) k).map fun n : Nat => iq n).getD (iq (0 : Nat)), .bool (aget (aput M k v) k).isSome] else ((aget (aput M k v) k).map fun n : Nat => iq n).getD (iq (0 : Nat))) = iq (v : Nat) := by
  rw [aget_put, if_pos rfl]
  rfl
theorem cof_fn (A : Option Addr) (c : Nat) (L : List It) (T : Heap) (hA : ArgOk A L.length) (hT : 0 < L.length → T = roE A (jB0 L)) (hro : Ro T) (hL : L.length ≤ 100000) :
    Fn Tryz.prog 16 [.slice A L.length c] T fun v H' => ∃ u, v = .tuple #[.agg #[u], iq (ofQ L)] ∧ ((ofQ L = 0 ∧ RowOk u (sortI L).length ∧ H' = rowE u 62 2 (jB0 (sortI L))) ∨ (ofQ L ≠ 0 ∧ u = .slice none 0 0 ∧ H' = [])) := by
  refine Fn.enter (N := 48) Tryz.func16 rfl (by kernel_rfl) rfl (fun w0 => ?_)
  refine aR (fun Z hZ => ?_)
  refine sAl tyZ27 rfl (fun g1 => ?_)
  refine sA rfl rfl <| sN (hZ _ _ ?_)
  refine aF [(0, _), (2, _)] (Kn.cons rfl (Kn.cons rfl (Kn.nil))) ?_
  refine aR (fun Z hZ => ?_)
  refine sx_makeMap rfl (fun k : Nat => uq k) (fun n : Nat => iq n) (fun b => ?_)
  refine sA rfl rfl <| sN (hZ _ _ ?_)
  refine aF [(0, _), (2, _), (4, _)] (Kn.cons rfl (Kn.cons rfl (Kn.cons rfl (Kn.nil)))) ?_
  refine aR fun Z hZ => sA rfl rfl <| sN (hZ _ _ ?_)
  refine aF [(0, _), (2, _), (4, _), (5, _)] (Kn.cons rfl (Kn.cons rfl (Kn.cons rfl (Kn.cons rfl (Kn.nil))))) ?_
  refine aS ?_
  refine aR fun Z hZ => sM rfl rfl ?_
  refine jE7 Tryz.underlying25 rfl rfl ?_
  refine sM rfl rfl <| sN (hZ _ _ ?_)
  refine aF [(2, _), (4, _), (5, _), (10, _), (11, _), (12, _)] (Kn.cons rfl (Kn.cons rfl (Kn.cons rfl (Kn.cons rfl (Kn.cons rfl (Kn.cons rfl (Kn.nil))))))) ?_
  refine aB ?_
  refine jC2 (ι := Nat × Value × List (Nat × Nat)) (fun i => [(2, ptr g1 0), (4, .map (some b)), (5, i.2.1), (10, .slice A L.length c), (11, iq (L.length : Nat)), (12, iq (i.1 : Nat))])
    (fun i => mapE (fun k : Nat => uq k) (fun n : Nat => iq n) b i.2.2 :: .own g1 27 [.slice none 0 0] :: (T ++ rowE i.2.1 62 2 (jB0 (L.take i.1))))
    (fun i => i.1 ≤ L.length ∧ RowOk i.2.1 i.1 ∧ CntOk i.2.2 (idsI (L.take i.1)) ∧ ofE (idsI (L.take i.1)) (L.drop i.1) = ofQ L) (fun i => L.length - i.1) (0, .slice none 0 0, []) ⟨by simp, RowOk.nil, fun k => by simp [idsI, aget], rfl⟩ (Kn.cons rfl (Kn.cons rfl (Kn.cons rfl (Kn.cons rfl (Kn.cons rfl (Kn.cons rfl Kn.nil)))))) (by simp [rowE]; exact HLe.refl _) ?_
  rintro ⟨i, v, M⟩ ⟨hi, hv, hM, hq⟩
  simp only at hi hv hM hq
  refine aR (fun Z hZ => ?_)
  refine jC3 rfl rfl rfl ?_
  refine sN (hZ _ _ ?_)
  refine aF [(2, _), (4, _), (5, _), (10, _), (11, _), (12, _), (13, _)] (Kn.cons rfl (Kn.cons rfl (Kn.cons rfl (Kn.cons rfl (Kn.cons rfl (Kn.cons rfl (Kn.cons rfl (Kn.nil)))))))) ?_
  refine aS (aC rfl (fun h => ?_) (fun h => ?_))
  · have hlt : i < L.length := by simpa using h
    have hx := itAt_at hlt
    obtain ⟨x, hxe⟩ : ∃ x, itAt L i = x := ⟨_, rfl⟩
    rw [hxe] at hx
    have hdr : L.drop i = x :: L.drop (i + 1) := by rw [List.drop_eq_getElem_cons hlt]; congr 1; exact (List.getElem?_eq_some_iff.1 hx).2
    have htk : idsI (L.take (i + 1)) = idsI (L.take i) ++ [x.id] := by rw [List.take_add_one, hx]; simp [idsI]
    have hsl : (idsI (L.take i)).length = i := by simp [idsI]; omega
    rw [hdr, ofE, hsl, ← htk] at hq
    obtain ⟨n, hn⟩ : ∃ n, (if x.id ∈ idsI (L.take i) then 1 else 0 : Nat) = n := ⟨_, rfl⟩
    have hget := cnt_get hM x.id
    rw [hn] at hget
    have hn1 : n ≤ 1 := by rw [← hn]; split <;> omega
    obtain ⟨g, o, rfl⟩ := hA (by omega)
    obtain rfl := hT (by omega)
    refine jB5 (mapE (fun k : Nat => uq k) (fun n : Nat => iq n) b M :: .own g1 27 [.slice none 0 0] :: .ro g o (jB0 L) :: rowE v 62 2 (jB0 (L.take i))) (HLe.refl _) ?_
    refine aK ?_
    with_reducible refine nN ?_
    refine aS (aB ?_)
    refine aR (fun Z hZ => ?_)
    refine jB9 (o + i * 2) Tryz.underlying25 tyS62 rfl rfl (by omega) (by simp) rfl ?_
    refine jF0 2 rfl rfl (i * 2) rfl tyA62 tyS62 (icells_all hx) rfl ?_
    refine sAl tyZ62 rfl (fun g2 => ?_)
    refine sS 0 rfl rfl rfl tyS62 (by simp only [Value.cells]; rfl) rfl rfl rfl (by simp only [List.take_zero, List.drop_succ_cons, List.drop_zero, List.nil_append, List.append_nil, List.length_cons, List.length_nil, Nat.reduceAdd, Nat.zero_add, wrV]; rfl) (by simp only [List.set_cons_zero]; rfl) ?_
    refine sN (hZ _ _ ?_)
    refine aF [(2, _), (4, _), (5, _), (7, _), (10, _), (11, _), (12, _)] (Kn.cons rfl (Kn.cons rfl (Kn.cons rfl (Kn.cons rfl (Kn.cons rfl (Kn.cons rfl (Kn.cons rfl (Kn.nil)))))))) ?_
    refine aS ?_
    refine aR fun Z hZ => sM rfl rfl ?_
    refine sFA rfl tyF62_0 (by simp only [Nat.add_zero]; rfl) rfl ?_
    refine sL 0 rfl rfl tyA45 tyS45 rfl rfl ?_
    refine sx_lookup 1 keyU Tryz.underlying85 zeroI x.id _ rfl rfl rfl hget rfl ?_
    refine jA7 rfl rfl ((n + 1 : Nat) : Int) (by rw [IntWalk.i64_in _ (by omega)]; omega) rfl ?_
    refine sx_mapUpdate 1 keyU Tryz.underlying85 x.id (n + 1) rfl rfl rfl rfl rfl ?_
    refine sN (hZ _ _ ?_)
    refine aF [(2, _), (4, _), (5, _), (7, _), (10, _), (11, _), (12, _)] (Kn.cons rfl (Kn.cons rfl (Kn.cons rfl (Kn.cons rfl (Kn.cons rfl (Kn.cons rfl (Kn.cons rfl (Kn.nil)))))))) ?_
    refine aR fun Z hZ => sM rfl rfl ?_
    refine sFA rfl tyF62_0 (by simp only [Nat.add_zero]; rfl) rfl ?_
    refine sL 0 rfl rfl tyA45 tyS45 rfl rfl ?_
    refine sx_lookup 1 keyU Tryz.underlying85 zeroI x.id _ rfl rfl rfl (look_put M x.id (n + 1)) rfl ?_
    refine jE3 rfl rfl rfl ?_
    refine sN (hZ _ _ ?_)
    refine aF [(2, _), (4, _), (5, _), (7, _), (10, _), (11, _), (12, _), (25, _)] (Kn.cons rfl (Kn.cons rfl (Kn.cons rfl (Kn.cons rfl (Kn.cons rfl (Kn.cons rfl (Kn.cons rfl (Kn.cons rfl (Kn.nil))))))))) ?_
    refine aC rfl (fun h1 => ?_) (fun h1 => ?_)
    · have hin : x.id ∈ idsI (L.take i) := by
        have : n = 1 := by simp at h1; omega
        rw [this] at hn
        split at hn
        · assumption
        · omega
      rw [if_pos hin] at hq
      rw [← hq]
      refine aR (fun Z hZ => ?_)
      refine jB3 tyZ27 tyP27 rfl rfl rfl rfl ?_
      refine sS 2 rfl rfl rfl tyS27 (by simp only [Value.cells]; rfl) rfl rfl rfl (by simp only [List.take_zero, List.drop_succ_cons, List.drop_zero, List.nil_append, List.append_nil, List.length_cons, List.length_nil, Nat.zero_add, wrV]; rfl) (by simp only [List.set_cons_succ, List.set_cons_zero]; rfl) ?_
      refine sA rfl rfl <| sN (hZ _ _ ?_)
      refine aF [(2, _), (3, _)] (Kn.cons rfl (Kn.cons rfl (Kn.nil))) ?_
      refine aE ?_
      repeat (with_reducible (first | refine nTR ?_ | refine nBR ?_))
      exact jD2 [] rfl (ResOk.cell 2 rfl rfl tyA27 tyS27 rfl) rfl (HLe.sub (List.nil_sublist _)) ⟨_, rfl, .inr ⟨by decide, rfl, rfl⟩⟩
    have hin : x.id ∉ idsI (L.take i) := fun hc => by
      rw [if_pos hc] at hn
      simp at h1
      omega
    have hn0 : n = 0 := by rw [if_neg hin] at hn; omega
    subst hn0
    rw [if_neg hin] at hq
    obtain ⟨e, he⟩ : ∃ e, jE4 x.id x.tx (decide (2048 ≤ i)) = e := ⟨_, rfl⟩
    have hw := wrong_fn x.id x.tx (decide (2048 ≤ i))
    rw [he] at hw hq
    have hlen : decide ((2048 : Int) ≤ ((i : Nat) : Int)) = decide (2048 ≤ i) := by rw [Bool.eq_iff_iff]; simp; omega
    obtain ⟨Av, cv, rfl, hAv⟩ := hv.form
    refine aK ?_
    with_reducible refine nN ?_
    refine aS ?_
    refine aR (fun Z hZ => ?_)
    refine sFA rfl tyF62_0 (by simp only [Nat.add_zero]; rfl) rfl ?_
    refine sL 0 rfl rfl tyA45 tyS45 rfl rfl ?_
    refine sFA rfl tyF62_1 (by simp only [Nat.zero_add]; rfl) rfl ?_
    refine sL 0 rfl rfl tyA9 tyS9 rfl rfl ?_
    refine sM rfl rfl ?_
    refine jE7 Tryz.underlying25 rfl rfl ?_
    refine sx_geq rfl rfl rfl ?_
    refine sCP hw (by first | exact (congrArg (fun b => some [uq x.id, .string (str x.tx), .bool b]) hlen) | rfl) rfl ?_
    refine sA rfl rfl <| sN (hZ _ _ ?_)
    refine aF [(2, _), (4, _), (5, _), (7, _), (8, _), (10, _), (11, _), (12, _)] (Kn.cons rfl (Kn.cons rfl (Kn.cons rfl (Kn.cons rfl (Kn.cons rfl (Kn.cons rfl (Kn.cons rfl (Kn.cons rfl (Kn.nil))))))))) ?_
    refine aR fun Z hZ => sM rfl rfl ?_
    refine jC9 rfl rfl rfl ?_
    refine sN (hZ _ _ ?_)
    refine aF [(2, _), (4, _), (5, _), (7, _), (8, _), (10, _), (11, _), (12, _), (36, _)] (Kn.cons rfl (Kn.cons rfl (Kn.cons rfl (Kn.cons rfl (Kn.cons rfl (Kn.cons rfl (Kn.cons rfl (Kn.cons rfl (Kn.cons rfl (Kn.nil)))))))))) ?_
    refine aC rfl (fun h2 => ?_) (fun h2 => ?_)
    · have he' : e ≠ 0 := by simp at h2; omega
      rw [if_pos he'] at hq
      rw [← hq]
      refine aR (fun Z hZ => ?_)
      refine jB3 tyZ27 tyP27 rfl rfl rfl rfl ?_
      refine sM rfl rfl ?_
      refine sS 2 rfl rfl rfl tyS27 (by simp only [Value.cells]; rfl) rfl rfl rfl (by simp only [List.take_zero, List.drop_succ_cons, List.drop_zero, List.nil_append, List.append_nil, List.length_cons, List.length_nil, Nat.zero_add, wrV]; rfl) (by simp only [List.set_cons_succ, List.set_cons_zero]; rfl) ?_
      refine sA rfl rfl <| sN (hZ _ _ ?_)
      refine aF [(2, _), (3, _)] (Kn.cons rfl (Kn.cons rfl (Kn.nil))) ?_
      refine aE ?_
      repeat (with_reducible (first | refine nTR ?_ | refine nBR ?_))
      exact jD2 [] rfl (ResOk.cell 2 rfl rfl tyA27 tyS27 rfl) rfl (HLe.sub (List.nil_sublist _)) ⟨_, rfl, .inr ⟨he', rfl, rfl⟩⟩
    have he' : e = 0 := by simp at h2; omega
    rw [if_neg (by simpa using he')] at hq
    refine aK ?_
    with_reducible refine nN ?_
    have hM2 : CntOk (aput M x.id 1) (idsI (L.take (i + 1))) := fun k => by
      rw [aget_put, htk, hM k]
      by_cases hk : x.id = k
      · subst hk
        simp
      · have hk' : ¬ k = x.id := fun h => hk h.symm
        simp [hk, hk']
    refine aG (fun Z hZ => ?_)
    refine sM rfl rfl ?_
    refine sLA 0 rfl rfl tyA62 tyS62 rfl (by simp only [List.take_succ_cons, List.take_zero, List.drop_zero]; rfl) rfl ?_
    refine sBS Tryz.underlying25 tyS62 tyZ62 rfl rfl rfl rfl (by simp only [List.take_zero, List.cons_append, List.nil_append, List.length_cons, List.length_nil, Nat.reduceAdd, Nat.zero_add, Value.cells, wrV, Nat.reduceMul, Nat.zero_mul]; rfl) rfl (fun g3 => ?_)
    refine jD8 [_, _, _, _, _] elemIt rfl hv (by rw [icells_len, List.length_take]; omega) rfl (fun w hw => rd_own (i := 0) (xs := x.cells) rfl rfl hw) rfl (by show _ ≤ 9223372036854775807; omega) (by omega) (HLe.refl _) rfl (fun v2 hv2 => ?_)
    refine sA rfl rfl <| sN (hZ _ _ ?_)
    refine nF [(2, _), (4, _), (5, _), (10, _), (11, _), (12, _)] (Kn.cons rfl (Kn.cons rfl (Kn.cons rfl (Kn.cons rfl (Kn.cons rfl (Kn.cons rfl (Kn.nil))))))) ?_
    repeat (with_reducible refine nBN ?_)
    with_reducible refine nN ?_
    refine aG (fun Z hZ => ?_)
    refine jA7 rfl rfl ((i + 1 : Nat) : Int) (by rw [IntWalk.i64_in _ (by omega)]; omega) rfl ?_
    refine sM rfl rfl <| sN (hZ _ _ ?_)
    refine nF [(2, _), (4, _), (5, _), (10, _), (11, _), (12, _)] (Kn.cons rfl (Kn.cons rfl (Kn.cons rfl (Kn.cons rfl (Kn.cons rfl (Kn.cons rfl (Kn.nil))))))) ?_
    refine jB4 (i + 1, v2, aput M x.id 1) ⟨by show i + 1 ≤ _; omega, hv2, hM2, hq⟩ (by simp; omega) (Kn.cons rfl (Kn.cons rfl (Kn.cons rfl (Kn.cons rfl (Kn.cons rfl (Kn.cons rfl Kn.nil)))))) ?_
    simp only
    rw [icells_take hx]
    exact HLe.drop 2 rfl
  · refine jA8 ?_
    repeat (with_reducible refine nTE ?_)
    with_reducible refine nBE ?_
    with_reducible refine nN ?_
    have hke : i = L.length := by simp at h; omega
    subst hke
    rw [List.drop_length, ofE] at hq
    have h0 : ofQ L = 0 := hq.symm
    obtain ⟨o1, o2, o3, o4⟩ := of_ok h0
    rw [List.take_length, h0]
    have hol := o4.length_eq
    rcases Nat.eq_zero_or_pos L.length with hz | hz
    · obtain rfl : L = [] := List.length_eq_zero_iff.1 hz
      obtain ⟨Av, cv, rfl, hAv⟩ := hv.form
      refine jB5 (.own g1 27 [.slice none 0 0] :: rowE (.slice Av 0 cv) 62 2 []) (HLe.sub ((List.Sublist.cons_cons _ (List.sublist_append_right T _)).trans (List.sublist_cons_self _ _))) ?_
      refine aR fun Z hZ => sM rfl rfl ?_
      refine sCP (sortE_fn Av cv) rfl rfl ?_
      refine sN (hZ _ _ ?_)
      refine aF [(2, _), (5, _)] (Kn.cons rfl (Kn.cons rfl (Kn.nil))) ?_
      refine aR fun Z hZ => sM rfl rfl ?_
      refine jB3 tyZ27 tyP27 rfl rfl (by simp only [List.take_zero, List.drop_succ_cons, List.drop_zero, List.nil_append, List.append_nil, List.length_cons, List.length_nil, Nat.zero_add, Value.cells, wrV]; rfl) rfl ?_
      first | refine sS 0 rfl rfl rfl tyS27 (by simp only [Value.cells]; rfl) rfl rfl rfl (by simp only [List.take_zero, List.drop_succ_cons, List.drop_zero, List.nil_append, List.append_nil, List.length_cons, List.length_nil, Nat.zero_add, wrV]; rfl) (by simp only [List.set_cons_zero]; rfl) ?_
      refine sA rfl rfl <| sN (hZ _ _ ?_)
      refine aF [(2, _), (3, _)] (Kn.cons rfl (Kn.cons rfl (Kn.nil))) ?_
      refine aE ?_
      exact jD2 _ rfl (ResOk.cell 0 rfl rfl tyA27 tyS27 rfl) rfl (HLe.drop 1 rfl) ⟨_, rfl, .inl ⟨rfl, hv, rfl⟩⟩
    · obtain ⟨gv, cv, rfl⟩ := hv.some hz
      refine jB5 ([.ob gv (RowP 62 2 L.length cv (jB0 L))] ++ [.own g1 27 [.slice none 0 0]]) ((HLe.swap _ _).trans (HLe.sub ((List.Sublist.cons_cons _ (List.sublist_append_right T _)).trans (List.sublist_cons_self _ _)))) ?_
      refine aR fun Z hZ => sM rfl rfl ?_
      refine jD9 [.ob gv (RowP 62 2 L.length cv (jB0 L))] [.own g1 27 [.slice none 0 0]] (sort_fn gv L.length cv L rfl (by omega)) rfl (HLe.refl _) rfl ?_
      rintro v H' ⟨rfl, Ms, hp, hs, rfl⟩
      obtain rfl := sort_is o1 hp hs
      refine jE0 [.ob gv (RowP 62 2 L.length cv (jB0 (sortI L))), .own g1 27 [.slice none 0 0]] (HLe.refl _) ?_
      refine sN (hZ _ _ ?_)
      refine aF [(2, _), (5, _)] (Kn.cons rfl (Kn.cons rfl (Kn.nil))) ?_
      refine aR fun Z hZ => sM rfl rfl ?_
      refine jB3 tyZ27 tyP27 rfl rfl (by simp only [List.take_zero, List.drop_succ_cons, List.drop_zero, List.nil_append, List.append_nil, List.length_cons, List.length_nil, Nat.zero_add, Value.cells, wrV]; rfl) rfl ?_
      refine sS 1 rfl rfl rfl tyS27 (by simp only [Value.cells]; rfl) rfl rfl rfl (by simp only [List.take_zero, List.drop_succ_cons, List.drop_zero, List.nil_append, List.append_nil, List.length_cons, List.length_nil, Nat.zero_add, wrV]; rfl) (by simp only [List.set_cons_succ, List.set_cons_zero]; rfl) ?_
      refine sA rfl rfl <| sN (hZ _ _ ?_)
      refine aF [(2, _), (3, _)] (Kn.cons rfl (Kn.cons rfl (Kn.nil))) ?_
      refine aE ?_
      exact jD2 [.ob gv (RowP 62 2 L.length cv (jB0 (sortI L)))] rfl (ResOk.cell 1 rfl rfl tyA27 tyS27 rfl) rfl (HLe.sub (List.sublist_append_left [_] [_])) ⟨_, rfl, .inl ⟨rfl, by rw [hol]; exact RowOk.mk gv _ cv, rfl⟩⟩
end Go.Proofs.YtkojkeabelckjaaGreatDoor
namespace Go.Proofs.YtkojkeabelckjaaGreatDoor
open Go.RowKit
def zLo (L : List It) : Int := if L = [] then 0 else zoomQ (itAt L 0).id
def zHi (L : List It) : Int := if L = [] then 0 else zoomQ (itAt L (L.length - 1)).id
theorem zooms_fn (A : Option Addr) (c : Nat) (L : List It) (T : Heap) (hA : ArgOk A L.length) (hT : 0 < L.length → T = roE A (jB0 L)) (hro : Ro T) (hL : L.length ≤ 1000000) (hk : ItsOk L) :
    Fn Tryz.prog 65 [chV A L.length c] T fun v _ => v = .tuple #[iq (zLo L), iq (zHi L), .bool (!L.isEmpty)] := by
  refine Fn.enter (N := 25) Tryz.func65 rfl (by kernel_rfl) rfl (fun w0 => ?_)
  refine aR (fun Z hZ => ?_)
  refine jA5 rfl rfl rfl (fun g1 => ?_)
  refine sA rfl rfl <| sA rfl rfl <| sA rfl rfl <| sN (hZ _ _ ?_)
  refine aF [(1, _)] (Kn.cons rfl (Kn.nil)) ?_
  refine aR (fun Z hZ => ?_)
  refine sFA rfl tyF27_0 (by simp only [Nat.add_zero]; rfl) rfl ?_
  first | refine sL 0 rfl rfl tyA25 tyS25 rfl rfl ?_
  refine jE7 Tryz.underlying25 rfl rfl ?_
  refine sA rfl rfl <| sN (hZ _ _ ?_)
  refine aF [(1, _), (5, _)] (Kn.cons rfl (Kn.cons rfl (Kn.nil))) ?_
  refine aS ?_
  refine aR fun Z hZ => sM rfl rfl ?_
  refine jD7 rfl rfl rfl ?_
  refine sN (hZ _ _ ?_)
  refine aF [(1, _), (5, _), (10, _)] (Kn.cons rfl (Kn.cons rfl (Kn.cons rfl (Kn.nil)))) ?_
  refine aC rfl (fun h => ?_) (fun h => ?_)
  · have h0 : L = [] := List.length_eq_zero_iff.1 (by simpa using h)
    subst h0
    refine aR fun Z hZ => sA rfl rfl <| sA rfl rfl <| sA rfl rfl <| sN (hZ _ _ ?_)
    refine aF [(2, _), (3, _), (4, _)] (Kn.cons rfl (Kn.cons rfl (Kn.cons rfl (Kn.nil)))) ?_
    refine aE ?_
    repeat (with_reducible refine nTR ?_)
    exact nx_ret3 rfl rfl rfl rfl rfl
  have h0 : 0 < L.length := by
    have : ¬ L.length = 0 := by simpa using h
    omega
  have hne : L ≠ [] := List.length_pos_iff.1 h0
  have x1 := itAt_at (L := L) (i := 0) h0
  obtain ⟨m, hm⟩ : ∃ m, L.length - 1 = m := ⟨_, rfl⟩
  have x2 := itAt_at (L := L) (i := m) (by omega)
  have z1 := zoom_fn (itAt L 0).id (hk _ (List.mem_of_getElem? x1))
  have z2 := zoom_fn (itAt L m).id (hk _ (List.mem_of_getElem? x2))
  rw [show zLo L = zoomQ (itAt L 0).id by unfold zLo; rw [if_neg hne], show zHi L = zoomQ (itAt L m).id by unfold zHi; rw [if_neg hne, hm], show L.isEmpty = false by simpa using hne]
  obtain ⟨g, o, rfl⟩ := hA h0
  obtain rfl := hT h0
  refine aK ?_
  with_reducible refine nN ?_
  refine jC1 mixed (by kernel_rfl) (fun Z hZ => ?_)
  refine qFA rfl tyF27_0 (by simp only [Nat.add_zero]; rfl) rfl ?_
  first | refine jA2 0 rfl rfl tyA25 tyS25 rfl rfl ?_
  refine jG5 (o + 0 * 2) Tryz.underlying25 tyS62 rfl rfl (by omega) (by simp) rfl ?_
  refine qFA rfl tyF62_0 (by simp only [Nat.add_zero]; rfl) rfl ?_
  refine sq_loadRo 1 rfl rfl (0 * 2) rfl tyA45 tyS45 (icells_id x1) rfl ?_
  refine jH7 z1 rfl rfl ?_
  refine qFA rfl tyF27_0 (by simp only [Nat.add_zero]; rfl) rfl ?_
  first | refine jA2 0 rfl rfl tyA25 tyS25 rfl rfl ?_
  refine qM rfl rfl ?_
  refine sq_sub rfl rfl ((m : Nat) : Int) (by rw [IntWalk.i64_in _ (by omega)]; omega) rfl ?_
  refine jG5 (o + m * 2) Tryz.underlying25 tyS62 rfl rfl (by omega) (by simp) rfl ?_
  refine qFA rfl tyF62_0 (by simp only [Nat.add_zero]; rfl) rfl ?_
  refine sq_loadRo 1 rfl rfl (m * 2) rfl tyA45 tyS45 (icells_id x2) rfl ?_
  refine jH7 z2 rfl rfl ?_
  refine jA3 rfl rfl ?_
  refine jA3 rfl rfl ?_
  refine jA3 rfl rfl ?_
  refine jD0 (hZ _ _ ?_)
  refine aF [(2, _), (3, _), (4, _)] (Kn.cons rfl (Kn.cons rfl (Kn.cons rfl (Kn.nil)))) ?_
  refine aE ?_
  exact nx_ret3 rfl rfl rfl rfl rfl
end Go.Proofs.YtkojkeabelckjaaGreatDoor
namespace Go.Proofs.YtkojkeabelckjaaGreatDoor
open Go.RowKit
section
variable {P : Program} {N : Frm} {w0 w : World} {Wr : List Nat} {ops : Array Oper} {rest : List Oper} {fr : Fr} {H : Heap} {Z : Fr → Heap → Prop} {d ty : Nat} {pos : String} {after : Array Edge}
end
end Go.Proofs.YtkojkeabelckjaaGreatDoor
namespace Go.Proofs.YtkojkeabelckjaaGreatDoor
open Go.RowKit
section
variable {P : Program} {N : Frm} {w0 w : World} {Wr : List Nat} {ops : Array Oper} {rest : List Oper} {fr : Fr} {H : Heap} {Z : Fr → Heap → Prop} {d ty : Nat} {pos : String} {after : Array Edge}
end
end Go.Proofs.YtkojkeabelckjaaGreatDoor
namespace Go.Proofs.YtkojkeabelckjaaGreatDoor
open Go.RowKit
theorem ChOk.its {L : List It} (h : ChOk L) : ItsOk L := fun e he => by have := h.lt e he; omega
end Go.Proofs.YtkojkeabelckjaaGreatDoor
namespace Go.Proofs.YtkojkeabelckjaaGreatDoor
open Go.RowKit
def ofL (L : List It) : List It := if ofQ L = 0 then sortI L else []
section
variable {N : Frm} {w0 w : World} {Wr : List Nat} {ops : Array Oper} {rest : List Oper} {fr : Fr} {H : Heap} {Z : Fr → Heap → Prop} {d ty : Nat} {pos : String} {after : Array Edge} {xs : List Operand} {ts : Array TypeId} {A B : Option Addr} {c c2 : Nat}
end
set_option maxRecDepth 100000
end Go.Proofs.YtkojkeabelckjaaGreatDoor
namespace Go.Proofs.YtkojkeabelckjaaGreatDoor
open Go.RowKit
theorem ofE_zero : ∀ (M : List It) (seen : List Nat), (seen ++ idsI M).Nodup → seen.length + M.length ≤ 2048 → (∀ e ∈ M, e.id < 6004799503160661 ∧ e.tx ≠ [] ∧ e.tx.length ≤ 65536) → ofE seen M = 0
  | [], _, _, _, _ => rfl
  | e :: r, seen, hn, hl, hg => by
    have h1 := hg e List.mem_cons_self
    have h2 : e.id ∉ seen := fun hm => by
      have := List.nodup_append.1 hn
      exact this.2.2 e.id hm e.id (by simp [idsI]) rfl
    have h3 : ¬ 2048 ≤ seen.length := by simp at hl; omega
    have hw : jE4 e.id e.tx (decide (2048 ≤ seen.length)) = 0 := by
      unfold jE4
      rw [if_neg (by omega), if_neg h1.2.1, if_neg (by omega), decide_eq_false h3]
      rfl
    rw [ofE, if_neg h2, hw, if_neg (by simp)]
    refine ofE_zero r (seen ++ [e.id]) (by simpa [idsI] using hn) (by simp at hl ⊢; omega) fun x hx => hg x (List.mem_cons_of_mem _ hx)
theorem of_perm {O M : List It} (hO : ChOk O) (hp : M.Perm O) : ofQ M = 0 ∧ ofL M = O := by
  have hn : (idsI O).Nodup := by
    unfold idsI
    have := hO.rise
    exact (List.pairwise_map.2 (this.imp fun h => Nat.ne_of_lt h))
  have hnM : (idsI M).Nodup := (hp.map fun e : It => e.id).nodup_iff.2 hn
  have h0 : ofQ M = 0 := ofE_zero M [] (by simpa using hnM) (by have := hp.length_eq; have := hO.len; simp; omega) fun e he => by
    have hm := hp.mem_iff.1 he
    exact ⟨hO.lt e hm, hO.tx e hm⟩
  refine ⟨h0, ?_⟩
  unfold ofL
  rw [if_pos h0]
  exact (sort_is hnM hp.symm (hO.rise.imp fun h => Nat.le_of_lt h)).symm
end Go.Proofs.YtkojkeabelckjaaGreatDoor
end

section
set_option linter.all false
namespace Go.Proofs.YtkojkeabelckjaaGreatDoor.V
open Go.RowKit
def mwrQ (e : En) (many : Nat) (data : List UInt8) : Nat := if e.run = 0 then 14 else if data.length < e.off + e.len then 8 else if 2048 < many then 21 else if 65536 < e.len then 5 else 0
def txOf (x : En) (data : List UInt8) : List UInt8 := (data.drop x.off).take x.len
def itsOf (x : En) (data : List UInt8) : List It := (List.range x.run).map fun k => ⟨x.id + k, txOf x data⟩
def mbR (data : List UInt8) : Nat → List It → List En → Nat × List It
  | _, out, [] => (0, out)
  | many, out, x :: r => if mwrQ x (many + x.run) data = 0 then mbR data (many + x.run) (out ++ itsOf x data) r else (mwrQ x (many + x.run) data, [])
def mbQ (L : List En) (data : List UInt8) : Nat × List It := if rowC L = 0 then mbR data 0 [] L else (rowC L, [])
theorem mwr_zero {e : En} {many : Nat} {data : List UInt8} (h : mwrQ e many data = 0) : e.run ≠ 0 ∧ e.off + e.len ≤ data.length ∧ many ≤ 2048 ∧ e.len ≤ 65536 := by
  unfold mwrQ at h
  repeat' split at h
  all_goals first | omega | skip
  all_goals exact ⟨by assumption, by omega, by omega, by omega⟩
theorem its_len (x : En) (data : List UInt8) : (itsOf x data).length = x.run := by simp [itsOf]
theorem its_take {x : En} {data : List UInt8} {k : Nat} (h : k < x.run) : (itsOf x data).take (k + 1) = (itsOf x data).take k ++ [⟨x.id + k, txOf x data⟩] := by
  rw [List.take_add_one]
  congr 1
  simp [itsOf, h]
theorem mbR_ok (data : List UInt8) : ∀ (L : List En) (free many : Nat) (out : List It), jD6 L → rowQ free L = 0 → Rise out → (∀ e ∈ out, e.id < free ∧ e.id < 6004799503160661 ∧ e.tx ≠ [] ∧ e.tx.length ≤ 65536) → out.length = many → many ≤ 2048 → ∀ O, mbR data many out L = (0, O) → ChOk O
  | [], _, _, out, _, _, hr, ho, hl, hm, O, h => by
    rw [mbR] at h
    injection h with _ h
    subst h
    exact ⟨hr, fun e he => (ho e he).2.1, fun e he => (ho e he).2.2, by omega⟩
  | x :: r, free, many, out, hE, hq, hr, ho, hl, hm, O, h => by
    have hx := hE x List.mem_cons_self
    rw [rowQ] at hq
    split at hq
    · rename_i hc
      split at hq
      · cases hq
      · rename_i hf
        rw [mbR] at h
        split at h
        · rename_i hw
          obtain ⟨w1, w2, w3, w4⟩ := mwr_zero hw
          obtain ⟨c1, c2, c3, c4⟩ := chk_ok hx hc
          have hwide : x.wide = x.run := by unfold En.wide; omega
          have hlast : lastE x + 1 = x.id + x.run := by unfold lastE; rw [if_pos hc, hwide]; omega
          have htx : (txOf x data).length = x.len := by unfold txOf; rw [List.length_take, List.length_drop]; omega
          refine mbR_ok data r (lastE x + 1) (many + x.run) _ (fun e he => hE e (List.mem_cons_of_mem _ he)) hq ?_ (fun e he => ?_) (by rw [List.length_append, its_len, hl]) w3 O h
          · refine List.pairwise_append.2 ⟨hr, List.pairwise_map.2 (List.pairwise_lt_range.imp fun h => by show x.id + _ < x.id + _; omega), fun a ha b hb => ?_⟩
            obtain ⟨k, _, rfl⟩ := List.mem_map.1 hb
            have := (ho a ha).1
            show a.id < x.id + k
            omega
          · rcases List.mem_append.1 he with he | he
            · obtain ⟨h1, h2, h3⟩ := ho e he
              exact ⟨by omega, h2, h3⟩
            · obtain ⟨k, hk, rfl⟩ := List.mem_map.1 he
              have hk := List.mem_range.1 hk
              refine ⟨by show x.id + k < _; omega, by show x.id + k < _; omega, fun hn => ?_, by show (txOf x data).length ≤ _; omega⟩
              have : (txOf x data).length = 0 := by rw [show txOf x data = [] from hn]; rfl
              omega
        · rename_i hw
          injection h with h _
          exact absurd h hw
    · rename_i hc
      exact absurd hq hc
theorem mb_nil {data : List UInt8} : ∀ (L : List En) (many : Nat) (out : List It), (mbR data many out L).1 ≠ 0 → (mbR data many out L).2 = []
  | [], _, _, h => absurd rfl h
  | x :: r, many, out, h => by
    rw [mbR] at h ⊢
    split
    · rename_i hw
      rw [if_pos hw] at h
      exact mb_nil r _ _ h
    · rfl
theorem mb_ok {L : List En} (hE : jD6 L) (data : List UInt8) : ChOk (mbQ L data).2 := by
  unfold mbQ
  split
  · rename_i hr
    have hq : rowQ 0 L = 0 := by
      unfold rowC at hr
      split at hr
      · cases hr
      · exact hr
    by_cases h0 : (mbR data 0 [] L).1 = 0
    · exact mbR_ok data L 0 0 [] hE hq List.Pairwise.nil (fun e he => by cases he) rfl (by omega) _ (Prod.ext h0 rfl)
    · rw [mb_nil L 0 [] h0]; exact ChOk.nil
  · exact ChOk.nil
end Go.Proofs.YtkojkeabelckjaaGreatDoor.V
end

section
set_option linter.all false
namespace Go.Proofs.YtkojkeabelckjaaGreatDoor.V
open Go.RowKit
set_option maxRecDepth 100000
theorem awp_lastcut {P : Program} {N : Frm} {w0 : World} {Wr : List Nat} {fr : Fr} {H : Heap} {Q : Exit → Act → World → Prop} {c : Code} {ι : Type} (F : ι → Fr) (HH : ι → Heap) (I : ι → Prop)
    (hx : awp P N w0 Wr c fr H (Exit.then (fun a w => ∃ j, I j ∧ FrOk N (F j) a ∧ Sat w0 Wr (HH j) w) Q)) (hy : ∀ j, I j → nx N w0 Wr (F j) (HH j) Q .normal) : awp P N w0 Wr c fr H Q :=
  fun a w ha hw => wq_mono (fun e a w h => by
    cases e <;> first | exact h | (obtain ⟨j, hj, h1, h2⟩ := h; exact hy j hj a w h1 h2)) (hx a w ha hw)
theorem mwrong_fn (e : En) (he : e.ok) (ho : e.off ≤ 1099511627776) (many : Nat) (hm : many < 18446744073709551616) (data : List UInt8) (hd : data.length ≤ 1000000) :
    Fn Tryz.prog 70 [e.val, uq many, .string (str data)] [] fun v _ => v = iq (mwrQ e many data) := by
  obtain ⟨h1, h2, h3, h4⟩ := he
  refine Fn.enter (N := 29) Tryz.func70 rfl (by kernel_rfl) rfl (fun w0 => ?_)
  refine aR (fun Z hZ => ?_)
  refine jA5 rfl rfl rfl (fun g1 => ?_)
  refine sA rfl rfl <| sN (hZ _ _ ?_)
  refine aF [(1, _), (2, _), (3, _)] (Kn.cons rfl (Kn.cons rfl (Kn.cons rfl (Kn.nil)))) ?_
  refine aS (aB ?_)
  refine aR (fun Z hZ => ?_)
  refine sFA rfl tyF114_3 (by simp only [Nat.zero_add]; rfl) rfl ?_
  first | refine sL 0 rfl rfl tyA112 tyS112 rfl rfl ?_
  refine jD7 rfl rfl rfl ?_
  refine sA rfl rfl <| sN (hZ _ _ ?_)
  refine aF [(1, _), (2, _), (3, _), (7, _)] (Kn.cons rfl (Kn.cons rfl (Kn.cons rfl (Kn.cons rfl (Kn.nil))))) ?_
  refine aC rfl (fun h => ?_) (fun h => ?_)
  · have h' : e.run = 0 := by simp at h; omega
    rw [show mwrQ e many data = 14 by unfold mwrQ; rw [if_pos h']]
    refine aR fun Z hZ => sA rfl rfl <| sN (hZ _ _ ?_)
    refine aF [(6, _)] (Kn.cons rfl (Kn.nil)) ?_
    refine aE ?_
    repeat (with_reducible (first | refine nTR ?_ | refine nBR ?_))
    exact nR1 rfl rfl rfl
  have h' : ¬ e.run = 0 := by simp at h; omega
  refine aR (fun Z hZ => ?_)
  refine sFA rfl jF6 (by simp only [Nat.zero_add]; rfl) rfl ?_
  first | refine sL 0 rfl rfl tyA45 tyS45 rfl rfl ?_
  refine sFA rfl tyF114_2 (by simp only [Nat.zero_add]; rfl) rfl ?_
  first | refine sL 0 rfl rfl tyA112 tyS112 rfl rfl ?_
  refine jA6 Tryz.underlying112 Tryz.underlying45 rfl ((e.len : Nat) : Int) (by rw [IntWalk.u64_in _ (by omega)]) rfl ?_
  refine jA7 rfl rfl ((e.off + e.len : Nat) : Int) (by rw [IntWalk.u64_in _ (by omega)]; omega) rfl ?_
  refine sM rfl rfl ?_
  refine jF3 Tryz.underlying9 rfl rfl ?_
  refine jA6 Tryz.underlying3 Tryz.underlying45 rfl ((data.length : Nat) : Int) (by rw [IntWalk.u64_in _ (by omega)]) rfl ?_
  refine jE3 rfl rfl rfl ?_
  refine sA rfl rfl <| sN (hZ _ _ ?_)
  refine aF [(1, _), (3, _), (11, _)] (Kn.cons rfl (Kn.cons rfl (Kn.cons rfl (Kn.nil)))) ?_
  refine aC rfl (fun h2' => ?_) (fun h2' => ?_)
  · have h2' : data.length < e.off + e.len := by simp at h2'; omega
    rw [show mwrQ e many data = 8 by unfold mwrQ; rw [if_neg h', if_pos h2']]
    refine aR fun Z hZ => sA rfl rfl <| sN (hZ _ _ ?_)
    refine aF [(6, _)] (Kn.cons rfl (Kn.nil)) ?_
    refine aE ?_
    repeat (with_reducible (first | refine nTR ?_ | refine nBR ?_))
    exact nR1 rfl rfl rfl
  have h2' : ¬ data.length < e.off + e.len := by simp at h2'; omega
  refine aR fun Z hZ => sM rfl rfl ?_
  refine jE3 rfl rfl rfl ?_
  refine sA rfl rfl <| sN (hZ _ _ ?_)
  refine aF [(3, _), (22, _)] (Kn.cons rfl (Kn.cons rfl (Kn.nil))) ?_
  refine aC rfl (fun h5 => ?_) (fun h5 => ?_)
  · have h5 : 2048 < many := by simp at h5; omega
    rw [show mwrQ e many data = 21 by unfold mwrQ; rw [if_neg h', if_neg h2', if_pos h5]]
    refine aR fun Z hZ => sA rfl rfl <| sN (hZ _ _ ?_)
    refine aF [(6, _)] (Kn.cons rfl (Kn.nil)) ?_
    refine aE ?_
    repeat (with_reducible (first | refine nTR ?_ | refine nBR ?_))
    exact nR1 rfl rfl rfl
  have h5 : ¬ 2048 < many := by simp at h5; omega
  refine aR (fun Z hZ => ?_)
  refine sFA rfl tyF114_2 (by simp only [Nat.zero_add]; rfl) rfl ?_
  first | refine sL 0 rfl rfl tyA112 tyS112 rfl rfl ?_
  refine jE3 rfl rfl rfl ?_
  refine sA rfl rfl <| sN (hZ _ _ ?_)
  refine aF [(25, _)] (Kn.cons rfl (Kn.nil)) ?_
  refine aC rfl (fun h6 => ?_) (fun h6 => ?_)
  · have h6 : 65536 < e.len := by simp at h6; omega
    rw [show mwrQ e many data = 5 by unfold mwrQ; rw [if_neg h', if_neg h2', if_neg h5, if_pos h6]]
    refine aR fun Z hZ => sA rfl rfl <| sN (hZ _ _ ?_)
    refine aF [(6, _)] (Kn.cons rfl (Kn.nil)) ?_
    refine aE ?_
    repeat (with_reducible (first | refine nTR ?_ | refine nBR ?_))
    exact nR1 rfl rfl rfl
  have h6 : ¬ 65536 < e.len := by simp at h6; omega
  rw [show mwrQ e many data = 0 by unfold mwrQ; rw [if_neg h', if_neg h2', if_neg h5, if_neg h6]]
  refine aK ?_
  repeat (with_reducible refine nBN ?_)
  with_reducible refine nN ?_
  refine aR fun Z hZ => sA rfl rfl <| sN (hZ _ _ ?_)
  refine aF [(6, _)] (Kn.cons rfl (Kn.nil)) ?_
  refine aE ?_
  exact nR1 rfl rfl rfl
theorem mrowQ_step {free : Nat} {e : En} {r : List En} (h : rowQ free (e :: r) = 0) : chkE e = 0 ∧ rowQ (lastE e + 1) r = 0 := by
  rw [rowQ] at h
  split at h
  · rename_i hc
    split at h
    · cases h
    · exact ⟨hc, h⟩
  · rename_i hc; exact absurd h hc
theorem mrowQ_at : ∀ (L : List En) (free : Nat), rowQ free L = 0 → ∀ e ∈ L, chkE e = 0
  | [], _, _, e, he => by cases he
  | x :: r, free, h, e, he => by
    obtain ⟨h1, h2⟩ := mrowQ_step h
    rcases List.mem_cons.1 he with rfl | he
    · exact h1
    · exact mrowQ_at r _ h2 e he
theorem micells_app (X Y : List It) : jB0 (X ++ Y) = jB0 X ++ jB0 Y := by simp [jB0]
theorem mback_fn (A : Option Addr) (c : Nat) (L : List En) (T : Heap) (hA : ArgOk A L.length) (hT : 0 < L.length → T = roE A (jA0 L)) (hro : Ro T) (hL : L.length ≤ maxLen) (hE : jD6 L) (data : List UInt8) (hd : data.length ≤ 1000000) :
    Fn Tryz.prog 29 [.slice A L.length c, .string (str data)] T fun v H' => ∃ u, v = .tuple #[.agg #[u], iq (mbQ L data).1] ∧ RowOk u (mbQ L data).2.length ∧ H' = rowE u 62 2 (jB0 (mbQ L data).2) := by
  refine Fn.enter (N := 70) Tryz.func29 rfl (by kernel_rfl) rfl (fun w0 => ?_)
  refine aR (fun Z hZ => ?_)
  refine sAl tyZ27 rfl (fun g1 => ?_)
  refine sA rfl rfl <| sN (hZ _ _ ?_)
  refine aF [(0, _), (1, _), (4, _)] (Kn.cons rfl (Kn.cons rfl (Kn.cons rfl (Kn.nil)))) ?_
  refine aS ?_
  refine aR fun Z hZ => sM rfl rfl ?_
  refine jF4 T (erow_fn A c L T hA hT hro hL hE) rfl (List.sublist_cons_self _ _) hro rfl ?_
  refine sA rfl rfl <| sN (hZ _ _ ?_)
  refine aF [(0, _), (1, _), (4, _), (6, _)] (Kn.cons rfl (Kn.cons rfl (Kn.cons rfl (Kn.cons rfl (Kn.nil))))) ?_
  refine aR fun Z hZ => sM rfl rfl ?_
  refine jC9 rfl rfl rfl ?_
  refine sN (hZ _ _ ?_)
  refine aF [(0, _), (1, _), (4, _), (6, _), (17, _)] (Kn.cons rfl (Kn.cons rfl (Kn.cons rfl (Kn.cons rfl (Kn.cons rfl (Kn.nil)))))) ?_
  refine aC rfl (fun h => ?_) (fun h => ?_)
  · have h' : ¬ rowC L = 0 := by simp at h; omega
    rw [show mbQ L data = (rowC L, []) by unfold mbQ; rw [if_neg h']]
    refine aR (fun Z hZ => ?_)
    refine jB3 tyZ27 tyP27 rfl rfl rfl rfl ?_
    refine sM rfl rfl ?_
    first | refine sS 0 rfl rfl rfl tyS27 (by simp only [Value.cells]; rfl) rfl rfl rfl (by simp only [List.take_zero, List.drop_succ_cons, List.drop_zero, List.nil_append, List.append_nil, List.length_cons, List.length_nil, Nat.zero_add, wrV]; rfl) (by simp only [List.set_cons_zero]; rfl) ?_
    refine sA rfl rfl <| sN (hZ _ _ ?_)
    refine aF [(4, _), (5, _)] (Kn.cons rfl (Kn.cons rfl (Kn.nil))) ?_
    refine aE ?_
    repeat (with_reducible refine nTR ?_)
    exact jD2 [] rfl (ResOk.cell 0 rfl rfl tyA27 tyS27 rfl) rfl (HLe.sub (List.nil_sublist _)) ⟨_, rfl, RowOk.nil, rfl⟩
  have h' : rowC L = 0 := by simp at h; omega
  have hq : rowQ 0 L = 0 ∧ L.length ≤ 4096 := by
    unfold rowC at h'
    split at h'
    · cases h'
    · exact ⟨h', by omega⟩
  have hat := mrowQ_at L 0 hq.1
  have hmb : mbQ L data = mbR data 0 [] L := by unfold mbQ; rw [if_pos h']
  have hokM := mb_ok hE data
  rw [hmb] at hokM ⊢
  refine aK ?_
  with_reducible refine nN ?_
  refine aR fun Z hZ => sA rfl rfl <| sN (hZ _ _ ?_)
  refine aF [(0, _), (1, _), (4, _), (7, _)] (Kn.cons rfl (Kn.cons rfl (Kn.cons rfl (Kn.cons rfl (Kn.nil))))) ?_
  refine aR fun Z hZ => sA rfl rfl <| sN (hZ _ _ ?_)
  refine aF [(0, _), (1, _), (4, _), (7, _), (8, _)] (Kn.cons rfl (Kn.cons rfl (Kn.cons rfl (Kn.cons rfl (Kn.cons rfl (Kn.nil)))))) ?_
  refine aS ?_
  refine aR fun Z hZ => sM rfl rfl ?_
  refine jE7 Tryz.underlying68 rfl rfl ?_
  refine sM rfl rfl <| sN (hZ _ _ ?_)
  refine aF [(1, _), (4, _), (7, _), (8, _), (20, _), (21, _), (22, _)] (Kn.cons rfl (Kn.cons rfl (Kn.cons rfl (Kn.cons rfl (Kn.cons rfl (Kn.cons rfl (Kn.cons rfl (Kn.nil)))))))) ?_
  refine aB ?_
  refine jC2 (ι := Nat × Nat × Value × List It) (fun s => [(1, .string (str data)), (4, ptr g1 0), (7, uq s.2.1), (8, s.2.2.1), (20, .slice A L.length c), (21, iq (L.length : Nat)), (22, iq (s.1 : Nat))]) (fun s => .own g1 27 [.slice none 0 0] :: (T ++ rowE s.2.2.1 62 2 (jB0 s.2.2.2)))
    (fun s => s.1 ≤ L.length ∧ RowOk s.2.2.1 s.2.2.2.length ∧ s.2.2.2.length = s.2.1 ∧ s.2.1 ≤ 2048 ∧ mbR data s.2.1 s.2.2.2 (L.drop s.1) = mbR data 0 [] L) (fun s => L.length - s.1) (0, 0, .slice none 0 0, []) ⟨by simp, RowOk.nil, rfl, Nat.zero_le _, rfl⟩ (Kn.cons rfl (Kn.cons rfl (Kn.cons rfl (Kn.cons rfl (Kn.cons rfl (Kn.cons rfl (Kn.cons rfl Kn.nil))))))) (by simp [rowE]; exact HLe.refl _) ?_
  rintro ⟨i, many, v, X⟩ ⟨hi, hv, hXl, hmn, hqq⟩
  simp only at hi hv hXl hmn hqq
  refine aR (fun Z hZ => ?_)
  refine jC3 rfl rfl rfl ?_
  refine sN (hZ _ _ ?_)
  refine aF [(1, _), (4, _), (7, _), (8, _), (20, _), (21, _), (22, _), (23, _)] (Kn.cons rfl (Kn.cons rfl (Kn.cons rfl (Kn.cons rfl (Kn.cons rfl (Kn.cons rfl (Kn.cons rfl (Kn.cons rfl (Kn.nil))))))))) ?_
  refine aS (aC rfl (fun h2 => ?_) (fun h2 => ?_))
  · have hlt : i < L.length := by simpa using h2
    obtain ⟨x, hx⟩ : ∃ x, L[i]? = some x := ⟨_, List.getElem?_eq_getElem hlt⟩
    have hxm := List.mem_of_getElem? hx
    have hxo := hE x hxm
    obtain ⟨c1, c2, c3, c4⟩ := chk_ok hxo (hat x hxm)
    obtain ⟨k1, k2, k3, k4⟩ := hxo
    have hdr : L.drop i = x :: L.drop (i + 1) := by rw [List.drop_eq_getElem_cons hlt]; congr 1; exact (List.getElem?_eq_some_iff.1 hx).2
    rw [hdr, mbR] at hqq
    obtain ⟨w, hw⟩ : ∃ w, mwrQ x (many + x.run) data = w := ⟨_, rfl⟩
    have hwf := mwrong_fn x (hE x hxm) c3 (many + x.run) (by omega) data hd
    rw [hw] at hqq hwf
    obtain ⟨g, o, rfl⟩ := hA (by omega)
    obtain rfl := hT (by omega)
    refine jB5 (.own g1 27 [.slice none 0 0] :: .ro g o (jA0 L) :: rowE v 62 2 (jB0 X)) (HLe.refl _) ?_
    refine aK ?_
    with_reducible refine nN ?_
    refine aS (aB ?_)
    refine aR (fun Z hZ => ?_)
    refine jB9 (o + i * 4) Tryz.underlying68 tyS114 rfl rfl (by first | omega | (simp; omega)) (by simp) rfl ?_
    refine jF0 1 rfl rfl (i * 4) rfl tyA114 tyS114 (ecells_all hx) rfl ?_
    refine sAl tyZ114 rfl (fun g2 => ?_)
    refine sS 0 rfl rfl rfl tyS114 (by simp only [Value.cells]; rfl) rfl rfl rfl (by simp only [List.take_zero, List.drop_succ_cons, List.drop_zero, List.nil_append, List.append_nil, List.length_cons, List.length_nil, Nat.reduceAdd, Nat.zero_add, wrV]; rfl) (by simp only [List.set_cons_zero]; rfl) ?_
    refine sN (hZ _ _ ?_)
    refine aF [(1, _), (4, _), (7, _), (8, _), (10, _), (20, _), (21, _), (22, _)] (Kn.cons rfl (Kn.cons rfl (Kn.cons rfl (Kn.cons rfl (Kn.cons rfl (Kn.cons rfl (Kn.cons rfl (Kn.cons rfl (Kn.nil))))))))) ?_
    refine aR fun Z hZ => sM rfl rfl ?_
    refine sFA rfl tyF114_3 (by simp only [Nat.zero_add]; rfl) rfl ?_
    refine sL 0 rfl rfl tyA112 tyS112 rfl rfl ?_
    refine jA6 Tryz.underlying112 Tryz.underlying45 rfl ((x.run : Nat) : Int) (by rw [IntWalk.u64_in _ (by omega)]) rfl ?_
    refine jA7 rfl rfl ((many + x.run : Nat) : Int) (by show IntKind.u64.wrap (((many : Nat) : Int) + ((x.run : Nat) : Int)) = _; rw [IntWalk.u64_in _ (by omega)]; omega) rfl ?_
    refine sA rfl rfl <| sN (hZ _ _ ?_)
    refine aF [(1, _), (4, _), (7, _), (8, _), (10, _), (20, _), (21, _), (22, _)] (Kn.cons rfl (Kn.cons rfl (Kn.cons rfl (Kn.cons rfl (Kn.cons rfl (Kn.cons rfl (Kn.cons rfl (Kn.cons rfl (Kn.nil))))))))) ?_
    refine aS ?_
    refine aR (fun Z hZ => ?_)
    refine sLA 0 rfl rfl tyA114 tyS114 rfl (by simp only [List.take_succ_cons, List.take_zero, List.drop_zero]; rfl) rfl ?_
    refine sM rfl rfl <| sM rfl rfl ?_
    refine sCP hwf rfl rfl ?_
    refine sA rfl rfl <| sN (hZ _ _ ?_)
    refine aF [(1, _), (4, _), (7, _), (8, _), (10, _), (11, _), (20, _), (21, _), (22, _)] (Kn.cons rfl (Kn.cons rfl (Kn.cons rfl (Kn.cons rfl (Kn.cons rfl (Kn.cons rfl (Kn.cons rfl (Kn.cons rfl (Kn.cons rfl (Kn.nil)))))))))) ?_
    refine aR fun Z hZ => sM rfl rfl ?_
    refine jC9 rfl rfl rfl ?_
    refine sN (hZ _ _ ?_)
    refine aF [(1, _), (4, _), (7, _), (8, _), (10, _), (11, _), (20, _), (21, _), (22, _), (36, _)] (Kn.cons rfl (Kn.cons rfl (Kn.cons rfl (Kn.cons rfl (Kn.cons rfl (Kn.cons rfl (Kn.cons rfl (Kn.cons rfl (Kn.cons rfl (Kn.cons rfl (Kn.nil))))))))))) ?_
    refine aC rfl (fun h3 => ?_) (fun h3 => ?_)
    · have h3' : ¬ w = 0 := by simp at h3; omega
      rw [if_neg h3'] at hqq
      rw [← hqq]
      refine aR (fun Z hZ => ?_)
      refine jB3 tyZ27 tyP27 rfl rfl rfl rfl ?_
      refine sM rfl rfl ?_
      refine sS 1 rfl rfl rfl tyS27 (by simp only [Value.cells]; rfl) rfl rfl rfl (by simp only [List.take_zero, List.drop_succ_cons, List.drop_zero, List.nil_append, List.append_nil, List.length_cons, List.length_nil, Nat.zero_add, wrV]; rfl) (by simp only [List.set_cons_succ, List.set_cons_zero]; rfl) ?_
      refine sA rfl rfl <| sN (hZ _ _ ?_)
      refine aF [(4, _), (5, _)] (Kn.cons rfl (Kn.cons rfl (Kn.nil))) ?_
      refine aE ?_
      repeat (with_reducible (first | refine nTR ?_ | refine nBR ?_))
      exact jD2 [] rfl (ResOk.cell 1 rfl rfl tyA27 tyS27 rfl) rfl (HLe.sub (List.nil_sublist _)) ⟨_, rfl, RowOk.nil, rfl⟩
    have h3' : w = 0 := by simp at h3; omega
    rw [if_pos h3'] at hqq
    obtain ⟨w1, w2, w3, w4⟩ := mwr_zero (hw.trans h3')
    obtain ⟨tx, htx⟩ : ∃ tx, txOf x data = tx := ⟨_, rfl⟩
    have hil := its_len x data
    have hitk : ∀ k, k < x.run → jB0 (X ++ (itsOf x data).take (k + 1)) = jB0 (X ++ (itsOf x data).take k) ++ (⟨x.id + k, tx⟩ : It).cells := fun k hk => by
      rw [its_take hk, htx, ← List.append_assoc, micells_app (X ++ (itsOf x data).take k)]
      simp [jB0]
    refine aK ?_
    with_reducible refine nN ?_
    refine aR fun Z hZ => sM rfl rfl ?_
    refine sFA rfl jF6 (by simp only [Nat.zero_add]; rfl) rfl ?_
    refine sL 0 rfl rfl tyA45 tyS45 rfl rfl ?_
    refine sFA rfl jF6 (by simp only [Nat.zero_add]; rfl) rfl ?_
    refine sL 0 rfl rfl tyA45 tyS45 rfl rfl ?_
    refine sFA rfl tyF114_2 (by simp only [Nat.zero_add]; rfl) rfl ?_
    refine sL 0 rfl rfl tyA112 tyS112 rfl rfl ?_
    refine jA6 Tryz.underlying112 Tryz.underlying45 rfl ((x.len : Nat) : Int) (by rw [IntWalk.u64_in _ (by omega)]) rfl ?_
    refine jA7 rfl rfl ((x.off + x.len : Nat) : Int) (by rw [IntWalk.u64_in _ (by omega)]; omega) rfl ?_
    refine sx_sliceS tx Tryz.underlying9 rfl rfl rfl (by omega) (by omega) (by omega) (by rw [← htx]; unfold txOf; simp only [Int.toNat_natCast]; rw [Nat.add_sub_cancel_left]) rfl ?_
    refine sA rfl rfl <| sN (hZ _ _ ?_)
    refine aF [(1, _), (4, _), (7, _), (8, _), (10, _), (12, _), (20, _), (21, _), (22, _)] (Kn.cons rfl (Kn.cons rfl (Kn.cons rfl (Kn.cons rfl (Kn.cons rfl (Kn.cons rfl (Kn.cons rfl (Kn.cons rfl (Kn.cons rfl (Kn.nil)))))))))) ?_
    refine aR (fun Z hZ => ?_)
    refine sFA rfl tyF114_3 (by simp only [Nat.zero_add]; rfl) rfl ?_
    refine sL 0 rfl rfl tyA112 tyS112 rfl rfl ?_
    refine sM rfl rfl <| sN (hZ _ _ ?_)
    refine aF [(1, _), (4, _), (7, _), (8, _), (10, _), (12, _), (20, _), (21, _), (22, _), (50, _), (51, _)] (Kn.cons rfl (Kn.cons rfl (Kn.cons rfl (Kn.cons rfl (Kn.cons rfl (Kn.cons rfl (Kn.cons rfl (Kn.cons rfl (Kn.cons rfl (Kn.cons rfl (Kn.cons rfl (Kn.nil)))))))))))) ?_
    refine awp_lastcut (ι := Value) (fun u => [(1, .string (str data)), (4, ptr g1 0), (7, uq (many + x.run)), (8, u), (20, .slice (some ⟨g, o, none⟩) L.length c), (21, iq (L.length : Nat)), (22, iq (i : Nat))]) (fun u => .own g2 114 x.cells :: .own g1 27 [.slice none 0 0] :: .ro g o (jA0 L) :: rowE u 62 2 (jB0 (X ++ itsOf x data))) (fun u => RowOk u (X ++ itsOf x data).length) ?_ ?_
    · refine aB ?_
      refine jC2 (ι := Nat × Value) (fun s => [(1, .string (str data)), (4, ptr g1 0), (7, uq (many + x.run)), (8, s.2), (10, ptr g2 0), (12, .string (str tx)), (20, .slice (some ⟨g, o, none⟩) L.length c), (21, iq (L.length : Nat)), (22, iq (i : Nat)), (50, wq4 x.run), (51, wq4 s.1)]) (fun s => .own g2 114 x.cells :: .own g1 27 [.slice none 0 0] :: .ro g o (jA0 L) :: rowE s.2 62 2 (jB0 (X ++ (itsOf x data).take s.1)))
        (fun s => s.1 ≤ x.run ∧ RowOk s.2 (X.length + s.1)) (fun s => x.run - s.1) (0, v) ⟨by simp, hv⟩ (Kn.cons rfl (Kn.cons rfl (Kn.cons rfl (Kn.cons rfl (Kn.cons rfl (Kn.cons rfl (Kn.cons rfl (Kn.cons rfl (Kn.cons rfl (Kn.cons rfl (Kn.cons rfl Kn.nil))))))))))) (by simp; exact HLe.refl _) ?_
      rintro ⟨k, u⟩ ⟨hk, hu⟩
      simp only at hk hu
      refine aR (fun Z hZ => ?_)
      refine jC3 rfl rfl rfl ?_
      refine sN (hZ _ _ ?_)
      refine aF [(1, _), (4, _), (7, _), (8, _), (10, _), (12, _), (20, _), (21, _), (22, _), (50, _), (51, _), (52, _)] (Kn.cons rfl (Kn.cons rfl (Kn.cons rfl (Kn.cons rfl (Kn.cons rfl (Kn.cons rfl (Kn.cons rfl (Kn.cons rfl (Kn.cons rfl (Kn.cons rfl (Kn.cons rfl (Kn.cons rfl (Kn.nil))))))))))))) ?_
      refine aS (aC rfl (fun h4 => ?_) (fun h4 => ?_))
      · have hkl : k < x.run := by simp at h4; omega
        have hlenk : (X ++ (itsOf x data).take k).length = X.length + k := by rw [List.length_append, List.length_take, hil]; omega
        refine aK ?_
        with_reducible refine nN ?_
        refine aS (aB ?_)
        refine aR fun Z hZ => sM rfl rfl <| sA rfl rfl <| sN (hZ _ _ ?_)
        refine aF [(1, _), (4, _), (7, _), (8, _), (10, _), (12, _), (13, _), (20, _), (21, _), (22, _), (50, _), (51, _)] (Kn.cons rfl (Kn.cons rfl (Kn.cons rfl (Kn.cons rfl (Kn.cons rfl (Kn.cons rfl (Kn.cons rfl (Kn.cons rfl (Kn.cons rfl (Kn.cons rfl (Kn.cons rfl (Kn.cons rfl (Kn.nil))))))))))))) ?_
        refine aG (fun Z hZ => ?_)
        refine sM rfl rfl ?_
        refine sFA rfl tyF114_0 (by simp only [Nat.add_zero]; rfl) rfl ?_
        refine sL 0 rfl rfl tyA45 tyS45 rfl rfl ?_
        refine sM rfl rfl ?_
        refine jA6 Tryz.underlying112 Tryz.underlying45 rfl ((k : Nat) : Int) (by rw [IntWalk.u64_in _ (by omega)]) rfl ?_
        refine jA7 rfl rfl ((x.id + k : Nat) : Int) (by rw [IntWalk.u64_in _ (by unfold En.wide at c2; omega)]; omega) rfl ?_
        refine sM rfl rfl ?_
        refine jB3 tyZ62 tyP62 rfl rfl (by simp only [List.take_succ_cons, List.take_zero, List.drop_succ_cons, List.drop_zero, List.cons_append, List.nil_append, List.append_nil, List.length_cons, List.length_nil, Nat.reduceAdd, Nat.zero_add, Value.cells, wrV]; rfl) rfl ?_
        refine sBS Tryz.underlying25 tyS62 tyZ62 rfl rfl rfl rfl (by simp only [List.take_zero, List.cons_append, List.nil_append, List.length_cons, List.length_nil, Nat.reduceAdd, Nat.zero_add, Value.cells, wrV, Nat.reduceMul, Nat.zero_mul]; rfl) rfl (fun g3 => ?_)
        refine jD8 [_, _, _, _] elemIt rfl hu (by rw [icells_len, hlenk]) rfl (fun w hw => rd_own (i := 0) (xs := (⟨x.id + k, tx⟩ : It).cells) rfl rfl hw) rfl (by show _ ≤ 9223372036854775807; omega) (by omega) (HLe.refl _) rfl (fun v2 hv2 => ?_)
        refine sA rfl rfl <| sN (hZ _ _ ?_)
        refine nF [(1, _), (4, _), (7, _), (8, _), (10, _), (12, _), (20, _), (21, _), (22, _), (50, _), (51, _)] (Kn.cons rfl (Kn.cons rfl (Kn.cons rfl (Kn.cons rfl (Kn.cons rfl (Kn.cons rfl (Kn.cons rfl (Kn.cons rfl (Kn.cons rfl (Kn.cons rfl (Kn.cons rfl (Kn.nil)))))))))))) ?_
        repeat (with_reducible refine nBN ?_)
        with_reducible refine nN ?_
        refine aG (fun Z hZ => ?_)
        refine jA7 rfl rfl ((k + 1 : Nat) : Int) (by rw [IntWalk.u32_in _ (by omega)]; omega) rfl ?_
        refine sM rfl rfl <| sN (hZ _ _ ?_)
        refine nF [(1, _), (4, _), (7, _), (8, _), (10, _), (12, _), (20, _), (21, _), (22, _), (50, _), (51, _)] (Kn.cons rfl (Kn.cons rfl (Kn.cons rfl (Kn.cons rfl (Kn.cons rfl (Kn.cons rfl (Kn.cons rfl (Kn.cons rfl (Kn.cons rfl (Kn.cons rfl (Kn.cons rfl (Kn.nil)))))))))))) ?_
        refine jB4 (k + 1, v2) ⟨hkl, hv2⟩ (by simp; omega) (Kn.cons rfl (Kn.cons rfl (Kn.cons rfl (Kn.cons rfl (Kn.cons rfl (Kn.cons rfl (Kn.cons rfl (Kn.cons rfl (Kn.cons rfl (Kn.cons rfl (Kn.cons rfl Kn.nil))))))))))) ?_
        simp only
        rw [hitk k hkl]
        exact HLe.drop 1 rfl
      · have hke : k = x.run := by simp at h4; omega
        subst hke
        refine jA8 ?_
        repeat (with_reducible refine nTE ?_)
        with_reducible refine nBE ?_
        refine nx_cut u (by rw [List.length_append, hil]; exact hu) (Kn.cons rfl (Kn.cons rfl (Kn.cons rfl (Kn.cons rfl (Kn.cons rfl (Kn.cons rfl (Kn.cons rfl Kn.nil))))))) ?_
        simp only
        rw [List.take_of_length_le (Nat.le_of_eq hil)]
        exact HLe.refl _
    intro u hu
    repeat (with_reducible refine nBN ?_)
    with_reducible refine nN ?_
    refine aG (fun Z hZ => ?_)
    refine jA7 rfl rfl ((i + 1 : Nat) : Int) (by rw [IntWalk.i64_in _ (by omega)]; omega) rfl ?_
    refine sM rfl rfl <| sN (hZ _ _ ?_)
    refine nF [(1, _), (4, _), (7, _), (8, _), (20, _), (21, _), (22, _)] (Kn.cons rfl (Kn.cons rfl (Kn.cons rfl (Kn.cons rfl (Kn.cons rfl (Kn.cons rfl (Kn.cons rfl (Kn.nil)))))))) ?_
    exact jB4 (i + 1, many + x.run, u, X ++ itsOf x data) ⟨hlt, hu, by rw [List.length_append, hil, hXl], w3, hqq⟩ (by simp; omega) (Kn.cons rfl (Kn.cons rfl (Kn.cons rfl (Kn.cons rfl (Kn.cons rfl (Kn.cons rfl (Kn.cons rfl Kn.nil))))))) (HLe.drop 1 rfl)
  · refine jA8 ?_
    repeat (with_reducible refine nTE ?_)
    with_reducible refine nBE ?_
    with_reducible refine nN ?_
    have hke : i = L.length := by simp at h2; omega
    subst hke
    rw [List.drop_length, mbR] at hqq
    rw [← hqq] at hokM ⊢
    simp only at hokM ⊢
    obtain ⟨q1, q2⟩ := of_perm hokM (List.Perm.refl X)
    have hso : sortI X = X := by
      unfold ofL at q2
      rw [if_pos q1] at q2
      exact q2
    obtain ⟨AX, cX, rfl, hAX, hleX⟩ := hv.ro
    have hof := cof_fn AX cX X (roE AX (jB0 X)) hAX.arg (fun _ => rfl) (Ro.roE _ _) (by omega)
    rw [q1, hso] at hof
    refine aR fun Z hZ => sM rfl rfl ?_
    refine sx_callVU (roE AX (jB0 X)) hof rfl ((row_view hleX (_ :: T) _ _ _).trans (HLe.refl _)) (Ro.roE _ _) rfl ?_
    rintro v H' ⟨u, rfl, ⟨_, hu, rfl⟩ | ⟨hbad, _⟩⟩
    rotate_left
    exact absurd rfl hbad
    rw [jF8]
    refine jE0 _ (HLe.swap _ _) ?_
    obtain ⟨A2, c2, rfl, _⟩ := hu.form
    refine sX rfl rfl rfl <| sX rfl rfl rfl ?_
    first | refine sS 0 rfl rfl rfl tyS27 (by simp only [Value.cells]; rfl) rfl rfl (by simp only [List.length_cons, List.length_nil, Nat.zero_add]; rfl) (by simp only [List.take_zero, List.drop_succ_cons, List.drop_zero, List.nil_append, List.append_nil, List.length_cons, List.length_nil, Nat.zero_add, wrV]; rfl) rfl ?_
    refine sA rfl rfl <| sN (hZ _ _ ?_)
    refine aF [(4, _), (5, _)] (Kn.cons rfl (Kn.cons rfl (Kn.nil))) ?_
    refine aE ?_
    exact jD2 (rowE _ 62 2 (jB0 X)) rfl (ResOk.cell 0 rfl rfl tyA27 tyS27 rfl) rfl (HLe.sub (List.sublist_append_right (_ :: (T ++ _)) _)) ⟨_, rfl, hu, rfl⟩
end Go.Proofs.YtkojkeabelckjaaGreatDoor.V
end
