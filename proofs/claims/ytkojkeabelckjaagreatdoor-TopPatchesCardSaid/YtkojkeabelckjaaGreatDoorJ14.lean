/- Walks and plain laws for this claim (texts Gdf2, joined). Each theorem states its own conditions. -/
import Derived.Test.YtkojkeabelckjaaGreatDoorJ13

set_option linter.all false
namespace Go.Proofs.YtkojkeabelckjaaGreatDoor
open Go.RowKit
def St (A : Option Addr) (c : Nat) (O0 : List It) (u : Value) (O : List It) (Hp : Heap) : Prop := (RowOk u O.length ∧ Hp = rowE u 62 2 (jA0 O)) ∨ (u = .slice A O0.length c ∧ O = O0 ∧ Hp = [])
section
variable {N : Frm} {w0 : World} {Wr : List Nat} {ops : Array Oper} {rest : List Oper} {fr : Fr} {H : Heap} {Z : Fr → Heap → Prop} {d ty : Nat} {pos : String} {after : Array Edge} {xs : List Operand} {ts : Array TypeId} {A : Option Addr} {c : Nat}
theorem sx_gmake {O0 O : List It} {u : Value} {Hp : Heap} (X : Heap) (x : Chg) (hSt : St A c O0 u O Hp) (hok : ChOk O) (hA : SlIn A O0.length c) (hX : (roE A (jA0 O0)).Sublist X) (hx : evs fr xs = some [x.val, .agg #[u]]) (hN : Nat.ble (d + 1) N.n = true)
  (h : ∀ u' Hp', St A c O0 u' (mkO x O) Hp' → sx Tryz.prog N w0 Wr ops rest ((d, .tuple #[.agg #[u'], iq (mkE x O)]) :: fr) (X ++ Hp') Z) :
  sx Tryz.prog N w0 Wr ops ((⟨some d, .call { callee := .value (.func 30), args := xs.toArray, argTypes := ts }, ty, pos, after, none⟩ : Oper) :: rest) fr (X ++ Hp) Z := by
 rcases hSt with ⟨hu, rfl⟩ | ⟨rfl, rfl, rfl⟩
 ·obtain ⟨A1, c1, rfl, _⟩ := hu.form
  exact sx_callRowW (fun u => .tuple #[.agg #[u], iq (mkE x O)]) X hu (HLe.refl _) (fun h1 => gmake_fn A1 c1 O x h1 hok) hx hN (fun _ => ⟨rfl, rfl⟩) (fun hp => by rw [mk_same hp]; exact ⟨rfl, rfl⟩) fun u hu' _ => h u _ (.inl ⟨hu', rfl⟩)
 ·refine sx_callVU (roE A (jA0 O)) (gmake_fn A c O x hA hok) hx (HLe.sub (hX.trans (List.sublist_append_left _ _))) (Ro.roE _ _) hN ?_
  rintro v H' ⟨u, rfl, ⟨hp, hu, rfl⟩ | ⟨hp, rfl, rfl⟩⟩
  ·rw [jE4]
   refine jC1 (X ++ rowE u 62 2 (jA0 (mkO x O))) ((HLe.swap _ _).trans (HLe.sub (List.Sublist.append_left (List.sublist_append_left _ _) _))) (h u _ (.inl ⟨hu, rfl⟩))
  ·exact h _ _ (.inr ⟨rfl, mk_same hp, rfl⟩)
end
theorem app_step {O : List It} {seen : List Nat} {x : Chg} {r : List Chg} : appR O seen (x :: r) = if x.old = x.new then (2, O) else if x.id ∈ seen then (22, O) else if mkE x O = 0 then appR (mkO x O) (seen ++ [x.id]) r else (mkE x O, O) := rfl
theorem gapply_fn (A : Option Addr) (c : Nat) (O : List It) (hA : SlIn A O.length c) (hok : ChOk O) (B : Option Addr) (d : Nat) (L : List Chg) (U : Heap) (hB : jH1 B L.length) (hU : 0 < L.length → U = roE B (gcells L)) (hro : Ro U) (hL : L.length ≤ 100000) :
  Fn Tryz.prog 11 [chV A O.length c, .slice B L.length d] (roE A (jA0 O) ++ U) fun v H' => ∃ u, v = .tuple #[.agg #[u], iq (appE O L)] ∧ St A c O u (appO O L) H' := by
 refine Fn.enter (N := 48) Tryz.func11 rfl (by kernel_rfl) rfl (fun w0 => ?_)
 refine aR (fun Z hZ => ?_)
 refine jC3 rfl rfl rfl (fun g1 => ?_)
 refine sAl tyZ27 rfl (fun g2 => ?_)
 refine sA rfl rfl <| sN (hZ _ _ ?_)
 refine aF [(1, _), (2, _), (4, _)] (kR rfl) ?_
 refine aR (fun Z hZ => ?_)
 refine sLA 1 rfl rfl tyA27 tyS27 rfl (by simp only [qS, Value.cells]; rfl) rfl ?_
 refine sAl tyZ27 rfl (fun g3 => ?_)
 refine sS 0 rfl rfl rfl tyS27 (by simp only [Value.cells]; rfl) rfl rfl rfl (by simp only [qS, wrV]; rfl) (by simp only [List.set_cons_zero]; rfl) ?_
 refine sN (hZ _ _ ?_)
 refine aF [(1, _), (2, _), (4, _), (6, _)] (kR rfl) ?_
 refine aR (fun Z hZ => ?_)
 refine sx_makeMap rfl (fun k : Nat => uq k) (fun n : Nat => iq n) (fun b => ?_)
 refine sA rfl rfl <| sN (hZ _ _ ?_)
 refine aF [(1, _), (2, _), (4, _), (6, _), (7, _)] (kR rfl) ?_
 refine aS ?_
 refine aR fun Z hZ => sM rfl rfl ?_
 refine jD9 Tryz.underlying35 rfl rfl ?_
 refine sM rfl rfl <| sN (hZ _ _ ?_)
 refine aF [(2, _), (4, _), (6, _), (7, _), (13, _), (14, _), (15, _)] (kR rfl) ?_
 refine aB ?_
 refine jB6 (ι := Nat × Value × List It × Heap × List (Nat × Nat)) (fun s => [(2, ptr g1 0), (4, ptr g2 0), (6, ptr g3 0), (7, .map (some b)), (13, .slice B L.length d), (14, iq (L.length : Nat)), (15, iq (s.1 : Nat))])
  (fun s => mapE (fun k : Nat => uq k) (fun n : Nat => iq n) b s.2.2.2.2 :: .own g3 27 [s.2.1] :: .own g2 27 [.slice none 0 0] :: .own g1 27 [.slice A O.length c] :: ((roE A (jA0 O) ++ U) ++ s.2.2.2.1))
  (fun s => s.1 ≤ L.length ∧ ChOk s.2.2.1 ∧ St A c O s.2.1 s.2.2.1 s.2.2.2.1 ∧ CntOk s.2.2.2.2 ((L.take s.1).map Chg.id) ∧ appR s.2.2.1 ((L.take s.1).map Chg.id) (L.drop s.1) = appR O [] L) (fun s => L.length - s.1) (0, .slice A O.length c, O, [], []) ⟨by simp, hok, .inr ⟨rfl, rfl, rfl⟩, fun k => by simp [aget], by simp⟩ (kR rfl) (by rw [List.append_nil]; exact HLe.refl _) ?_
 rintro ⟨i, u, O1, Hp, M⟩ ⟨hi, hok1, hSt, hM, hq⟩
 simp only at hi hok1 hSt hM hq
 refine aR (fun Z hZ => ?_)
 refine jC4 rfl rfl rfl ?_
 refine sN (hZ _ _ ?_)
 refine aF [(2, _), (4, _), (6, _), (7, _), (13, _), (14, _), (15, _), (16, _)] (kR rfl) ?_
 refine aS (aC rfl (fun h => ?_) (fun h => ?_))
 ·have hlt : i < L.length := by simpa using h
  have hx := chAt_at hlt
  obtain ⟨x, hxe⟩ : ∃ x, chAt L i = x := ⟨_, rfl⟩
  rw [hxe] at hx
  have hdr : L.drop i = x :: L.drop (i + 1) := by rw [List.drop_eq_getElem_cons hlt]; congr 1; exact (List.getElem?_eq_some_iff.1 hx).2
  have htk : (L.take (i + 1)).map Chg.id = (L.take i).map Chg.id ++ [x.id] := by rw [List.take_add_one, hx]; simp
  obtain ⟨seen, hseen⟩ : ∃ seen, (L.take i).map Chg.id = seen := ⟨_, rfl⟩
  rw [hseen] at hM htk hq
  rw [hdr, app_step, ← htk] at hq
  obtain ⟨n, hn⟩ : ∃ n, (if x.id ∈ seen then 1 else 0 : Nat) = n := ⟨_, rfl⟩
  have hget := cnt_get hM x.id
  rw [hn] at hget
  have hn1 : n ≤ 1 := by rw [← hn]; split <;> omega
  obtain ⟨g, o, rfl⟩ := hB (by omega)
  obtain rfl := hU (by omega)
  have herr : ∀ e, 0 < e → (appR O [] L).1 = e → appE O L = e ∧ appO O L = O := fun e he h => ⟨h, by unfold appO appE; rw [h, if_neg (by omega)]⟩
  refine jA8 (mapE (fun k : Nat => uq k) (fun n : Nat => iq n) b M :: .own g3 27 [u] :: .own g2 27 [.slice none 0 0] :: .own g1 27 [.slice A O.length c] :: .ro g o (gcells L) :: (roE A (jA0 O) ++ Hp)) (fun _ _ _ hw => hw.perm (by
   refine List.Perm.cons _ (List.Perm.cons _ (List.Perm.cons _ (List.Perm.cons _ ?_)))
   rw [List.append_assoc]
   exact List.perm_middle)) ?_
  refine aK ?_
  with_reducible refine nN ?_
  refine aS (aB ?_)
  refine aR (fun Z hZ => ?_)
  refine jA6 (o + i * 3) Tryz.underlying35 tyS87 rfl rfl (by omega) (by simp) rfl ?_
  refine jD5 4 rfl rfl (i * 3) rfl tyA87 tyS87 (gcells_all hx) rfl ?_
  refine sAl tyZ87 rfl (fun g4 => ?_)
  refine sS 0 rfl rfl rfl tyS87 (by simp only [Value.cells]; rfl) rfl rfl rfl (by simp only [qS, Nat.reduceAdd, wrV]; rfl) (by simp only [List.set_cons_zero]; rfl) ?_
  refine sN (hZ _ _ ?_)
  refine aF [(2, _), (4, _), (6, _), (7, _), (9, _), (13, _), (14, _), (15, _)] (kR rfl) ?_
  refine aS ?_
  refine aR (fun Z hZ => ?_)
  refine sFA rfl tyF87_1 (by simp only [Nat.zero_add]; rfl) rfl ?_
  refine sL 0 rfl rfl tyA9 tyS9 rfl rfl ?_
  refine sFA rfl tyF87_2 (by simp only [Nat.zero_add]; rfl) rfl ?_
  refine sL 0 rfl rfl tyA9 tyS9 rfl rfl ?_
  refine sx_seql rfl rfl rfl ?_
  refine sN (hZ _ _ ?_)
  refine aF [(2, _), (4, _), (6, _), (7, _), (9, _), (13, _), (14, _), (15, _), (23, _)] (kR rfl) ?_
  refine aC rfl (fun h1 => ?_) (fun h1 => ?_)
  ·have h1' : x.old = x.new := by simpa using h1
   rw [if_pos h1'] at hq
   obtain ⟨e1, e2⟩ := herr 2 (by decide) (by rw [← hq])
   rw [e1, e2]
   refine aR (fun Z hZ => ?_)
   refine sLA 4 rfl rfl tyA27 tyS27 rfl (by simp only [qS]; rfl) rfl ?_
   refine sS 3 rfl rfl rfl tyS27 (by simp only [Value.cells]; rfl) rfl rfl rfl (by simp only [qS, wrV]; rfl) (by simp only [qS]; rfl) ?_
   refine sA rfl rfl <| sN (hZ _ _ ?_)
   refine aF [(4, _), (5, _)] (kR rfl) ?_
   refine aE ?_
   repeat (with_reducible (first | refine nTR ?_ | refine nBR ?_))
   exact jB4 [] rfl (ResOk.cell 3 rfl rfl tyA27 tyS27 rfl) rfl (HLe.sub (List.nil_sublist _)) ⟨_, rfl, .inr ⟨rfl, rfl, rfl⟩⟩
  have h1' : ¬ x.old = x.new := by simpa using h1
  rw [if_neg h1'] at hq
  refine aK ?_
  with_reducible refine nN ?_
  refine aS ?_
  refine aR fun Z hZ => sM rfl rfl ?_
  refine sFA rfl tyF87_0 (by simp only [Nat.add_zero]; rfl) rfl ?_
  refine sL 0 rfl rfl tyA45 tyS45 rfl rfl ?_
  refine sx_lookup 1 keyU Tryz.underlying85 zeroI x.id _ rfl rfl rfl hget rfl ?_
  refine jB8 rfl rfl ((n + 1 : Nat) : Int) (by rw [IntWalk.i64_in _ (by omega)]; omega) rfl ?_
  refine sx_mapUpdate 1 keyU Tryz.underlying85 x.id (n + 1) rfl rfl rfl rfl rfl ?_
  refine sN (hZ _ _ ?_)
  refine aF [(2, _), (4, _), (6, _), (7, _), (9, _), (13, _), (14, _), (15, _)] (kR rfl) ?_
  refine aR fun Z hZ => sM rfl rfl ?_
  refine sFA rfl tyF87_0 (by simp only [Nat.add_zero]; rfl) rfl ?_
  refine sL 0 rfl rfl tyA45 tyS45 rfl rfl ?_
  refine sx_lookup 1 keyU Tryz.underlying85 zeroI x.id _ rfl rfl rfl (look_put M x.id (n + 1)) rfl ?_
  refine jF3 rfl rfl rfl ?_
  refine sN (hZ _ _ ?_)
  refine aF [(2, _), (4, _), (6, _), (7, _), (9, _), (13, _), (14, _), (15, _), (34, _)] (kR rfl) ?_
  refine aC rfl (fun h2 => ?_) (fun h2 => ?_)
  ·have hin : x.id ∈ seen := by
    have : n = 1 := by simp at h2; omega
    rw [this] at hn
    split at hn
    ·assumption
    ·omega
   rw [if_pos hin] at hq
   obtain ⟨e1, e2⟩ := herr 22 (by decide) (by rw [← hq])
   rw [e1, e2]
   refine aR (fun Z hZ => ?_)
   refine sLA 4 rfl rfl tyA27 tyS27 rfl (by simp only [qS]; rfl) rfl ?_
   refine sS 3 rfl rfl rfl tyS27 (by simp only [Value.cells]; rfl) rfl rfl rfl (by simp only [qS, wrV]; rfl) (by simp only [qS]; rfl) ?_
   refine sA rfl rfl <| sN (hZ _ _ ?_)
   refine aF [(4, _), (5, _)] (kR rfl) ?_
   refine aE ?_
   repeat (with_reducible (first | refine nTR ?_ | refine nBR ?_))
   exact jB4 [] rfl (ResOk.cell 3 rfl rfl tyA27 tyS27 rfl) rfl (HLe.sub (List.nil_sublist _)) ⟨_, rfl, .inr ⟨rfl, rfl, rfl⟩⟩
  have hin : x.id ∉ seen := fun hc => by
   rw [if_pos hc] at hn
   simp at h2
   omega
  have hn0 : n = 0 := by rw [if_neg hin] at hn; omega
  subst hn0
  rw [if_neg hin] at hq
  have hM2 : CntOk (aput M x.id 1) ((L.take (i + 1)).map Chg.id) := fun k => by
   rw [aget_put, htk, hM k]
   by_cases hk : x.id = k
   ·subst hk
    simp
   ·have hk' : ¬ k = x.id := fun h => hk h.symm
    simp [hk, hk']
  refine aK ?_
  with_reducible refine nN ?_
  refine aR fun Z hZ => sA rfl rfl <| sN (hZ _ _ ?_)
  refine aF [(2, _), (4, _), (6, _), (7, _), (9, _), (13, _), (14, _), (15, _)] (kR rfl) ?_
  obtain ⟨e, he⟩ : ∃ e, mkE x O1 = e := ⟨_, rfl⟩
  have hok2 := mk_ok hok1 x
  obtain ⟨O2, hO2⟩ : ∃ O2, mkO x O1 = O2 := ⟨_, rfl⟩
  rw [he, hO2] at hq
  rw [hO2] at hok2
  refine jA8 ((.own g4 87 x.cells :: mapE (fun k : Nat => uq k) (fun n : Nat => iq n) b (aput M x.id 1) :: .own g3 27 [u] :: .own g2 27 [.slice none 0 0] :: .own g1 27 [.slice A O.length c] :: .ro g o (gcells L) :: roE A (jA0 O)) ++ Hp) (HLe.refl _) ?_
  refine aR (fun Z hZ => ?_)
  refine sLA 0 rfl rfl tyA87 tyS87 rfl (by simp only [qS]; rfl) rfl ?_
  refine sLA 2 rfl rfl tyA27 tyS27 rfl (by simp only [qS]; rfl) rfl ?_
  refine sx_gmake (.own g4 87 x.cells :: mapE (fun k : Nat => uq k) (fun n : Nat => iq n) b (aput M x.id 1) :: .own g3 27 [u] :: .own g2 27 [.slice none 0 0] :: .own g1 27 [.slice A O.length c] :: .ro g o (gcells L) :: roE A (jA0 O)) x hSt hok1 hA (.cons _ (.cons _ (.cons _ (.cons _ (.cons _ (.cons _ (List.Sublist.refl _))))))) rfl rfl (fun u2 Hp2 hSt2 => ?_)
  rw [he]
  rw [hO2] at hSt2
  obtain ⟨A2, n2, c2, rfl⟩ : ∃ A2 n2 c2, u2 = .slice A2 n2 c2 := by rcases hSt2 with ⟨hu, _⟩ | ⟨rfl, _⟩; obtain ⟨A2, c2, rfl, _⟩ := hu.form; exact ⟨_, _, _, rfl⟩; exact ⟨_, _, _, rfl⟩
  refine sM rfl rfl <| sX rfl rfl rfl <| sX rfl rfl rfl ?_
  refine sS 2 rfl rfl rfl tyS27 (by simp only [Value.cells]; rfl) rfl rfl rfl (by simp only [qS, wrV]; rfl) rfl ?_
  refine sA rfl rfl <| sN (hZ _ _ ?_)
  refine aF [(2, _), (4, _), (6, _), (7, _), (10, _), (13, _), (14, _), (15, _)] (kR rfl) ?_
  refine aR fun Z hZ => sM rfl rfl ?_
  refine jE5 rfl rfl rfl ?_
  refine sN (hZ _ _ ?_)
  refine aF [(2, _), (4, _), (6, _), (7, _), (10, _), (13, _), (14, _), (15, _), (43, _)] (kR rfl) ?_
  refine aC rfl (fun h3 => ?_) (fun h3 => ?_)
  ·have he' : ¬ e = 0 := by simp at h3; omega
   rw [if_neg he'] at hq
   obtain ⟨e1, e2⟩ := herr e (by omega) (by rw [← hq])
   rw [e1, e2]
   refine aR (fun Z hZ => ?_)
   refine sLA 4 rfl rfl tyA27 tyS27 rfl (by simp only [qS]; rfl) rfl ?_
   refine sM rfl rfl ?_
   refine sS 3 rfl rfl rfl tyS27 (by simp only [Value.cells]; rfl) rfl rfl rfl (by simp only [qS, wrV]; rfl) rfl ?_
   refine sA rfl rfl <| sN (hZ _ _ ?_)
   refine aF [(4, _), (5, _)] (kR rfl) ?_
   refine aE ?_
   repeat (with_reducible (first | refine nTR ?_ | refine nBR ?_))
   exact jB4 [] rfl (ResOk.cell 3 rfl rfl tyA27 tyS27 rfl) rfl (HLe.sub (List.nil_sublist _)) ⟨_, rfl, .inr ⟨rfl, rfl, rfl⟩⟩
  have he' : e = 0 := by simp at h3; omega
  rw [if_pos he'] at hq
  refine aK ?_
  repeat (with_reducible refine nBN ?_)
  with_reducible refine nN ?_
  refine aG (fun Z hZ => ?_)
  refine jB8 rfl rfl ((i + 1 : Nat) : Int) (by rw [IntWalk.i64_in _ (by omega)]; omega) rfl ?_
  refine sM rfl rfl <| sN (hZ _ _ ?_)
  refine nF [(2, _), (4, _), (6, _), (7, _), (13, _), (14, _), (15, _)] (kR rfl) ?_
  exact jB5 (i + 1, .slice A2 n2 c2, O2, Hp2, aput M x.id 1) ⟨by show i + 1 ≤ _; omega, hok2, hSt2, hM2, hq⟩ (by simp; omega) (kR rfl) (fun _ _ _ hw => (hw.sub (List.sublist_cons_self _ _)).perm (by
   refine List.Perm.cons _ (List.Perm.cons _ (List.Perm.cons _ (List.Perm.cons _ ?_)))
   show (Ent.ro g o (gcells L) :: (roE A (jA0 O) ++ Hp2)).Perm ((roE A (jA0 O) ++ [Ent.ro g o (gcells L)]) ++ Hp2)
   rw [List.append_assoc]
   exact List.perm_middle.symm))
 ·refine jB1 ?_
  repeat (with_reducible refine nTE ?_)
  with_reducible refine nBE ?_
  with_reducible refine nN ?_
  have hke : i = L.length := by simp at h; omega
  subst hke
  rw [List.drop_length, appR] at hq
  have e0 : appE O L = 0 := by unfold appE; rw [← hq]
  have eO : appO O L = O1 := by unfold appO; rw [if_pos e0, ← hq]
  rw [e0, eO]
  obtain ⟨A2, n2, c2, rfl⟩ : ∃ A2 n2 c2, u = .slice A2 n2 c2 := by
   rcases hSt with ⟨hu, _⟩ | ⟨rfl, _⟩
   ·obtain ⟨A2, c2, rfl, _⟩ := hu.form; exact ⟨_, _, _, rfl⟩
   ·exact ⟨_, _, _, rfl⟩
  refine aR (fun Z hZ => ?_)
  refine sLA 1 rfl rfl tyA27 tyS27 rfl (by simp only [qS]; rfl) rfl ?_
  refine sS 2 rfl rfl rfl tyS27 (by simp only [Value.cells]; rfl) rfl rfl rfl (by simp only [qS, wrV]; rfl) (by simp only [qS]; rfl) ?_
  refine sA rfl rfl <| sN (hZ _ _ ?_)
  refine aF [(4, _), (5, _)] (kR rfl) ?_
  refine aE ?_
  exact jB4 Hp rfl (ResOk.cell 2 rfl rfl tyA27 tyS27 rfl) rfl (HLe.sub (.cons _ (.cons _ (.cons _ (.cons _ (List.sublist_append_right _ _)))))) ⟨_, rfl, hSt⟩
end Go.Proofs.YtkojkeabelckjaaGreatDoor
namespace Go.Proofs.YtkojkeabelckjaaGreatDoor
open Go.RowKit
end Go.Proofs.YtkojkeabelckjaaGreatDoor
namespace Go.Proofs.YtkojkeabelckjaaGreatDoor
open Go.RowKit
end Go.Proofs.YtkojkeabelckjaaGreatDoor
namespace Go.Proofs.YtkojkeabelckjaaGreatDoor
open Go.RowKit
set_option maxRecDepth 100000
section
variable {N : Frm} {w0 w : World} {Wr : List Nat} {ops : Array Oper} {rest : List Oper} {fr : Fr} {H : Heap} {Z : Fr → Heap → Prop} {d ty : Nat} {pos : String} {after : Array Edge} {xs : List Operand} {ts : Array TypeId} {A B : Option Addr} {c c2 : Nat}
theorem sx_toRo {l : List Oper} {v : Value} {n : Nat} {t : TypeId} {size : Nat} {ys : List Value} (frf : Value → Fr) (hv : RowOk v n) (h : ∀ A' c', SlIn A' n c' → sx Tryz.prog N w0 Wr ops l (frf (.slice A' n c')) (H ++ roE A' ys) Z) :
  sx Tryz.prog N w0 Wr ops l (frf v) (rowE v t size ys ++ H) Z := by
 obtain ⟨A1, c1, rfl, h1, hle⟩ := hv.ro
 refine sx_pure (fun w hw => row_cap hv (fun x hx => List.mem_append_left _ hx) hw) (fun hc => ?_)
 refine jC1 (H ++ roE A1 ys) ((HLe.swap _ _).trans (hle [] H t size ys)) (h A1 c1 ⟨h1, hc.1, row_none hv⟩)
theorem sx_gapplyE (O : List It) (L : List Chg) (hA : SlIn A O.length c) (hok : ChOk O) (U : Heap) (hB : jH1 B L.length) (hU : 0 < L.length → U = roE B (gcells L)) (hro : Ro U) (h1 : (roE A (jA0 O)).Sublist H) (h2 : U.Sublist H) (hL : L.length ≤ 100000) (hx : evs fr xs = some [chV A O.length c, .slice B L.length c2]) (hN : Nat.ble (d + 1) N.n = true)
  (h : ∀ A' c', SlIn A' (appO O L).length c' → sx Tryz.prog N w0 Wr ops rest ((d, .tuple #[chV A' (appO O L).length c', iq (appE O L)]) :: fr) (H ++ roE A' (jA0 (appO O L))) Z) : sx Tryz.prog N w0 Wr ops ((⟨some d, .call { callee := .value (.func 11), args := xs.toArray, argTypes := ts }, ty, pos, after, none⟩ : Oper) :: rest) fr H Z :=
 sx_callVU (roE A (jA0 O) ++ U) (gapply_fn A c O hA hok B c2 L U hB hU hro hL) hx (HLe.two h1 h2 hro) ((Ro.roE _ _).append hro) hN (by
  rintro v H' ⟨u, rfl, ⟨hu, rfl⟩ | ⟨rfl, hO, rfl⟩⟩
  ·rw [jE4]
   exact sx_toRo (fun u => (d, .tuple #[.agg #[u], iq (appE O L)]) :: fr) hu h
  ·have := h A c (by rw [hO]; exact hA)
   rw [hO] at this
   exact jC1 _ (HLe.dup h1 (Ro.roE _ _)) this)
end
end Go.Proofs.YtkojkeabelckjaaGreatDoor
namespace Go.Proofs.YtkojkeabelckjaaGreatDoor
open Go.RowKit
set_option maxRecDepth 100000
end Go.Proofs.YtkojkeabelckjaaGreatDoor
namespace Go.Proofs.YtkojkeabelckjaaGreatDoor
open Go.RowKit
set_option maxRecDepth 100000
section
variable {N : Frm} {w0 w : World} {Wr : List Nat} {ops : Array Oper} {rest : List Oper} {fr : Fr} {H : Heap} {Z : Fr → Heap → Prop} {d ty : Nat} {pos : String} {after : Array Edge} {xs : List Operand} {ts : Array TypeId} {A B : Option Addr} {c c2 : Nat}
end
end Go.Proofs.YtkojkeabelckjaaGreatDoor
