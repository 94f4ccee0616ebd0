/- Walks and plain laws for this claim (texts Pl5, Pl6, SxRw, Mg5, Mg6, Mg7, joined). Each theorem states its own conditions. -/
import Derived.Test.YtkojkeabelckjaaGreatDoorJ14
import Derived.Test.YtkojkeabelckjaaGreatDoorJ09
import Derived.Test.YtkojkeabelckjaaGreatDoorJ13

section
set_option linter.all false
namespace Go.Proofs.YtkojkeabelckjaaGreatDoor.V
open Go.RowKit
set_option maxRecDepth 100000
theorem HLe.perm {A B : Heap} (h : B.Perm A) : HLe A B := fun _ _ _ hw => hw.perm h
theorem le_last {X T P B D R : Heap} (h : B.Perm (D ++ R)) : HLe ((X ++ (T ++ (P ++ D))) ++ R) (X ++ (T ++ (P ++ B))) := HLe.perm (by
  simp only [List.append_assoc]
  exact List.Perm.append_left X (List.Perm.append_left T (List.Perm.append_left P h)))
theorem le_lastB {X T P B D R : Heap} (h : B.Perm (D ++ R)) : HLe (X ++ (T ++ (P ++ B))) ((X ++ (T ++ (P ++ D))) ++ R) := HLe.perm (by
  simp only [List.append_assoc]
  exact List.Perm.append_left X (List.Perm.append_left T (List.Perm.append_left P h.symm)))
theorem le_mid {X T P B : Heap} : HLe ((X ++ (T ++ B)) ++ P) (X ++ (T ++ (P ++ B))) := HLe.perm (by
  simp only [List.append_assoc]
  exact List.Perm.append_left X (List.Perm.append_left T List.perm_append_comm))
theorem le_midB {X T P B : Heap} : HLe (X ++ (T ++ (P ++ B))) ((X ++ (T ++ B)) ++ P) := HLe.perm (by
  simp only [List.append_assoc]
  exact List.Perm.append_left X (List.Perm.append_left T List.perm_append_comm))
theorem le_fst {X T B : Heap} : HLe ((X ++ B) ++ T) (X ++ (T ++ B)) := HLe.perm (by
  simp only [List.append_assoc]
  exact List.Perm.append_left X List.perm_append_comm)
theorem le_fstB {X T B : Heap} : HLe (X ++ (T ++ B)) ((X ++ B) ++ T) := HLe.perm (by
  simp only [List.append_assoc]
  exact List.Perm.append_left X List.perm_append_comm)
theorem put_fn {gp : Nat} {ts : List Tx} {H : Heap} (h : PoolIs gp ts H) (s : Tx) (hfl : ts.flatten.length + s.length ≤ 1000000000) (hts : ts.length ≤ 1000000) (hs : s.length ≤ 65536) :
    Fn Tryz.prog 91 [ptr gp 0, .string (str s)] H fun v H' => v = ctV (ts.flatten.length, s.length) ∧ PoolIs gp (ts ++ [s]) H' := by
  have hfs := fnv_sum s (by omega)
  obtain ⟨q, hq⟩ : ∃ q, fnvQ s = q := ⟨_, rfl⟩
  rw [hq] at hfs
  obtain ⟨tv, pv, m, K, hH, htv, hpv, hm⟩ : ∃ tv pv m K, H = .own gp 185 [tv, pv, .map m] :: K ∧ RowOk tv ts.flatten.length ∧ RowOk pv ts.length ∧ ((m = none ∧ ts = [] ∧ tv = nilS ∧ pv = nilS ∧ K = []) ∨ ∃ gm B, m = some gm ∧ BkOk ts B ∧ K = plK gm ts B tv pv) := by
    rcases h with ⟨rfl, rfl⟩ | ⟨gm, B, tv, pv, ⟨h1, h2, h3⟩, rfl⟩
    · exact ⟨nilS, nilS, none, [], rfl, RowOk.nil, RowOk.nil, .inl ⟨rfl, rfl, rfl, rfl, rfl⟩⟩
    · exact ⟨tv, pv, some gm, _, rfl, h2, h3, .inr ⟨gm, B, rfl, h1, rfl⟩⟩
  subst hH
  obtain ⟨At, ct, rfl, hAt⟩ := htv.form
  obtain ⟨n, hn⟩ : ∃ n, ts.flatten.length = n := ⟨_, rfl⟩
  have hn' : n ≤ 1000000000 := by omega
  refine Fn.enter (N := 66) Tryz.func91 rfl (by kernel_rfl) rfl (fun w0 => ?_)
  refine aR (fun Z hZ => ?_)
  refine sAl tyZ123 rfl (fun g1 => ?_)
  refine sN (hZ _ _ ?_)
  refine aF [(0, _), (1, _), (4, _)] (Kn.cons rfl (Kn.cons rfl (Kn.cons rfl (Kn.nil)))) ?_
  rw [hn] at htv hfl ⊢
  refine aR fun Z hZ => sM rfl rfl ?_
  refine jB1 rfl rfl ?_
  refine sFA rfl tyF185_0 (by simp only [Nat.add_zero]; rfl) rfl ?_
  refine sL 1 rfl rfl tyA132 tyS132 rfl rfl ?_
  refine jE7 Tryz.underlying132 rfl rfl ?_
  refine jA6 Tryz.underlying3 Tryz.underlying45 rfl ((n : Nat) : Int) (by rw [IntWalk.u64_in _ (by omega)]) rfl ?_
  refine sM rfl rfl ?_
  refine jF3 Tryz.underlying9 rfl rfl ?_
  refine jA6 Tryz.underlying3 Tryz.underlying112 rfl ((s.length : Nat) : Int) (by rw [IntWalk.u32_in _ (by omega)]) rfl ?_
  refine jB3 tyZ123 tyP123 rfl rfl (by simp only [List.take_succ_cons, List.take_zero, List.drop_succ_cons, List.drop_zero, List.cons_append, List.nil_append, List.append_nil, List.length_cons, List.length_nil, Nat.reduceAdd, Nat.zero_add, Value.cells, wrV]; rfl) rfl ?_
  refine sAl tyZ123 rfl (fun g2 => ?_)
  refine sS 0 rfl rfl rfl tyS123 (by simp only [Value.cells]; rfl) rfl rfl rfl (by simp only [List.take_zero, List.drop_succ_cons, List.drop_zero, List.nil_append, List.append_nil, List.length_cons, List.length_nil, Nat.reduceAdd, Nat.zero_add, wrV]; rfl) (by simp only [List.set_cons_zero]; rfl) ?_
  refine sN (hZ _ _ ?_)
  refine aF [(0, _), (1, _), (4, _), (5, _)] (Kn.cons rfl (Kn.cons rfl (Kn.cons rfl (Kn.cons rfl (Kn.nil))))) ?_
  refine awp_cut (ι := Nat × List Bk) (fun _ => [(0, ptr gp 0), (1, .string (str s)), (4, ptr g1 0), (5, ptr g2 0)]) (fun x => .own g2 123 [uq n, wq4 s.length] :: .own g1 123 [uq 0, wq4 0] :: .own gp 185 [.slice At n ct, pv, .map (some x.1)] :: plK x.1 ts x.2 (.slice At n ct) pv) (fun x => BkOk ts x.2) ?_ ?_
  · skip
    refine aR fun Z hZ => sM rfl rfl ?_
    refine jB1 rfl rfl ?_
    refine sFA rfl tyF185_2 (by simp only [Nat.zero_add]; rfl) rfl ?_
    refine sL 2 rfl rfl tyA183 tyS183 rfl rfl ?_
    refine sx_mapNil Tryz.underlying183 rfl rfl ?_
    refine sN (hZ _ _ ?_)
    refine aF [(0, _), (1, _), (4, _), (5, _), (21, _)] (Kn.cons rfl (Kn.cons rfl (Kn.cons rfl (Kn.cons rfl (Kn.cons rfl (Kn.nil)))))) ?_
    refine aC rfl (fun h2 => ?_) (fun h2 => ?_)
    · obtain ⟨rfl, rfl, h3, rfl, rfl⟩ : m = none ∧ ts = [] ∧ Value.slice At n ct = nilS ∧ pv = nilS ∧ K = [] := by
        rcases hm with hm | ⟨gm, B, rfl, _⟩
        · rw [hn] at hm; exact hm
        · cases h2
      injection h3 with h4 h5 h6
      subst h4; subst h5; subst h6
      refine aG (fun Z hZ => ?_)
      refine sM rfl rfl ?_
      refine sx_makeMap rfl (fun k : Nat => uq k) (fun v : Value => v) (fun gm => ?_)
      refine jB1 rfl rfl ?_
      refine sFA rfl tyF185_2 (by simp only [Nat.zero_add]; rfl) rfl ?_
      refine sS1 3 rfl rfl rfl tyS183 rfl rfl (by simp only [List.set_cons_succ, List.set_cons_zero]; rfl) (by simp only [List.set_cons_succ, List.set_cons_zero]; rfl) ?_
      refine sN (hZ _ _ ?_)
      refine nF [(0, _), (1, _), (4, _), (5, _)] (Kn.cons rfl (Kn.cons rfl (Kn.cons rfl (Kn.cons rfl (Kn.nil))))) ?_
      exact nx_cut (gm, []) ⟨List.nodup_nil, fun b hb => absurd hb (by simp), fun k t ht => absurd ht (by simp)⟩ (Kn.cons rfl (Kn.cons rfl (Kn.cons rfl (Kn.cons rfl Kn.nil)))) (HLe.pick [1, 2, 3, 0] (by simp) rfl)
    · obtain ⟨gm, B, rfl, hok, rfl⟩ : ∃ gm B, m = some gm ∧ BkOk ts B ∧ K = plK gm ts B (.slice At n ct) pv := by
        rcases hm with ⟨rfl, _⟩ | hm
        · cases h2
        · rw [hn] at hm; exact hm
      refine aK ?_
      exact nx_cut (gm, B) hok (Kn.cons rfl (Kn.cons rfl (Kn.cons rfl (Kn.cons rfl Kn.nil)))) (HLe.refl _)
  rintro ⟨gm, B⟩ hok
  simp only at hok ⊢
  refine aR fun Z hZ => sM rfl rfl ?_
  refine sCP hfs rfl rfl ?_
  refine sA rfl rfl <| sN (hZ _ _ ?_)
  refine aF [(0, _), (1, _), (4, _), (5, _), (6, _)] (Kn.cons rfl (Kn.cons rfl (Kn.cons rfl (Kn.cons rfl (Kn.cons rfl (Kn.nil)))))) ?_
  have hget := bkV_get B q
  have hbo := bkV_ok B q
  have hbd := bkH_del B q
  have hokp := fun g c => BkOk.put hok s g c
  have hkl := (bkK_lt hok q).1
  rw [hq] at hokp
  obtain ⟨ks, hks⟩ : ∃ ks, bkK B q = ks := ⟨_, rfl⟩
  obtain ⟨vb, hvb⟩ : ∃ v, bkV B q = v := ⟨_, rfl⟩
  rw [hks] at hbo hbd hokp hkl
  rw [hvb] at hget hbo hbd
  clear hvb
  obtain ⟨Ab, cb, rfl, hAb⟩ := hbo.form
  obtain ⟨Ap, cp, rfl, hAp⟩ := hpv.form
  refine awf_seq_region _ [(0, true), (1, true), (2, true), (3, true), (4, true), (5, true), (6, true), (7, true), (8, true), (9, true), (10, true), (11, true), (12, true), (13, true), (14, true), (15, true), (16, false), (17, false)] 18 rfl mixed (by kernel_rfl) (HLe.pick [2, 3] (by simp) (by simp only [pick, List.filterMap_cons, List.filterMap_nil, List.getElem?_cons_succ, List.getElem?_cons_zero]; rfl)) (fun Z hZ => ?_)
  refine tw_p rfl ?_
  refine jC8 rfl rfl ?_
  refine vN ?_
  refine tw_p rfl ?_
  refine sv_nilCheck rfl rfl ?_
  refine vN ?_
  refine tw_p rfl ?_
  refine jC6 rfl tyF185_2 (by simp only [Nat.zero_add]; rfl) rfl ?_
  refine vN ?_
  refine tw_p rfl ?_
  refine jG7 0 rfl rfl tyA183 tyS183 rfl rfl ?_
  refine vN ?_
  refine tw_p rfl ?_
  refine jC8 rfl rfl ?_
  refine vN ?_
  refine tw_p rfl ?_
  refine jC8 rfl rfl ?_
  refine vN ?_
  refine tw_p rfl ?_
  refine sv_nilCheck rfl rfl ?_
  refine vN ?_
  refine tw_p rfl ?_
  refine jC6 rfl tyF185_2 (by simp only [Nat.zero_add]; rfl) rfl ?_
  refine vN ?_
  refine tw_p rfl ?_
  refine jG7 0 rfl rfl tyA183 tyS183 rfl rfl ?_
  refine vN ?_
  refine tw_p rfl ?_
  refine jC8 rfl rfl ?_
  refine vN ?_
  refine tw_p rfl ?_
  refine sv_lookup 1 keyU Tryz.underlying183 zeroIs q _ rfl rfl rfl hget rfl ?_
  refine vN ?_
  refine tw_p rfl ?_
  refine jC8 rfl rfl ?_
  refine vN ?_
  refine tw_p rfl ?_
  refine sv_nilCheck rfl rfl ?_
  refine vN ?_
  refine tw_p rfl ?_
  refine jC6 rfl tyF185_1 (by simp only [Nat.zero_add]; rfl) rfl ?_
  refine vN ?_
  refine tw_p rfl ?_
  refine jG7 0 rfl rfl tyA182 tyS182 rfl rfl ?_
  refine vN ?_
  refine tw_p rfl ?_
  refine sv_len Tryz.underlying182 rfl rfl ?_
  refine vN ?_
  refine tw_g rfl ?_
  refine sBS Tryz.underlying247 tyS3 tyZ3 rfl rfl rfl rfl (by simp only [List.take_zero, List.drop_succ_cons, List.drop_zero, List.nil_append, List.append_nil, List.length_cons, List.length_nil, Nat.zero_add, Value.cells, wrV, jG2, List.replicate_succ, List.replicate_zero, Nat.reduceMul, Nat.zero_mul]; rfl) rfl (fun g3 => ?_)
  refine sN ⟨HLe.pick [3, 4] (by simp) rfl, ?_⟩
  refine tw_g rfl ?_
  refine jD8 (xs := iqL ks) (_ :: _ :: _ :: _ :: bkE gm B :: (rowE _ 5 1 (bv ts.flatten) ++ (rowE _ 123 2 (jH5 (ctsF 0 ts)) ++ bkH (bkDel B q)))) elemInt rfl hbo (by simp) rfl (fun w hw => rd_own (i := 0) (xs := [iq (ts.length : Nat)]) rfl rfl hw) rfl (by show _ ≤ 9223372036854775807; omega) (by omega) (le_last (X := [_, _, _, _, _]) hbd) rfl (fun vb2 hvb2 => ?_)
  refine sN ⟨HLe.pick [3, 4] (by simp) rfl, ?_⟩
  refine tw_nil ?_
  refine sx_mapUpdate 4 keyU Tryz.underlying183 q vb2 rfl rfl rfl rfl rfl ?_
  refine sN (hZ _ _ ?_)
  refine aF [(0, _), (1, _), (4, _), (5, _)] (Kn.cons rfl (Kn.cons rfl (Kn.cons rfl (Kn.cons rfl (Kn.nil))))) ?_
  obtain ⟨g', c', rfl⟩ := hvb2.some (by omega)
  have hokB := hokp g' c'
  obtain ⟨b', hb'⟩ : ∃ b' : Bk, b' = ⟨q, g', c', ks ++ [ts.length]⟩ := ⟨_, rfl⟩
  have hkey : b'.key = q := by rw [hb']
  have hbv : b'.v = .slice (some ⟨g', 0, none⟩) (ks.length + 1) c' := by rw [hb']; show Value.slice _ (ks ++ [ts.length]).length _ = _; rw [List.length_append]; rfl
  have hbe : b'.e = .ob g' (RowP 3 1 (ks.length + 1) c' (iqL ks ++ [iq (ts.length : Nat)])) := by rw [hb']; show Ent.ob g' (RowP _ 1 (ks ++ [ts.length]).length c' (iqL (ks ++ [ts.length]))) = _; rw [List.length_append, iqL, List.map_append]; rfl
  have hMB : bkM (bkPut B b') = aput (bkM B) q (.slice (some ⟨g', 0, none⟩) (ks.length + 1) c') := by rw [bkM_put, hkey, hbv]
  have hHB := bkH_put B b'
  rw [hkey, hbe] at hHB
  rw [← hb'] at hokB
  refine jB5 (.own g2 123 [uq n, wq4 s.length] :: .own g1 123 [uq 0, wq4 0] :: .own gp 185 [.slice At n ct, .slice Ap ts.length cp, .map (some gm)] :: mapE (fun k : Nat => uq k) (fun v : Value => v) gm (aput (bkM B) q (.slice (some ⟨g', 0, none⟩) (ks.length + 1) c')) :: (rowE (.slice At n ct) 5 1 (bv ts.flatten) ++ (rowE (.slice Ap ts.length cp) 123 2 (jH5 (ctsF 0 ts)) ++ bkH (bkPut B b')))) ((HLe.drop 1 rfl).trans (le_lastB (X := [_, _, _, _, _]) hHB)) ?_
  rw [← hMB]
  refine awf_seq_region _ [(0, true), (1, true), (2, true), (3, true), (4, true), (5, true), (6, false), (7, false), (8, true), (9, true)] 10 rfl mixed (by kernel_rfl) (HLe.pick [0, 2] (by simp) (by simp only [pick, List.filterMap_cons, List.filterMap_nil, List.getElem?_cons_succ, List.getElem?_cons_zero]; rfl)) (fun Z hZ => ?_)
  refine tw_p rfl ?_
  refine jC8 rfl rfl ?_
  refine vN ?_
  refine tw_p rfl ?_
  refine jC8 rfl rfl ?_
  refine vN ?_
  refine tw_p rfl ?_
  refine sv_nilCheck rfl rfl ?_
  refine vN ?_
  refine tw_p rfl ?_
  refine jC6 rfl tyF185_1 (by simp only [Nat.zero_add]; rfl) rfl ?_
  refine vN ?_
  refine tw_p rfl ?_
  refine jG7 1 rfl rfl tyA182 tyS182 rfl rfl ?_
  refine vN ?_
  refine tw_p rfl ?_
  refine sv_loadA 0 rfl rfl tyA123 tyS123 rfl (by simp only [List.take_succ_cons, List.take_zero, List.drop_zero]; rfl) rfl ?_
  refine vN ?_
  refine tw_g rfl ?_
  refine sBS Tryz.underlying182 tyS123 tyZ123 rfl rfl rfl rfl (by simp only [List.take_zero, List.cons_append, List.nil_append, List.length_cons, List.length_nil, Nat.reduceAdd, Nat.zero_add, Value.cells, wrV, Nat.reduceMul, Nat.zero_mul]; rfl) rfl (fun g4 => ?_)
  refine sN ⟨HLe.pick [1, 3] (by simp) rfl, ?_⟩
  refine tw_g rfl ?_
  refine jD8 (xs := jH5 (ctsF 0 ts)) (_ :: _ :: _ :: _ :: bkE gm (bkPut B b') :: (rowE _ 5 1 (bv ts.flatten) ++ bkH (bkPut B b'))) elemCt rfl hpv (by rw [ctcells_len, ctsF_len]) rfl (fun w hw => rd_own (i := 0) (xs := ctC (n, s.length)) rfl rfl hw) rfl (by show _ ≤ 9223372036854775807; omega) (by omega) (le_mid (X := [_, _, _, _, _])) rfl (fun pv2 hpv2 => ?_)
  obtain ⟨gl2, cl2, rfl⟩ := hpv2.some (by omega)
  refine sN ⟨HLe.pick [1, 3] (by simp) rfl, ?_⟩
  refine tw_p rfl ?_
  refine sv_nilCheck rfl rfl ?_
  refine vN ?_
  refine tw_p rfl ?_
  refine jC6 rfl tyF185_1 (by simp only [Nat.zero_add]; rfl) rfl ?_
  refine vN ?_
  refine tw_nil ?_
  refine sS1 3 rfl rfl rfl tyS182 rfl rfl (by simp only [List.set_cons_succ, List.set_cons_zero]; rfl) rfl ?_
  refine sN (hZ _ _ ?_)
  refine aF [(0, _), (1, _), (4, _), (5, _)] (Kn.cons rfl (Kn.cons rfl (Kn.cons rfl (Kn.cons rfl (Kn.nil))))) ?_
  have hcs : ctsF 0 (ts ++ [s]) = ctsF 0 ts ++ [(n, s.length)] := by rw [ctsF_snoc, hn, Nat.zero_add]
  refine jB5 (.own g2 123 [uq n, wq4 s.length] :: .own g1 123 [uq 0, wq4 0] :: .own gp 185 [.slice At n ct, .slice (some ⟨gl2, 0, none⟩) (ts.length + 1) cl2, .map (some gm)] :: bkE gm (bkPut B b') :: (rowE (.slice At n ct) 5 1 (bv ts.flatten) ++ (rowE (.slice (some ⟨gl2, 0, none⟩) (ts.length + 1) cl2) 123 2 (jH5 (ctsF 0 ts) ++ ctC (n, s.length)) ++ bkH (bkPut B b')))) ((HLe.drop 1 rfl).trans (le_midB (X := [_, _, _, _, _]))) ?_
  refine aR fun Z hZ => sM rfl rfl <| sM rfl rfl ?_
  refine jB1 rfl rfl ?_
  refine sFA rfl tyF185_0 (by simp only [Nat.add_zero]; rfl) rfl ?_
  refine sL 2 rfl rfl tyA132 tyS132 rfl rfl ?_
  refine sM rfl rfl ?_
  refine sx_appendStr (l := ts.flatten) (m := s) (_ :: _ :: _ :: bkE gm (bkPut B b') :: (rowE _ 123 2 (jH5 (ctsF 0 ts) ++ ctC (n, s.length)) ++ bkH (bkPut B b'))) Tryz.underlying132 Tryz.underlying9 (by kernel_rfl) rfl (by rw [hn]; exact htv) rfl (by omega) (le_fst (X := [_, _, _, _])) rfl (fun tv2 htv2 => ?_)
  obtain ⟨At2, ct2, rfl, _⟩ := htv2.form
  refine jB1 rfl rfl ?_
  refine sFA rfl tyF185_0 (by simp only [Nat.add_zero]; rfl) rfl ?_
  refine sS1 2 rfl rfl rfl tyS132 rfl rfl (by simp only [List.set_cons_zero]; rfl) rfl ?_
  refine sN (hZ _ _ ?_)
  refine aF [(4, _), (5, _)] (Kn.cons rfl (Kn.cons rfl (Kn.nil))) ?_
  refine jB5 (.own g2 123 [uq n, wq4 s.length] :: .own g1 123 [uq 0, wq4 0] :: .own gp 185 [.slice At2 (ts.flatten ++ s).length ct2, .slice (some ⟨gl2, 0, none⟩) (ts.length + 1) cl2, .map (some gm)] :: bkE gm (bkPut B b') :: (rowE (.slice At2 (ts.flatten ++ s).length ct2) 5 1 (bv (ts.flatten ++ s)) ++ (rowE (.slice (some ⟨gl2, 0, none⟩) (ts.length + 1) cl2) 123 2 (jH5 (ctsF 0 ts) ++ ctC (n, s.length)) ++ bkH (bkPut B b')))) (le_fstB (X := [_, _, _, _])) ?_
  refine aR (fun Z hZ => ?_)
  refine sLA 0 rfl rfl tyA123 tyS123 rfl (by simp only [List.take_succ_cons, List.take_zero, List.drop_zero]; rfl) rfl ?_
  refine sS 1 rfl rfl rfl tyS123 (by simp only [Value.cells]; rfl) rfl rfl rfl (by simp only [List.take_zero, List.drop_succ_cons, List.drop_zero, List.nil_append, List.append_nil, List.length_cons, List.length_nil, Nat.reduceAdd, Nat.zero_add, wrV]; rfl) (by simp only [List.set_cons_succ, List.set_cons_zero]; rfl) ?_
  refine sN (hZ _ _ ?_)
  refine aF [(4, _)] (Kn.cons rfl (Kn.nil)) ?_
  refine aE ?_
  have hfl2 : (ts ++ [s]).flatten = ts.flatten ++ s := by simp
  refine jD4 _ rfl (ResOk.cell 1 rfl rfl tyA123 tyS123 rfl) (HLe.drop 2 rfl) ⟨rfl, .inr ⟨gm, bkPut B b', .slice At2 (ts.flatten ++ s).length ct2, .slice (some ⟨gl2, 0, none⟩) (ts.length + 1) cl2, ⟨hokB, ?_, ?_⟩, ?_⟩⟩
  · rw [hfl2]; exact htv2
  · rw [List.length_append]; exact hpv2
  · rw [plK, hfl2, hcs, ctcells_app]
    simp [jH5]
theorem pnew_fn : Fn Tryz.prog 47 [] [] fun v H' => ∃ g, v = ptr g 0 ∧ PoolIs g [] H' := by
  refine Fn.enter (N := 3) Tryz.func47 rfl (by kernel_rfl) rfl (fun w0 => ?_)
  refine aR fun Z hZ => sA rfl rfl <| sN (hZ _ _ ?_)
  refine aF [] (Kn.nil) ?_
  refine aR (fun Z hZ => ?_)
  refine jB3 tyZ185 tyP185 rfl rfl rfl rfl ?_
  refine jA5 rfl rfl rfl (fun g1 => ?_)
  refine sA rfl rfl <| sN (hZ _ _ ?_)
  refine aF [(0, _)] (Kn.cons rfl (Kn.nil)) ?_
  refine aE ?_
  exact jD4 _ rfl rfl (HLe.refl _) ⟨_, rfl, .inl ⟨rfl, rfl⟩⟩
structure TsOk (ts : List Tx) : Prop where
  nd : ts.Nodup
  ne : ∀ t ∈ ts, t ≠ []
def addT (ts : List Tx) (s : Tx) : List Tx := if s ∈ ts then ts else ts ++ [s]
def addC (ts : List Tx) (s : Tx) : Nat × Nat := (fdQ 0 ts s).getD (ts.flatten.length, s.length)
theorem addT_ok {ts : List Tx} {s : Tx} (h : TsOk ts) (hs : s ≠ []) : TsOk (addT ts s) := by
  unfold addT
  split
  · exact h
  · rename_i hn
    exact ⟨List.nodup_append.2 ⟨h.nd, by simp, fun a ha b hb => by rw [List.mem_singleton.1 hb]; exact fun e => hn (e ▸ ha)⟩, fun t ht => (List.mem_append.1 ht).elim (h.ne t) (fun ht => List.mem_singleton.1 ht ▸ hs)⟩
theorem add_fn {gp : Nat} {ts : List Tx} {H : Heap} (h : PoolIs gp ts H) (s : Tx) (hok : TsOk ts) (hfl : ts.flatten.length + s.length ≤ 1000000000) (hts : ts.length < 2048) (hs0 : s ≠ []) (hs : s.length ≤ 65536) :
    Fn Tryz.prog 49 [ptr gp 0, .string (str s)] H fun v H' => (∃ b, v = .tuple #[ctV (addC ts s), .bool b, iq (0 : Nat)]) ∧ PoolIs gp (addT ts s) H' := by
  have hfd := find_is h s hok.nd hok.ne (by omega) (by omega) (by omega)
  obtain ⟨c, b, hfv, hct, hcf⟩ : ∃ c b, fdV (fdQ 0 ts s) = .tuple #[ctV c, .bool b] ∧ (b = true → fdQ 0 ts s = some c) ∧ (b = false → fdQ 0 ts s = none) := by
    cases fdQ 0 ts s with
    | none => exact ⟨_, false, rfl, fun h => (by cases h), fun _ => rfl⟩
    | some c => exact ⟨c, true, rfl, fun _ => rfl, fun h => by cases h⟩
  rw [hfv] at hfd
  have hput := put_fn h s (by omega) (by omega) hs
  obtain ⟨tv, Ap, cp, m, K, hH⟩ : ∃ tv Ap cp m K, H = .own gp 185 [tv, .slice Ap ts.length cp, .map m] :: K := by
    rcases h with ⟨rfl, rfl⟩ | ⟨gm, B, tv, pv, ⟨h1, h2, h3⟩, rfl⟩
    · exact ⟨nilS, none, 0, none, [], rfl⟩
    · obtain ⟨Ap, cp, rfl, _⟩ := h3.form
      exact ⟨tv, Ap, cp, some gm, _, rfl⟩
  have hwr := h.wrs
  have hsl : 0 < s.length := List.length_pos_iff.2 hs0
  refine Fn.enter (N := 43) Tryz.func49 rfl (by kernel_rfl) rfl (fun w0 => ?_)
  refine aR (fun Z hZ => ?_)
  refine sAl tyZ123 rfl (fun g1 => ?_)
  refine sA rfl rfl <| sA rfl rfl <| sN (hZ _ _ ?_)
  refine aF [(0, _), (1, _), (4, _)] (Kn.cons rfl (Kn.cons rfl (Kn.cons rfl (Kn.nil)))) ?_
  refine aS (aB ?_)
  refine aR fun Z hZ => sM rfl rfl ?_
  refine sx_ptrNil Tryz.underlying117 rfl rfl ?_
  refine sA rfl rfl <| sN (hZ _ _ ?_)
  refine aF [(0, _), (1, _), (4, _), (10, _)] (Kn.cons rfl (Kn.cons rfl (Kn.cons rfl (Kn.cons rfl (Kn.nil))))) ?_
  refine aC rfl (fun h1 => ?_) (fun h1 => ?_)
  · cases h1
  refine aR fun Z hZ => sM rfl rfl ?_
  refine sx_seql rfl rfl rfl ?_
  refine sA rfl rfl <| sN (hZ _ _ ?_)
  refine aF [(0, _), (1, _), (4, _), (14, _)] (Kn.cons rfl (Kn.cons rfl (Kn.cons rfl (Kn.cons rfl (Kn.nil))))) ?_
  refine aC rfl (fun h2 => ?_) (fun h2 => ?_)
  · exact absurd (by simpa using h2) hs0
  refine aR fun Z hZ => sM rfl rfl ?_
  refine jF3 Tryz.underlying9 rfl rfl ?_
  refine jE3 rfl rfl rfl ?_
  refine sA rfl rfl <| sN (hZ _ _ ?_)
  refine aF [(0, _), (1, _), (4, _), (18, _)] (Kn.cons rfl (Kn.cons rfl (Kn.cons rfl (Kn.cons rfl (Kn.nil))))) ?_
  refine aC rfl (fun h3 => ?_) (fun h3 => ?_)
  · simp at h3; omega
  refine aK ?_
  repeat (with_reducible refine nBN ?_)
  with_reducible refine nN ?_
  refine aS ?_
  refine aR fun Z hZ => sM rfl rfl <| sM rfl rfl ?_
  refine jD9 H [_] hfd rfl (HLe.swap [_] H) rfl ?_
  rintro v H' ⟨rfl, rfl⟩
  rw [hwr.filter]
  refine jE0 _ (HLe.swap H' [_]) ?_
  refine sM rfl rfl <| sX rfl rfl rfl <| sX rfl rfl rfl ?_
  refine sAl tyZ123 rfl (fun g2 => ?_)
  refine sS 0 rfl rfl rfl tyS123 (by simp only [Value.cells]; rfl) rfl rfl rfl (by simp only [List.take_zero, List.drop_succ_cons, List.drop_zero, List.nil_append, List.append_nil, List.length_cons, List.length_nil, Nat.reduceAdd, Nat.zero_add, wrV]; rfl) (by simp only [List.set_cons_zero]; rfl) ?_
  refine sA rfl rfl <| sN (hZ _ _ ?_)
  refine aF [(0, _), (1, _), (4, _), (7, _), (8, _)] (Kn.cons rfl (Kn.cons rfl (Kn.cons rfl (Kn.cons rfl (Kn.cons rfl (Kn.nil)))))) ?_
  refine aR fun Z hZ => sM rfl rfl <| sN (hZ _ _ ?_)
  refine aF [(0, _), (1, _), (4, _), (7, _), (29, _)] (Kn.cons rfl (Kn.cons rfl (Kn.cons rfl (Kn.cons rfl (Kn.cons rfl (Kn.nil)))))) ?_
  refine aC rfl (fun h4 => ?_) (fun h4 => ?_)
  · have hq := hct (by simpa using h4)
    have hm : s ∈ ts := Classical.byContradiction fun hn => by rw [(fdQ_none ts 0 s).2 hn] at hq; cases hq
    have e1 : addT ts s = ts := by unfold addT; rw [if_pos hm]
    have e2 : addC ts s = c := by unfold addC; rw [hq]; rfl
    rw [e1, e2]
    refine aR (fun Z hZ => ?_)
    refine sLA 0 rfl rfl tyA123 tyS123 rfl (by simp only [List.take_succ_cons, List.take_zero, List.drop_zero]; rfl) rfl ?_
    refine sS 1 rfl rfl rfl tyS123 (by simp only [Value.cells]; rfl) rfl rfl rfl (by simp only [List.take_zero, List.drop_succ_cons, List.drop_zero, List.nil_append, List.append_nil, List.length_cons, List.length_nil, Nat.reduceAdd, Nat.zero_add, wrV]; rfl) (by simp only [List.set_cons_succ]; rfl) ?_
    refine sA rfl rfl <| sA rfl rfl <| sN (hZ _ _ ?_)
    refine aF [(4, _), (5, _), (6, _)] (Kn.cons rfl (Kn.cons rfl (Kn.cons rfl (Kn.nil)))) ?_
    refine aE ?_
    repeat (with_reducible refine nTR ?_)
    exact jG9 _ rfl (ResOk.cell 1 rfl rfl tyA123 tyS123 rfl) rfl rfl (HLe.drop 2 rfl) ⟨⟨_, rfl⟩, h⟩
  have hq := hcf (by simpa using h4)
  have hm : s ∉ ts := (fdQ_none ts 0 s).1 hq
  have e1 : addT ts s = ts ++ [s] := by unfold addT; rw [if_neg hm]
  have e2 : addC ts s = (ts.flatten.length, s.length) := by unfold addC; rw [hq]; rfl
  rw [e1, e2]
  refine aK ?_
  with_reducible refine nN ?_
  subst hH
  refine aS ?_
  refine aR fun Z hZ => sM rfl rfl ?_
  refine jB1 rfl rfl ?_
  refine sFA rfl tyF185_1 (by simp only [Nat.zero_add]; rfl) rfl ?_
  refine sL 2 rfl rfl tyA182 tyS182 rfl rfl ?_
  refine jE7 Tryz.underlying182 rfl rfl ?_
  refine sx_geq rfl rfl rfl ?_
  refine sN (hZ _ _ ?_)
  refine aF [(0, _), (1, _), (4, _), (36, _)] (Kn.cons rfl (Kn.cons rfl (Kn.cons rfl (Kn.cons rfl (Kn.nil))))) ?_
  refine aC rfl (fun h5 => ?_) (fun h5 => ?_)
  · simp at h5; omega
  refine aK ?_
  with_reducible refine nN ?_
  refine aR fun Z hZ => sM rfl rfl ?_
  refine sx_makeFuncB (vs := [ptr gp 0]) rfl rfl ?_
  refine sA rfl rfl <| sN (hZ _ _ ?_)
  refine aF [(1, _), (4, _), (9, _)] (Kn.cons rfl (Kn.cons rfl (Kn.cons rfl (Kn.nil)))) ?_
  refine aR fun Z hZ => sM rfl rfl <| sM rfl rfl ?_
  refine sx_callFB (bs := [ptr gp 0]) (vs := [.string (str s)]) [_, _] hput rfl rfl (HLe.swap [_, _] _) rfl ?_
  rintro v H' ⟨rfl, hP⟩
  rw [hP.wrs.filter]
  refine jE0 _ (HLe.swap H' [_, _]) ?_
  refine sS 1 rfl rfl rfl tyS123 (by simp only [Value.cells]; rfl) rfl rfl rfl (by simp only [List.take_zero, List.drop_succ_cons, List.drop_zero, List.nil_append, List.append_nil, List.length_cons, List.length_nil, Nat.reduceAdd, Nat.zero_add, wrV]; rfl) rfl ?_
  refine sA rfl rfl <| sA rfl rfl <| sN (hZ _ _ ?_)
  refine aF [(4, _), (5, _), (6, _)] (Kn.cons rfl (Kn.cons rfl (Kn.cons rfl (Kn.nil)))) ?_
  refine aE ?_
  exact jG9 _ rfl (ResOk.cell 1 rfl rfl tyA123 tyS123 rfl) rfl rfl (HLe.drop 2 rfl) ⟨⟨_, rfl⟩, hP⟩
theorem text_fn {gp : Nat} {ts : List Tx} {H : Heap} (h : PoolIs gp ts H) (hfl : ts.flatten.length ≤ 1000000000) :
    Fn Tryz.prog 50 [ptr gp 0] H fun v H' => v = .string (str ts.flatten) ∧ H' = H := by
  obtain ⟨At, ct, pv, m, K, hH, hr⟩ : ∃ At ct pv m K, H = .own gp 185 [.slice At ts.flatten.length ct, pv, .map m] :: K ∧ ∀ w0 Wr w, Sat w0 Wr H w → Rd w 1 At ts.flatten.length (bv ts.flatten) := by
    rcases h with ⟨rfl, rfl⟩ | ⟨gm, B, tv, pv, ⟨h1, h2, h3⟩, rfl⟩
    · exact ⟨none, 0, nilS, none, [], rfl, fun w0 Wr w _ => rd_nil rfl⟩
    · obtain ⟨At, ct, rfl, _⟩ := h2.form
      exact ⟨At, ct, pv, some gm, _, rfl, fun w0 Wr w hw => rd_rowE h2 (by rw [bv_length, Nat.mul_one]) (fun x hx => List.mem_cons_of_mem _ (List.mem_cons_of_mem _ (List.mem_append_left _ hx))) hw⟩
  subst hH
  refine Fn.enter (N := 11) Tryz.func50 rfl (by kernel_rfl) rfl (fun w0 => ?_)
  refine aR fun Z hZ => sA rfl rfl <| sN (hZ _ _ ?_)
  refine aF [(0, _)] (Kn.cons rfl (Kn.nil)) ?_
  refine aS ?_
  refine aR fun Z hZ => sM rfl rfl ?_
  refine sx_ptrNil Tryz.underlying117 rfl rfl ?_
  refine sN (hZ _ _ ?_)
  refine aF [(0, _), (4, _)] (Kn.cons rfl (Kn.cons rfl (Kn.nil))) ?_
  refine aC rfl (fun h1 => ?_) (fun h1 => ?_)
  · cases h1
  refine aK ?_
  with_reducible refine nN ?_
  refine aR fun Z hZ => sM rfl rfl ?_
  refine jB1 rfl rfl ?_
  refine sFA rfl tyF185_0 (by simp only [Nat.add_zero]; rfl) rfl ?_
  first | refine sL 0 rfl rfl tyA132 tyS132 rfl rfl ?_
  refine sx_strB (l := ts.flatten) Tryz.underlying132 Tryz.underlying5 Tryz.underlying9 rfl (fun w hw => hr _ _ w hw) rfl ?_
  refine sCP (clone_fn ts.flatten (by omega)) rfl rfl ?_
  refine sA rfl rfl <| sN (hZ _ _ ?_)
  refine aF [(2, _)] (Kn.cons rfl (Kn.nil)) ?_
  refine aE ?_
  exact jD4 _ rfl rfl (HLe.refl _) ⟨rfl, rfl⟩
end Go.Proofs.YtkojkeabelckjaaGreatDoor.V
end

section
set_option linter.all false
namespace Go.Proofs.YtkojkeabelckjaaGreatDoor
open Go.RowKit
set_option maxRecDepth 100000
theorem sx_storeRw {P : Program} {N : Frm} {w0 : World} {Wr : List Nat} {ops : Array Oper} {rest : List Oper} {fr : Fr} {H : Heap} {Z : Fr → Heap → Prop} {ty : Nat} {pos : String} {after : Array Edge}
    (i : Nat) {t : TypeId} {x y : Operand} {g o size n c : Nat} {e : TypeId} {xs ys : List Value} {v : Value} (hx : ev fr x = some (ptr g o)) (hy : ev fr y = some v) (hH : H[i]? = some (.ob g (RowP e size n c xs))) (hn : tySize P t = some 1) (h1 : v.oneCell' = true)
    (hlen : o < n * size) (hys : xs.set o v = ys) {H2 : Heap} (hs : H.set i (.ob g (RowP e size n c ys)) = H2)
    (h : sx P N w0 Wr ops rest fr H2 Z) : sx P N w0 Wr ops (⟨none, .store t x y, ty, pos, after, none⟩ :: rest) fr H Z :=
  sx_do (fun a w ha hw => by
    subst hs
    subst hys
    obtain ⟨ob, hg, cur, rfl, h2, h3, h4, h5, h6⟩ := hw.mem hH
    have hnc : n * size ≤ c * size := Nat.mul_le_mul_right size h2
    have ho : o < cur.size := by omega
    have hc : w.cell? ⟨g, o, none⟩ = some cur[o] := by rw [cell_of_row w g o cur e _ hg]; simp [ho]
    have hf : w.frozen? ⟨g, o, none⟩ = false := by simp [World.frozen?, hg]
    have hst : (store ⟨g, o, none⟩ v).run P w = .ok () (w.setCell ⟨g, o, none⟩ v) := by
      cases v <;> first | (simp [Value.oneCell'] at h1; done) | simp [store, Sem.run, hc, hf]
    refine ⟨w.setCell ⟨g, o, none⟩ v, ?_, hw.turn hH rfl rfl (Only.setCell w g o _) ?_⟩
    · have hsz : v.cells = #[v] := by cases v <;> first | rfl | (simp [Value.oneCell'] at h1)
      have ha0 : Addr.add ⟨g, o, none⟩ 0 = ⟨g, o, none⟩ := rfl
      simp [execOp, Instr.storeAt, ha.eval hx, ha.eval hy, ptr, Instr.sureAddr, Sem.run_bind, Sem.run_pure, Result.andThen_ok, storeVar, jA9 hn, hsz, storeCells, ha0]
      simp only [store] at hst ⊢
      rw [hst]
      rfl
    · refine ⟨.cells (cur.set! o v) e (0, 0), ?_, cur.set! o v, rfl, h2, h3, by simpa using h4, ?_, by rw [List.length_set]; exact h6⟩
      · simp [World.setCell, Array.getElem?_modify, hg]
      · have : (cur.set! o v).toList = cur.toList.set o v := by simp
        rw [this, List.take_set, h5]) h
section
variable {P : Program} {N : Frm} {w0 : World} {Wr : List Nat} {ops : Array Oper} {rest : List Oper} {fr : Fr} {H : Heap} {Z : Fr → Heap → Prop} {d ty : Nat} {pos : String} {after : Array Edge}
theorem sq_callFP {f : FuncId} {x : Operand} {xs : List Operand} {vs : List Value} {ts : Array TypeId} {v : Value} (hc : Fn P f vs [] fun u _ => u = v) (hf : ev fr x = some (.func (.func f) #[] #[])) (hx : evs fr xs = some vs) (hN : Nat.ble (d + 1) N.n = true)
    (h : sq P N w0 Wr ops rest ((d, v) :: fr) H Z) : sq P N w0 Wr ops (⟨some d, .call { callee := .value x, args := xs.toArray, argTypes := ts }, ty, pos, after, none⟩ :: rest) fr H Z :=
  fun Q hQ a ha => wpQuiet_step fun K hK => by
    rw [if_pos (show Region.wanted (⟨some d, .call { callee := .value x, args := xs.toArray, argTypes := ts }, ty, pos, after, none⟩ : Oper) (yielded ops a.tmps) = true from rfl)]
    refine ⟨v, fun w hw => ?_, hK _ (h Q hQ _ (ha.put hN v))⟩
    unfold Oper.quietAt
    rw [run_callF (caps := []) hc.1 (ha.evals hx) (ha.eval hf)]
    refine ⟨rfl, ?_⟩
    rw [List.append_nil]
    exact (hc.2 w (Sat.nil w)).mono fun e w' he => by
      obtain ⟨u, H', rfl, rfl, hS⟩ := he
      exact ⟨rfl, hw.bel hS.only.bel⟩
end
section
variable {P : Program} {N : Frm} {w0 : World} {Wr : List Nat} {ops : Array Oper} {rest : List Oper} {fr : Fr} {H : Heap} {Z : Fr → Heap → Prop} {d ty : Nat} {pos : String} {after : Array Edge}
theorem sv_max {t t' : TypeId} {x y : Operand} {k : IntKind} {m n : Int} (hx : ev fr x = some (.int k m)) (hy : ev fr y = some (.int k n)) (r : Int) (hr : max m n = r) (hN : Nat.ble (d + 1) N.n = true)
    (h : sv P N w0 Wr ops rest ((d, .int k r) :: fr) H Z) : sv P N w0 Wr ops (⟨some d, .call { callee := .builtin .max, args := #[x, y], argTypes := #[t, t'] }, ty, pos, after, none⟩ :: rest) fr H Z :=
  sv_val _ hN (fun a w ha _ => by
    subst hr
    have e1 := ha.eval hx
    have e2 := ha.eval hy
    simp [execOp, resolve, invoke, builtin, e1, e2, Sem.run_bind, Builtin.max_, Builtin.max2]
    try (rw [Int.max_def]; split <;> split <;> simp_all <;> omega)) h
end
end Go.Proofs.YtkojkeabelckjaaGreatDoor
end

section
set_option linter.all false
namespace Go.Proofs.YtkojkeabelckjaaGreatDoor.V
open Go.RowKit
set_option maxRecDepth 100000
def oneQ (a b : En) : Bool := decide (b.id = lastE a + 1 ∧ b.off = a.off ∧ b.len = a.len)
theorem goes_fn (a b : En) (ha : a.ok) : Fn Tryz.prog 46 [a.val, b.val] [] fun v _ => v = .bool (oneQ a b) := by
  have hl := last_lt ha
  refine Fn.enter (N := 31) Tryz.func46 rfl (by kernel_rfl) rfl (fun w0 => ?_)
  refine aR (fun Z hZ => ?_)
  refine jA5 rfl rfl rfl (fun g1 => ?_)
  refine jA5 rfl rfl rfl (fun g2 => ?_)
  refine sA rfl rfl <| sN (hZ _ _ ?_)
  refine aF [(2, _), (3, _)] (Kn.cons rfl (Kn.cons rfl (Kn.nil))) ?_
  refine jD5 [(4, .bool (oneQ a b))] [] mixed (by kernel_rfl) (fun Z hZ => ?_) ?_
  · refine qFA rfl tyF116_0 (by first | (simp only [Nat.reduceAdd, Nat.add_zero, Nat.zero_add]; first | done | rfl) | rfl) rfl ?_
    refine qFA rfl tyF114_0 (by first | (simp only [Nat.reduceAdd, Nat.add_zero, Nat.zero_add]; first | done | rfl) | rfl) rfl ?_
    first | refine jA2 0 rfl rfl tyA45 tyS45 rfl rfl ?_ | refine jA2 1 rfl rfl tyA45 tyS45 rfl rfl ?_
    refine qFA rfl tyF116_0 (by first | (simp only [Nat.reduceAdd, Nat.add_zero, Nat.zero_add]; first | done | rfl) | rfl) rfl ?_
    first | refine sq_loadA 0 rfl rfl tyA114 tyS114 (by first | (simp only [List.length_cons, List.length_nil, Nat.reduceAdd, Nat.zero_add, Nat.add_zero]; first | done | rfl) | rfl) (by first | (simp only [List.take_succ_cons, List.take_zero, List.drop_succ_cons, List.drop_zero, List.cons_append, List.nil_append, List.append_nil, List.length_cons, List.length_nil, Nat.reduceAdd, Nat.zero_add, Nat.add_zero, Value.cells, wrV]; first | done | rfl) | rfl) rfl ?_ | refine sq_loadA 1 rfl rfl tyA114 tyS114 (by first | (simp only [List.length_cons, List.length_nil, Nat.reduceAdd, Nat.zero_add, Nat.add_zero]; first | done | rfl) | rfl) (by first | (simp only [List.take_succ_cons, List.take_zero, List.drop_succ_cons, List.drop_zero, List.cons_append, List.nil_append, List.append_nil, List.length_cons, List.length_nil, Nat.reduceAdd, Nat.zero_add, Nat.add_zero, Value.cells, wrV]; first | done | rfl) | rfl) rfl ?_
    refine jH7 (elast_fn a ha) rfl rfl ?_
    refine sq_add rfl rfl ((lastE a + 1 : Nat) : Int) (by rw [IntWalk.u64_in _ (by omega)]; omega) rfl ?_
    first | refine sq_eql rfl rfl rfl ?_ | refine sq_seql rfl rfl rfl ?_
    refine qM rfl rfl ?_
    refine jH6 13 rfl (fun hb8 => ?_) (fun hb8 => ?_)
    · refine jA4 rfl rfl rfl ?_
      refine qFA rfl tyF116_0 (by first | (simp only [Nat.reduceAdd, Nat.add_zero, Nat.zero_add]; first | done | rfl) | rfl) rfl ?_
      refine jA4 rfl rfl rfl ?_
      refine qFA rfl jF6 (by first | (simp only [Nat.reduceAdd, Nat.add_zero, Nat.zero_add]; first | done | rfl) | rfl) rfl ?_
      refine jA4 rfl rfl rfl ?_
      first | refine jA2 0 rfl rfl tyA45 tyS45 rfl rfl ?_ | refine jA2 1 rfl rfl tyA45 tyS45 rfl rfl ?_
      refine jA4 rfl rfl rfl ?_
      refine qFA rfl tyF116_0 (by first | (simp only [Nat.reduceAdd, Nat.add_zero, Nat.zero_add]; first | done | rfl) | rfl) rfl ?_
      refine jA4 rfl rfl rfl ?_
      refine qFA rfl jF6 (by first | (simp only [Nat.reduceAdd, Nat.add_zero, Nat.zero_add]; first | done | rfl) | rfl) rfl ?_
      refine jA4 rfl rfl rfl ?_
      first | refine jA2 0 rfl rfl tyA45 tyS45 rfl rfl ?_ | refine jA2 1 rfl rfl tyA45 tyS45 rfl rfl ?_
      refine jA4 rfl rfl rfl ?_
      first | refine sq_eql rfl rfl rfl ?_ | refine sq_seql rfl rfl rfl ?_
      refine jC5 rfl rfl rfl ?_
      refine qM rfl rfl ?_
      refine jH6 22 rfl (fun hb17 => ?_) (fun hb17 => ?_)
      · refine jA4 rfl rfl rfl ?_
        refine qFA rfl tyF116_0 (by first | (simp only [Nat.reduceAdd, Nat.add_zero, Nat.zero_add]; first | done | rfl) | rfl) rfl ?_
        refine jA4 rfl rfl rfl ?_
        refine qFA rfl tyF114_2 (by first | (simp only [Nat.reduceAdd, Nat.add_zero, Nat.zero_add]; first | done | rfl) | rfl) rfl ?_
        refine jA4 rfl rfl rfl ?_
        first | refine jA2 0 rfl rfl tyA112 tyS112 rfl rfl ?_ | refine jA2 1 rfl rfl tyA112 tyS112 rfl rfl ?_
        refine jA4 rfl rfl rfl ?_
        refine qFA rfl tyF116_0 (by first | (simp only [Nat.reduceAdd, Nat.add_zero, Nat.zero_add]; first | done | rfl) | rfl) rfl ?_
        refine jA4 rfl rfl rfl ?_
        refine qFA rfl tyF114_2 (by first | (simp only [Nat.reduceAdd, Nat.add_zero, Nat.zero_add]; first | done | rfl) | rfl) rfl ?_
        refine jA4 rfl rfl rfl ?_
        first | refine jA2 0 rfl rfl tyA112 tyS112 rfl rfl ?_ | refine jA2 1 rfl rfl tyA112 tyS112 rfl rfl ?_
        refine jA4 rfl rfl rfl ?_
        first | refine sq_eql rfl rfl rfl ?_ | refine sq_seql rfl rfl rfl ?_
        refine jC5 rfl rfl rfl ?_
        refine jA3 rfl rfl ?_
        refine jD0 (hZ _ _ ?_ ?_)
        · exact Kn.cons (congrArg some (congrArg Value.bool (by unfold oneQ; simp at *; first | omega | (rw [Bool.eq_iff_iff]; simp; omega)))) Kn.nil
        · exact HLe.sub (List.nil_sublist _)
      · refine qO rfl rfl rfl rfl rfl ?_
        refine qO rfl rfl rfl rfl rfl ?_
        refine qO rfl rfl rfl rfl rfl ?_
        refine qO rfl rfl rfl rfl rfl ?_
        refine qO rfl rfl rfl rfl rfl ?_
        refine qO rfl rfl rfl rfl rfl ?_
        refine qO rfl rfl rfl rfl rfl ?_
        refine jC5 rfl rfl rfl ?_
        refine jA3 rfl rfl ?_
        refine jD0 (hZ _ _ ?_ ?_)
        · exact Kn.cons (congrArg some (congrArg Value.bool (by unfold oneQ; simp at *; first | omega | (rw [Bool.eq_iff_iff]; simp; omega)))) Kn.nil
        · exact HLe.sub (List.nil_sublist _)
    · refine qO rfl rfl rfl rfl rfl ?_
      refine qO rfl rfl rfl rfl rfl ?_
      refine qO rfl rfl rfl rfl rfl ?_
      refine qO rfl rfl rfl rfl rfl ?_
      refine qO rfl rfl rfl rfl rfl ?_
      refine qO rfl rfl rfl rfl rfl ?_
      refine qO rfl rfl rfl rfl rfl ?_
      refine jC5 rfl rfl rfl ?_
      refine qM rfl rfl ?_
      refine qO rfl rfl rfl rfl rfl ?_
      refine qO rfl rfl rfl rfl rfl ?_
      refine qO rfl rfl rfl rfl rfl ?_
      refine qO rfl rfl rfl rfl rfl ?_
      refine qO rfl rfl rfl rfl rfl ?_
      refine qO rfl rfl rfl rfl rfl ?_
      refine qO rfl rfl rfl rfl rfl ?_
      refine jC5 rfl rfl rfl ?_
      refine jA3 rfl rfl ?_
      refine jD0 (hZ _ _ ?_ ?_)
      · exact Kn.cons (congrArg some (congrArg Value.bool (by unfold oneQ; simp at *; first | omega | (rw [Bool.eq_iff_iff]; simp; omega)))) Kn.nil
      · exact HLe.sub (List.nil_sublist _)
  refine aE ?_
  repeat (with_reducible (first | refine nTR ?_ | refine nBR ?_ | refine jC0 ?_))
  exact nR1 rfl rfl rfl
theorem ecells_run {L : List En} {i : Nat} {x : En} (h : L[i]? = some x) : rdV false 1 (jA0 L) (i * 4 + 3) = some (wq4 x.run) := fm_rd1 (j := 3) en_len h rfl
theorem mset_run {M : List En} {k : Nat} {e : En} (h : M[k]? = some e) (y : Nat) : (jA0 M).set (k * 4 + 3) (wq4 y) = jA0 (M.set k { e with run := y }) := fm_set (x := e) (y := { e with run := y }) (j := 3) en_len rfl (by omega) h
def put1 (out : List En) (e : En) : List En :=
  match out[out.length - 1]? with
  | some a => if oneQ a e then out.set (out.length - 1) { a with run := a.run + 1 } else out ++ [e]
  | none => out ++ [e]
def enOf (ts : List Tx) (x : It) : En := ⟨x.id, (addC ts x.tx).1, (addC ts x.tx).2, 1⟩
def rwS (s : List En × List Tx) (x : It) : List En × List Tx := (put1 s.1 (enOf s.2 x), addT s.2 x.tx)
def rowsS (L : List It) : List En × List Tx := L.foldl rwS ([], [])
theorem rows_snoc {L : List It} {k : Nat} {x : It} (h : L[k]? = some x) : rowsS (L.take (k + 1)) = rwS (rowsS (L.take k)) x := by
  obtain ⟨hlt, rfl⟩ := List.getElem?_eq_some_iff.1 h
  unfold rowsS
  rw [List.take_succ_eq_append_getElem hlt, List.foldl_append, List.foldl_cons, List.foldl_nil]
theorem fdQ_le : ∀ (ts : List Tx) (o : Nat) (s : Tx) (c : Nat × Nat), fdQ o ts s = some c → c.2 = s.length ∧ c.1 + c.2 ≤ o + ts.flatten.length
  | [], _, _, _, h => by cases h
  | t :: r, o, s, c, h => by
    rw [fdQ] at h
    rw [List.flatten_cons, List.length_append]
    split at h
    · rename_i e
      injection h with h
      subst h
      subst e
      exact ⟨rfl, by simp only; omega⟩
    · obtain ⟨h1, h2⟩ := fdQ_le r _ s c h
      exact ⟨h1, by omega⟩
theorem addC_le (ts : List Tx) (s : Tx) : (addC ts s).2 = s.length ∧ (addC ts s).1 + (addC ts s).2 ≤ ts.flatten.length + s.length := by
  unfold addC
  cases h : fdQ 0 ts s with
  | none => exact ⟨rfl, Nat.le_refl _⟩
  | some c =>
    obtain ⟨h1, h2⟩ := fdQ_le ts 0 s c h
    refine ⟨h1, ?_⟩
    simp only [Option.getD_some]
    omega
structure RsOk (k : Nat) (s : List En × List Tx) : Prop where
  ts : TsOk s.2
  nt : s.2.length ≤ k
  fl : s.2.flatten.length ≤ k * 65536
  no : s.1.length ≤ k
  es : ∀ e ∈ s.1, e.ok ∧ e.run ≤ k
theorem addT_fl (ts : List Tx) (s : Tx) : (addT ts s).length ≤ ts.length + 1 ∧ (addT ts s).flatten.length ≤ ts.flatten.length + s.length := by
  unfold addT
  split
  · exact ⟨by omega, by omega⟩
  · simp
theorem RsOk.step {k : Nat} {s : List En × List Tx} (h : RsOk k s) (hk : k < 2048) {x : It} (h1 : x.id < 6004799503160661) (h2 : x.tx ≠ []) (h3 : x.tx.length ≤ 65536) : RsOk (k + 1) (rwS s x) := by
  obtain ⟨a1, a2⟩ := addT_fl s.2 x.tx
  have h4 := h.nt
  have h5 := h.fl
  have h6 := h.no
  obtain ⟨c1, c2⟩ := addC_le s.2 x.tx
  have heo : (enOf s.2 x).ok ∧ (enOf s.2 x).run ≤ k + 1 := ⟨⟨by show x.id < _; omega, by show (addC s.2 x.tx).1 < _; omega, by show (addC s.2 x.tx).2 < _; omega, by show 1 < _; omega⟩, by show 1 ≤ k + 1; omega⟩
  have happ : ∀ e ∈ s.1 ++ [enOf s.2 x], e.ok ∧ e.run ≤ k + 1 := fun e he => by
    rcases List.mem_append.1 he with he | he
    · obtain ⟨g1, g2⟩ := h.es e he
      exact ⟨g1, by omega⟩
    · rw [List.mem_singleton.1 he]; exact heo
  have hpl : (put1 s.1 (enOf s.2 x)).length ≤ k + 1 ∧ ∀ e ∈ put1 s.1 (enOf s.2 x), e.ok ∧ e.run ≤ k + 1 := by
    unfold put1
    split
    · rename_i a ha
      split
      · refine ⟨by rw [List.length_set]; omega, fun e he => ?_⟩
        rcases List.mem_or_eq_of_mem_set he with he | rfl
        · obtain ⟨g1, g2⟩ := h.es e he
          exact ⟨g1, by omega⟩
        · obtain ⟨⟨g1, g2, g3, g4⟩, g5⟩ := h.es a (List.mem_of_getElem? ha)
          exact ⟨⟨g1, g2, g3, by show a.run + 1 < _; omega⟩, by show a.run + 1 ≤ k + 1; omega⟩
      · exact ⟨by rw [List.length_append, List.length_singleton]; omega, happ⟩
    · exact ⟨by rw [List.length_append, List.length_singleton]; omega, happ⟩
  exact ⟨addT_ok h.ts h2, by show (addT s.2 x.tx).length ≤ _; omega, by show (addT s.2 x.tx).flatten.length ≤ _; omega, hpl.1, hpl.2⟩
theorem rows_ok {L : List It} (h : ChOk L) : ∀ k, k ≤ L.length → RsOk k (rowsS (L.take k))
  | 0, _ => by
    rw [List.take_zero]
    exact ⟨⟨List.nodup_nil, fun t ht => by cases ht⟩, Nat.le_refl _, by simp [rowsS], by simp [rowsS], fun e he => by cases he⟩
  | k + 1, hk => by
    have hx := itAt_at (show k < L.length by omega)
    have hm := List.mem_of_getElem? hx
    rw [rows_snoc hx]
    have h4 := h.len
    obtain ⟨h5, h6⟩ := h.tx _ hm
    exact (rows_ok h k (by omega)).step (by omega) (h.lt _ hm) h5 h6
end Go.Proofs.YtkojkeabelckjaaGreatDoor.V
end
