/- The walk of a pool's put. Conditions: the texts are not too long. -/
import Derived.Test.YtffahimbmpddpaaPl4
namespace Go.Proofs.Ytffahimbmpddpaa.V
open Go.RowKit
set_option linter.unusedVariables false
set_option linter.unusedSimpArgs false
set_option maxRecDepth 100000
theorem HLe.perm {A B : Heap} (h : B.Perm A) : HLe A B := fun _ _ _ hw => hw.perm h
theorem le_last {X T P B D R : Heap} (h : B.Perm (D ++ R)) : HLe ((X ++ (T ++ (P ++ D))) ++ R) (X ++ (T ++ (P ++ B))) := HLe.perm (by
  simp only [List.append_assoc]
  exact List.Perm.append_left X (List.Perm.append_left T (List.Perm.append_left P h)))
theorem le_lastB {X T P B D R : Heap} (h : B.Perm (D ++ R)) : HLe (X ++ (T ++ (P ++ B))) ((X ++ (T ++ (P ++ D))) ++ R) := HLe.perm (by
  simp only [List.append_assoc]
  exact List.Perm.append_left X (List.Perm.append_left T (List.Perm.append_left P h.symm)))
theorem le_mid {X T P B : Heap} : HLe ((X ++ (T ++ B)) ++ P) (X ++ (T ++ (P ++ B))) := HLe.perm (by
  simp only [List.append_assoc]
  exact List.Perm.append_left X (List.Perm.append_left T List.perm_append_comm))
theorem le_midB {X T P B : Heap} : HLe (X ++ (T ++ (P ++ B))) ((X ++ (T ++ B)) ++ P) := HLe.perm (by
  simp only [List.append_assoc]
  exact List.Perm.append_left X (List.Perm.append_left T List.perm_append_comm))
theorem le_fst {X T B : Heap} : HLe ((X ++ B) ++ T) (X ++ (T ++ B)) := HLe.perm (by
  simp only [List.append_assoc]
  exact List.Perm.append_left X List.perm_append_comm)
theorem le_fstB {X T B : Heap} : HLe (X ++ (T ++ B)) ((X ++ B) ++ T) := HLe.perm (by
  simp only [List.append_assoc]
  exact List.Perm.append_left X List.perm_append_comm)
theorem put_fn {gp : Nat} {ts : List Tx} {H : Heap} (h : PoolIs gp ts H) (s : Tx) (hfl : ts.flatten.length + s.length ≤ 1000000000) (hts : ts.length ≤ 1000000) (hs : s.length ≤ 65536) :
    Fn Try.prog 59 [ptr gp 0, .string (str s)] H fun v H' => v = ctV (ts.flatten.length, s.length) ∧ PoolIs gp (ts ++ [s]) H' := by
  have hfs := fnv_sum s (by omega)
  obtain ⟨q, hq⟩ : ∃ q, fnvQ s = q := ⟨_, rfl⟩
  rw [hq] at hfs
  obtain ⟨tv, pv, m, K, hH, htv, hpv, hm⟩ : ∃ tv pv m K, H = .own gp 115 [tv, pv, .map m] :: K ∧ RowOk tv ts.flatten.length ∧ RowOk pv ts.length ∧ ((m = none ∧ ts = [] ∧ tv = nilS ∧ pv = nilS ∧ K = []) ∨ ∃ gm B, m = some gm ∧ BkOk ts B ∧ K = plK gm ts B tv pv) := by
    rcases h with ⟨rfl, rfl⟩ | ⟨gm, B, tv, pv, ⟨h1, h2, h3⟩, rfl⟩
    · exact ⟨nilS, nilS, none, [], rfl, RowOk.nil, RowOk.nil, .inl ⟨rfl, rfl, rfl, rfl, rfl⟩⟩
    · exact ⟨tv, pv, some gm, _, rfl, h2, h3, .inr ⟨gm, B, rfl, h1, rfl⟩⟩
  subst hH
  obtain ⟨At, ct, rfl, hAt⟩ := htv.form
  obtain ⟨n, hn⟩ : ∃ n, ts.flatten.length = n := ⟨_, rfl⟩
  have hn' : n ≤ 1000000000 := by omega
  refine Fn.enter (N := 66) Try.func59 rfl (by kernel_rfl) rfl (fun w0 => ?_)

  refine awp_seq_region (fun Z hZ => ?_)
  refine sx_alloc tyZ84 rfl (fun g1 => ?_)
  refine sx_nil (hZ _ _ ?_)
  refine awp_forget [(0, _), (1, _), (4, _)] (Kn.cons rfl (Kn.cons rfl (Kn.cons rfl (Kn.nil)))) ?_

  rw [hn] at htv hfl ⊢
  refine awp_seq_region (fun Z hZ => ?_)
  refine sx_move rfl rfl ?_
  refine sx_nilCheck rfl rfl ?_
  refine sx_fieldAddr rfl tyF115_0 (by first | (simp only [Nat.reduceAdd, Nat.add_zero, Nat.zero_add]; first | done | rfl) | rfl) rfl ?_
  first | refine sx_load 0 rfl rfl tyA111 tyS111 rfl rfl ?_ | refine sx_load 1 rfl rfl tyA111 tyS111 rfl rfl ?_
  first | refine sx_len Try.underlying111 rfl rfl ?_ | refine sx_lenS Try.underlying111 rfl rfl ?_
  refine sx_conv Try.underlying3 Try.underlying46 rfl ((n : Nat) : Int) (by rw [IntWalk.u64_in _ (by omega)]) rfl ?_
  refine sx_move rfl rfl ?_
  first | refine sx_len Try.underlying9 rfl rfl ?_ | refine sx_lenS Try.underlying9 rfl rfl ?_
  refine sx_conv Try.underlying3 Try.underlying61 rfl ((s.length : Nat) : Int) (by rw [IntWalk.u32_in _ (by omega)]) rfl ?_
  refine sx_build tyZ84 tyP84 rfl rfl (by first | (simp only [List.take_succ_cons, List.take_zero, List.drop_succ_cons, List.drop_zero, List.cons_append, List.nil_append, List.append_nil, List.length_cons, List.length_nil, Nat.reduceAdd, Nat.zero_add, Nat.add_zero, Value.cells, wrV, zrep_one, List.replicate_succ, List.replicate_zero, Nat.reduceMul, Nat.zero_mul]; first | done | rfl) | rfl) rfl ?_
  refine sx_alloc tyZ84 rfl (fun g2 => ?_)
  first | refine sx_store 0 rfl rfl rfl tyS84 (by first | (simp only [Value.cells]; first | done | rfl) | rfl) rfl rfl (by first | (simp only [List.length_cons, List.length_nil, Nat.reduceAdd, Nat.zero_add, Nat.add_zero]; first | done | rfl) | rfl) (by first | (simp only [List.take_succ_cons, List.take_zero, List.drop_succ_cons, List.drop_zero, List.cons_append, List.nil_append, List.append_nil, List.length_cons, List.length_nil, Nat.reduceAdd, Nat.zero_add, Nat.add_zero, Value.cells, wrV]; first | done | rfl) | rfl) (by first | (simp only [List.set_cons_succ, List.set_cons_zero]; first | done | rfl) | rfl) ?_ | refine sx_store 1 rfl rfl rfl tyS84 (by first | (simp only [Value.cells]; first | done | rfl) | rfl) rfl rfl (by first | (simp only [List.length_cons, List.length_nil, Nat.reduceAdd, Nat.zero_add, Nat.add_zero]; first | done | rfl) | rfl) (by first | (simp only [List.take_succ_cons, List.take_zero, List.drop_succ_cons, List.drop_zero, List.cons_append, List.nil_append, List.append_nil, List.length_cons, List.length_nil, Nat.reduceAdd, Nat.zero_add, Nat.add_zero, Value.cells, wrV]; first | done | rfl) | rfl) (by first | (simp only [List.set_cons_succ, List.set_cons_zero]; first | done | rfl) | rfl) ?_ | refine sx_store 2 rfl rfl rfl tyS84 (by first | (simp only [Value.cells]; first | done | rfl) | rfl) rfl rfl (by first | (simp only [List.length_cons, List.length_nil, Nat.reduceAdd, Nat.zero_add, Nat.add_zero]; first | done | rfl) | rfl) (by first | (simp only [List.take_succ_cons, List.take_zero, List.drop_succ_cons, List.drop_zero, List.cons_append, List.nil_append, List.append_nil, List.length_cons, List.length_nil, Nat.reduceAdd, Nat.zero_add, Nat.add_zero, Value.cells, wrV]; first | done | rfl) | rfl) (by first | (simp only [List.set_cons_succ, List.set_cons_zero]; first | done | rfl) | rfl) ?_
  refine sx_nil (hZ _ _ ?_)
  refine awp_forget [(0, _), (1, _), (4, _), (5, _)] (Kn.cons rfl (Kn.cons rfl (Kn.cons rfl (Kn.cons rfl (Kn.nil))))) ?_
  refine awp_cut (ι := Nat × List Bk) (fun _ => [(0, ptr gp 0), (1, .string (str s)), (4, ptr g1 0), (5, ptr g2 0)]) (fun x => .own g2 84 [uq n, wq4 s.length] :: .own g1 84 [uq 0, wq4 0] :: .own gp 115 [.slice At n ct, pv, .map (some x.1)] :: plK x.1 ts x.2 (.slice At n ct) pv) (fun x => BkOk ts x.2) ?_ ?_
  · skip
    refine awp_seq_region (fun Z hZ => ?_)
    refine sx_move rfl rfl ?_
    refine sx_nilCheck rfl rfl ?_
    refine sx_fieldAddr rfl tyF115_2 (by first | (simp only [Nat.reduceAdd, Nat.add_zero, Nat.zero_add]; first | done | rfl) | rfl) rfl ?_
    first | refine sx_load 0 rfl rfl tyA113 tyS113 rfl rfl ?_ | refine sx_load 1 rfl rfl tyA113 tyS113 rfl rfl ?_ | refine sx_load 2 rfl rfl tyA113 tyS113 rfl rfl ?_
    refine sx_mapNil Try.underlying113 rfl rfl ?_
    refine sx_nil (hZ _ _ ?_)
    refine awp_forget [(0, _), (1, _), (4, _), (5, _), (21, _)] (Kn.cons rfl (Kn.cons rfl (Kn.cons rfl (Kn.cons rfl (Kn.cons rfl (Kn.nil)))))) ?_
    first | refine awp_cond rfl (fun h2 => ?_) (fun h2 => ?_) | refine awp_seq (awp_cond rfl (fun h2 => ?_) (fun h2 => ?_))
    · obtain ⟨rfl, rfl, h3, rfl, rfl⟩ : m = none ∧ ts = [] ∧ Value.slice At n ct = nilS ∧ pv = nilS ∧ K = [] := by
        rcases hm with hm | ⟨gm, B, rfl, _⟩
        · rw [hn] at hm; exact hm
        · cases h2
      injection h3 with h4 h5 h6
      subst h4; subst h5; subst h6

      refine awp_region (fun Z hZ => ?_)
      refine sx_move rfl rfl ?_
      refine sx_makeMap rfl (fun k : Nat => uq k) (fun v : Value => v) (fun gm => ?_)
      refine sx_nilCheck rfl rfl ?_
      refine sx_fieldAddr rfl tyF115_2 (by first | (simp only [Nat.reduceAdd, Nat.add_zero, Nat.zero_add]; first | done | rfl) | rfl) rfl ?_
      first | refine sx_store1 0 rfl rfl rfl tyS113 rfl (by first | (simp only [List.length_cons, List.length_nil, Nat.reduceAdd, Nat.zero_add, Nat.add_zero]; first | done | rfl) | rfl) (by first | (simp only [List.set_cons_succ, List.set_cons_zero, Nat.reduceAdd, Nat.add_zero, Nat.zero_add]; first | done | rfl) | rfl) (by first | (simp only [List.set_cons_succ, List.set_cons_zero]; first | done | rfl) | rfl) ?_ | refine sx_store1 1 rfl rfl rfl tyS113 rfl (by first | (simp only [List.length_cons, List.length_nil, Nat.reduceAdd, Nat.zero_add, Nat.add_zero]; first | done | rfl) | rfl) (by first | (simp only [List.set_cons_succ, List.set_cons_zero, Nat.reduceAdd, Nat.add_zero, Nat.zero_add]; first | done | rfl) | rfl) (by first | (simp only [List.set_cons_succ, List.set_cons_zero]; first | done | rfl) | rfl) ?_ | refine sx_store1 2 rfl rfl rfl tyS113 rfl (by first | (simp only [List.length_cons, List.length_nil, Nat.reduceAdd, Nat.zero_add, Nat.add_zero]; first | done | rfl) | rfl) (by first | (simp only [List.set_cons_succ, List.set_cons_zero, Nat.reduceAdd, Nat.add_zero, Nat.zero_add]; first | done | rfl) | rfl) (by first | (simp only [List.set_cons_succ, List.set_cons_zero]; first | done | rfl) | rfl) ?_ | refine sx_store1 3 rfl rfl rfl tyS113 rfl (by first | (simp only [List.length_cons, List.length_nil, Nat.reduceAdd, Nat.zero_add, Nat.add_zero]; first | done | rfl) | rfl) (by first | (simp only [List.set_cons_succ, List.set_cons_zero, Nat.reduceAdd, Nat.add_zero, Nat.zero_add]; first | done | rfl) | rfl) (by first | (simp only [List.set_cons_succ, List.set_cons_zero]; first | done | rfl) | rfl) ?_
      refine sx_nil (hZ _ _ ?_)
      refine nx_forget [(0, _), (1, _), (4, _), (5, _)] (Kn.cons rfl (Kn.cons rfl (Kn.cons rfl (Kn.cons rfl (Kn.nil))))) ?_
      exact nx_cut (gm, []) ⟨List.nodup_nil, fun b hb => absurd hb (by simp), fun k t ht => absurd ht (by simp)⟩ (Kn.cons rfl (Kn.cons rfl (Kn.cons rfl (Kn.cons rfl Kn.nil)))) (HLe.pick [1, 2, 3, 0] (by simp) rfl)
    · obtain ⟨gm, B, rfl, hok, rfl⟩ : ∃ gm B, m = some gm ∧ BkOk ts B ∧ K = plK gm ts B (.slice At n ct) pv := by
        rcases hm with ⟨rfl, _⟩ | hm
        · cases h2
        · rw [hn] at hm; exact hm
      refine awp_skip ?_
      exact nx_cut (gm, B) hok (Kn.cons rfl (Kn.cons rfl (Kn.cons rfl (Kn.cons rfl Kn.nil)))) (HLe.refl _)
  rintro ⟨gm, B⟩ hok
  simp only at hok ⊢

  refine awp_seq_region (fun Z hZ => ?_)
  refine sx_move rfl rfl ?_
  refine sx_callP hfs rfl rfl ?_
  refine sx_assign rfl rfl ?_
  refine sx_nil (hZ _ _ ?_)
  refine awp_forget [(0, _), (1, _), (4, _), (5, _), (6, _)] (Kn.cons rfl (Kn.cons rfl (Kn.cons rfl (Kn.cons rfl (Kn.cons rfl (Kn.nil)))))) ?_
  have hget := bkV_get B q
  have hbo := bkV_ok B q
  have hbd := bkH_del B q
  have hokp := fun g c => BkOk.put hok s g c
  have hkl := (bkK_lt hok q).1
  rw [hq] at hokp
  obtain ⟨ks, hks⟩ : ∃ ks, bkK B q = ks := ⟨_, rfl⟩
  obtain ⟨vb, hvb⟩ : ∃ v, bkV B q = v := ⟨_, rfl⟩
  rw [hks] at hbo hbd hokp hkl
  rw [hvb] at hget hbo hbd
  clear hvb
  obtain ⟨Ab, cb, rfl, hAb⟩ := hbo.form
  obtain ⟨Ap, cp, rfl, hAp⟩ := hpv.form
  refine awf_seq_region _ [(0, true), (1, true), (2, true), (3, true), (4, true), (5, true), (6, true), (7, true), (8, true), (9, true), (10, true), (11, true), (12, true), (13, true), (14, true), (15, true), (16, false), (17, false)] 18 rfl mixed (by kernel_rfl) (HLe.pick [2, 3] (by simp) (by simp only [pick, List.filterMap_cons, List.filterMap_nil, List.getElem?_cons_succ, List.getElem?_cons_zero]; rfl)) (fun Z hZ => ?_)
  refine tw_p rfl ?_
  refine sv_move rfl rfl ?_
  refine sv_nil ?_
  refine tw_p rfl ?_
  refine sv_nilCheck rfl rfl ?_
  refine sv_nil ?_
  refine tw_p rfl ?_
  refine sv_fieldAddr rfl tyF115_2 (by first | (simp only [Nat.reduceAdd, Nat.add_zero, Nat.zero_add]; first | done | rfl) | rfl) rfl ?_
  refine sv_nil ?_
  refine tw_p rfl ?_
  first | refine sv_load 0 rfl rfl tyA113 tyS113 rfl rfl ?_ | refine sv_load 1 rfl rfl tyA113 tyS113 rfl rfl ?_
  refine sv_nil ?_
  refine tw_p rfl ?_
  refine sv_move rfl rfl ?_
  refine sv_nil ?_
  refine tw_p rfl ?_
  refine sv_move rfl rfl ?_
  refine sv_nil ?_
  refine tw_p rfl ?_
  refine sv_nilCheck rfl rfl ?_
  refine sv_nil ?_
  refine tw_p rfl ?_
  refine sv_fieldAddr rfl tyF115_2 (by first | (simp only [Nat.reduceAdd, Nat.add_zero, Nat.zero_add]; first | done | rfl) | rfl) rfl ?_
  refine sv_nil ?_
  refine tw_p rfl ?_
  first | refine sv_load 0 rfl rfl tyA113 tyS113 rfl rfl ?_ | refine sv_load 1 rfl rfl tyA113 tyS113 rfl rfl ?_
  refine sv_nil ?_
  refine tw_p rfl ?_
  refine sv_move rfl rfl ?_
  refine sv_nil ?_
  refine tw_p rfl ?_
  refine sv_lookup 1 keyU Try.underlying113 zeroIs q _ rfl rfl rfl hget rfl ?_
  refine sv_nil ?_
  refine tw_p rfl ?_
  refine sv_move rfl rfl ?_
  refine sv_nil ?_
  refine tw_p rfl ?_
  refine sv_nilCheck rfl rfl ?_
  refine sv_nil ?_
  refine tw_p rfl ?_
  refine sv_fieldAddr rfl tyF115_1 (by first | (simp only [Nat.reduceAdd, Nat.add_zero, Nat.zero_add]; first | done | rfl) | rfl) rfl ?_
  refine sv_nil ?_
  refine tw_p rfl ?_
  first | refine sv_load 0 rfl rfl tyA112 tyS112 rfl rfl ?_ | refine sv_load 1 rfl rfl tyA112 tyS112 rfl rfl ?_
  refine sv_nil ?_
  refine tw_p rfl ?_
  first | refine sv_len Try.underlying112 rfl rfl ?_ | refine sv_lenS Try.underlying112 rfl rfl ?_
  refine sv_nil ?_
  refine tw_g rfl ?_
  refine sx_buildSlice Try.underlying131 tyS3 tyZ3 rfl rfl rfl rfl (by first | (simp only [List.take_succ_cons, List.take_zero, List.drop_succ_cons, List.drop_zero, List.cons_append, List.nil_append, List.append_nil, List.length_cons, List.length_nil, Nat.reduceAdd, Nat.zero_add, Nat.add_zero, Value.cells, wrV, zrep_one, List.replicate_succ, List.replicate_zero, Nat.reduceMul, Nat.zero_mul]; first | done | rfl) | rfl) rfl (fun g3 => ?_)
  refine sx_nil ⟨HLe.pick [3, 4] (by simp) rfl, ?_⟩
  refine tw_g rfl ?_
  refine sx_appendE (xs := iqL ks) (_ :: _ :: _ :: _ :: bkE gm B :: (rowE _ 5 1 (bv ts.flatten) ++ (rowE _ 84 2 (ctcells (ctsF 0 ts)) ++ bkH (bkDel B q)))) elemInt rfl hbo (by simp) rfl (fun w hw => rd_own (i := 0) (xs := [iq (ts.length : Nat)]) rfl rfl hw) rfl (by show _ ≤ 9223372036854775807; omega) (by omega) (le_last (X := [_, _, _, _, _]) hbd) rfl (fun vb2 hvb2 => ?_)
  refine sx_nil ⟨HLe.pick [3, 4] (by simp) rfl, ?_⟩
  refine tw_nil ?_
  refine sx_mapUpdate 4 keyU Try.underlying113 q vb2 rfl rfl rfl rfl rfl ?_
  refine sx_nil (hZ _ _ ?_)
  refine awp_forget [(0, _), (1, _), (4, _), (5, _)] (Kn.cons rfl (Kn.cons rfl (Kn.cons rfl (Kn.cons rfl (Kn.nil))))) ?_
  obtain ⟨g', c', rfl⟩ := hvb2.some (by omega)
  have hokB := hokp g' c'
  obtain ⟨b', hb'⟩ : ∃ b' : Bk, b' = ⟨q, g', c', ks ++ [ts.length]⟩ := ⟨_, rfl⟩
  have hkey : b'.key = q := by rw [hb']
  have hbv : b'.v = .slice (some ⟨g', 0, none⟩) (ks.length + 1) c' := by rw [hb']; show Value.slice _ (ks ++ [ts.length]).length _ = _; rw [List.length_append]; rfl
  have hbe : b'.e = .ob g' (RowP 3 1 (ks.length + 1) c' (iqL ks ++ [iq (ts.length : Nat)])) := by rw [hb']; show Ent.ob g' (RowP _ 1 (ks ++ [ts.length]).length c' (iqL (ks ++ [ts.length]))) = _; rw [List.length_append, iqL, List.map_append]; rfl
  have hMB : bkM (bkPut B b') = aput (bkM B) q (.slice (some ⟨g', 0, none⟩) (ks.length + 1) c') := by rw [bkM_put, hkey, hbv]
  have hHB := bkH_put B b'
  rw [hkey, hbe] at hHB
  rw [← hb'] at hokB
  refine awp_heap (.own g2 84 [uq n, wq4 s.length] :: .own g1 84 [uq 0, wq4 0] :: .own gp 115 [.slice At n ct, .slice Ap ts.length cp, .map (some gm)] :: mapE (fun k : Nat => uq k) (fun v : Value => v) gm (aput (bkM B) q (.slice (some ⟨g', 0, none⟩) (ks.length + 1) c')) :: (rowE (.slice At n ct) 5 1 (bv ts.flatten) ++ (rowE (.slice Ap ts.length cp) 84 2 (ctcells (ctsF 0 ts)) ++ bkH (bkPut B b')))) ((HLe.drop 1 rfl).trans (le_lastB (X := [_, _, _, _, _]) hHB)) ?_
  rw [← hMB]

  refine awf_seq_region _ [(0, true), (1, true), (2, true), (3, true), (4, true), (5, true), (6, false), (7, false), (8, true), (9, true)] 10 rfl mixed (by kernel_rfl) (HLe.pick [0, 2] (by simp) (by simp only [pick, List.filterMap_cons, List.filterMap_nil, List.getElem?_cons_succ, List.getElem?_cons_zero]; rfl)) (fun Z hZ => ?_)
  refine tw_p rfl ?_
  refine sv_move rfl rfl ?_
  refine sv_nil ?_
  refine tw_p rfl ?_
  refine sv_move rfl rfl ?_
  refine sv_nil ?_
  refine tw_p rfl ?_
  refine sv_nilCheck rfl rfl ?_
  refine sv_nil ?_
  refine tw_p rfl ?_
  refine sv_fieldAddr rfl tyF115_1 (by first | (simp only [Nat.reduceAdd, Nat.add_zero, Nat.zero_add]; first | done | rfl) | rfl) rfl ?_
  refine sv_nil ?_
  refine tw_p rfl ?_
  first | refine sv_load 0 rfl rfl tyA112 tyS112 rfl rfl ?_ | refine sv_load 1 rfl rfl tyA112 tyS112 rfl rfl ?_
  refine sv_nil ?_
  refine tw_p rfl ?_
  first | refine sv_loadA 0 rfl rfl tyA84 tyS84 (by first | (simp only [List.length_cons, List.length_nil, Nat.reduceAdd, Nat.zero_add, Nat.add_zero]; first | done | rfl) | rfl) (by first | (simp only [List.take_succ_cons, List.take_zero, List.drop_succ_cons, List.drop_zero, List.cons_append, List.nil_append, List.append_nil, List.length_cons, List.length_nil, Nat.reduceAdd, Nat.zero_add, Nat.add_zero, Value.cells, wrV]; first | done | rfl) | rfl) rfl ?_ | refine sv_loadA 1 rfl rfl tyA84 tyS84 (by first | (simp only [List.length_cons, List.length_nil, Nat.reduceAdd, Nat.zero_add, Nat.add_zero]; first | done | rfl) | rfl) (by first | (simp only [List.take_succ_cons, List.take_zero, List.drop_succ_cons, List.drop_zero, List.cons_append, List.nil_append, List.append_nil, List.length_cons, List.length_nil, Nat.reduceAdd, Nat.zero_add, Nat.add_zero, Value.cells, wrV]; first | done | rfl) | rfl) rfl ?_
  refine sv_nil ?_
  refine tw_g rfl ?_
  refine sx_buildSlice Try.underlying112 tyS84 tyZ84 rfl rfl rfl rfl (by first | (simp only [List.take_succ_cons, List.take_zero, List.drop_succ_cons, List.drop_zero, List.cons_append, List.nil_append, List.append_nil, List.length_cons, List.length_nil, Nat.reduceAdd, Nat.zero_add, Nat.add_zero, Value.cells, wrV, zrep_one, List.replicate_succ, List.replicate_zero, Nat.reduceMul, Nat.zero_mul]; first | done | rfl) | rfl) rfl (fun g4 => ?_)
  refine sx_nil ⟨HLe.pick [1, 3] (by simp) rfl, ?_⟩
  refine tw_g rfl ?_
  refine sx_appendE (xs := ctcells (ctsF 0 ts)) (_ :: _ :: _ :: _ :: bkE gm (bkPut B b') :: (rowE _ 5 1 (bv ts.flatten) ++ bkH (bkPut B b'))) elemCt rfl hpv (by rw [ctcells_len, ctsF_len]) rfl (fun w hw => rd_own (i := 0) (xs := ctC (n, s.length)) rfl rfl hw) rfl (by show _ ≤ 9223372036854775807; omega) (by omega) (le_mid (X := [_, _, _, _, _])) rfl (fun pv2 hpv2 => ?_)
  obtain ⟨gl2, cl2, rfl⟩ := hpv2.some (by omega)
  refine sx_nil ⟨HLe.pick [1, 3] (by simp) rfl, ?_⟩
  refine tw_p rfl ?_
  refine sv_nilCheck rfl rfl ?_
  refine sv_nil ?_
  refine tw_p rfl ?_
  refine sv_fieldAddr rfl tyF115_1 (by first | (simp only [Nat.reduceAdd, Nat.add_zero, Nat.zero_add]; first | done | rfl) | rfl) rfl ?_
  refine sv_nil ?_
  refine tw_nil ?_
  first | refine sx_store1 0 rfl rfl rfl tyS112 rfl (by first | (simp only [List.length_cons, List.length_nil, Nat.reduceAdd, Nat.zero_add, Nat.add_zero]; first | done | rfl) | rfl) (by first | (simp only [List.set_cons_succ, List.set_cons_zero, Nat.reduceAdd, Nat.add_zero, Nat.zero_add]; first | done | rfl) | rfl) (by first | (simp only [List.set_cons_succ, List.set_cons_zero]; first | done | rfl) | rfl) ?_ | refine sx_store1 1 rfl rfl rfl tyS112 rfl (by first | (simp only [List.length_cons, List.length_nil, Nat.reduceAdd, Nat.zero_add, Nat.add_zero]; first | done | rfl) | rfl) (by first | (simp only [List.set_cons_succ, List.set_cons_zero, Nat.reduceAdd, Nat.add_zero, Nat.zero_add]; first | done | rfl) | rfl) (by first | (simp only [List.set_cons_succ, List.set_cons_zero]; first | done | rfl) | rfl) ?_ | refine sx_store1 2 rfl rfl rfl tyS112 rfl (by first | (simp only [List.length_cons, List.length_nil, Nat.reduceAdd, Nat.zero_add, Nat.add_zero]; first | done | rfl) | rfl) (by first | (simp only [List.set_cons_succ, List.set_cons_zero, Nat.reduceAdd, Nat.add_zero, Nat.zero_add]; first | done | rfl) | rfl) (by first | (simp only [List.set_cons_succ, List.set_cons_zero]; first | done | rfl) | rfl) ?_ | refine sx_store1 3 rfl rfl rfl tyS112 rfl (by first | (simp only [List.length_cons, List.length_nil, Nat.reduceAdd, Nat.zero_add, Nat.add_zero]; first | done | rfl) | rfl) (by first | (simp only [List.set_cons_succ, List.set_cons_zero, Nat.reduceAdd, Nat.add_zero, Nat.zero_add]; first | done | rfl) | rfl) (by first | (simp only [List.set_cons_succ, List.set_cons_zero]; first | done | rfl) | rfl) ?_ | refine sx_store1 4 rfl rfl rfl tyS112 rfl (by first | (simp only [List.length_cons, List.length_nil, Nat.reduceAdd, Nat.zero_add, Nat.add_zero]; first | done | rfl) | rfl) (by first | (simp only [List.set_cons_succ, List.set_cons_zero, Nat.reduceAdd, Nat.add_zero, Nat.zero_add]; first | done | rfl) | rfl) (by first | (simp only [List.set_cons_succ, List.set_cons_zero]; first | done | rfl) | rfl) ?_
  refine sx_nil (hZ _ _ ?_)
  refine awp_forget [(0, _), (1, _), (4, _), (5, _)] (Kn.cons rfl (Kn.cons rfl (Kn.cons rfl (Kn.cons rfl (Kn.nil))))) ?_
  have hcs : ctsF 0 (ts ++ [s]) = ctsF 0 ts ++ [(n, s.length)] := by rw [ctsF_snoc, hn, Nat.zero_add]
  refine awp_heap (.own g2 84 [uq n, wq4 s.length] :: .own g1 84 [uq 0, wq4 0] :: .own gp 115 [.slice At n ct, .slice (some ⟨gl2, 0, none⟩) (ts.length + 1) cl2, .map (some gm)] :: bkE gm (bkPut B b') :: (rowE (.slice At n ct) 5 1 (bv ts.flatten) ++ (rowE (.slice (some ⟨gl2, 0, none⟩) (ts.length + 1) cl2) 84 2 (ctcells (ctsF 0 ts) ++ ctC (n, s.length)) ++ bkH (bkPut B b')))) ((HLe.drop 1 rfl).trans (le_midB (X := [_, _, _, _, _]))) ?_

  refine awp_seq_region (fun Z hZ => ?_)
  refine sx_move rfl rfl ?_
  refine sx_move rfl rfl ?_
  refine sx_nilCheck rfl rfl ?_
  refine sx_fieldAddr rfl tyF115_0 (by first | (simp only [Nat.reduceAdd, Nat.add_zero, Nat.zero_add]; first | done | rfl) | rfl) rfl ?_
  first | refine sx_load 0 rfl rfl tyA111 tyS111 rfl rfl ?_ | refine sx_load 1 rfl rfl tyA111 tyS111 rfl rfl ?_ | refine sx_load 2 rfl rfl tyA111 tyS111 rfl rfl ?_ | refine sx_load 3 rfl rfl tyA111 tyS111 rfl rfl ?_
  refine sx_move rfl rfl ?_
  refine sx_appendStr (l := ts.flatten) (m := s) (_ :: _ :: _ :: bkE gm (bkPut B b') :: (rowE _ 84 2 (ctcells (ctsF 0 ts) ++ ctC (n, s.length)) ++ bkH (bkPut B b'))) Try.underlying111 Try.underlying9 (by kernel_rfl) rfl (by rw [hn]; exact htv) rfl (by omega) (le_fst (X := [_, _, _, _])) rfl (fun tv2 htv2 => ?_)
  obtain ⟨At2, ct2, rfl, _⟩ := htv2.form
  refine sx_nilCheck rfl rfl ?_
  refine sx_fieldAddr rfl tyF115_0 (by first | (simp only [Nat.reduceAdd, Nat.add_zero, Nat.zero_add]; first | done | rfl) | rfl) rfl ?_
  first | refine sx_store1 0 rfl rfl rfl tyS111 rfl (by first | (simp only [List.length_cons, List.length_nil, Nat.reduceAdd, Nat.zero_add, Nat.add_zero]; first | done | rfl) | rfl) (by first | (simp only [List.set_cons_succ, List.set_cons_zero, Nat.reduceAdd, Nat.add_zero, Nat.zero_add]; first | done | rfl) | rfl) (by first | (simp only [List.set_cons_succ, List.set_cons_zero]; first | done | rfl) | rfl) ?_ | refine sx_store1 1 rfl rfl rfl tyS111 rfl (by first | (simp only [List.length_cons, List.length_nil, Nat.reduceAdd, Nat.zero_add, Nat.add_zero]; first | done | rfl) | rfl) (by first | (simp only [List.set_cons_succ, List.set_cons_zero, Nat.reduceAdd, Nat.add_zero, Nat.zero_add]; first | done | rfl) | rfl) (by first | (simp only [List.set_cons_succ, List.set_cons_zero]; first | done | rfl) | rfl) ?_ | refine sx_store1 2 rfl rfl rfl tyS111 rfl (by first | (simp only [List.length_cons, List.length_nil, Nat.reduceAdd, Nat.zero_add, Nat.add_zero]; first | done | rfl) | rfl) (by first | (simp only [List.set_cons_succ, List.set_cons_zero, Nat.reduceAdd, Nat.add_zero, Nat.zero_add]; first | done | rfl) | rfl) (by first | (simp only [List.set_cons_succ, List.set_cons_zero]; first | done | rfl) | rfl) ?_ | refine sx_store1 3 rfl rfl rfl tyS111 rfl (by first | (simp only [List.length_cons, List.length_nil, Nat.reduceAdd, Nat.zero_add, Nat.add_zero]; first | done | rfl) | rfl) (by first | (simp only [List.set_cons_succ, List.set_cons_zero, Nat.reduceAdd, Nat.add_zero, Nat.zero_add]; first | done | rfl) | rfl) (by first | (simp only [List.set_cons_succ, List.set_cons_zero]; first | done | rfl) | rfl) ?_
  refine sx_nil (hZ _ _ ?_)
  refine awp_forget [(4, _), (5, _)] (Kn.cons rfl (Kn.cons rfl (Kn.nil))) ?_
  refine awp_heap (.own g2 84 [uq n, wq4 s.length] :: .own g1 84 [uq 0, wq4 0] :: .own gp 115 [.slice At2 (ts.flatten ++ s).length ct2, .slice (some ⟨gl2, 0, none⟩) (ts.length + 1) cl2, .map (some gm)] :: bkE gm (bkPut B b') :: (rowE (.slice At2 (ts.flatten ++ s).length ct2) 5 1 (bv (ts.flatten ++ s)) ++ (rowE (.slice (some ⟨gl2, 0, none⟩) (ts.length + 1) cl2) 84 2 (ctcells (ctsF 0 ts) ++ ctC (n, s.length)) ++ bkH (bkPut B b')))) (le_fstB (X := [_, _, _, _])) ?_
  refine awp_seq_region (fun Z hZ => ?_)
  first | refine sx_loadA 0 rfl rfl tyA84 tyS84 (by first | (simp only [List.length_cons, List.length_nil, Nat.reduceAdd, Nat.zero_add, Nat.add_zero]; first | done | rfl) | rfl) (by first | (simp only [List.take_succ_cons, List.take_zero, List.drop_succ_cons, List.drop_zero, List.cons_append, List.nil_append, List.append_nil, List.length_cons, List.length_nil, Nat.reduceAdd, Nat.zero_add, Nat.add_zero, Value.cells, wrV]; first | done | rfl) | rfl) rfl ?_ | refine sx_loadA 1 rfl rfl tyA84 tyS84 (by first | (simp only [List.length_cons, List.length_nil, Nat.reduceAdd, Nat.zero_add, Nat.add_zero]; first | done | rfl) | rfl) (by first | (simp only [List.take_succ_cons, List.take_zero, List.drop_succ_cons, List.drop_zero, List.cons_append, List.nil_append, List.append_nil, List.length_cons, List.length_nil, Nat.reduceAdd, Nat.zero_add, Nat.add_zero, Value.cells, wrV]; first | done | rfl) | rfl) rfl ?_ | refine sx_loadA 2 rfl rfl tyA84 tyS84 (by first | (simp only [List.length_cons, List.length_nil, Nat.reduceAdd, Nat.zero_add, Nat.add_zero]; first | done | rfl) | rfl) (by first | (simp only [List.take_succ_cons, List.take_zero, List.drop_succ_cons, List.drop_zero, List.cons_append, List.nil_append, List.append_nil, List.length_cons, List.length_nil, Nat.reduceAdd, Nat.zero_add, Nat.add_zero, Value.cells, wrV]; first | done | rfl) | rfl) rfl ?_ | refine sx_loadA 3 rfl rfl tyA84 tyS84 (by first | (simp only [List.length_cons, List.length_nil, Nat.reduceAdd, Nat.zero_add, Nat.add_zero]; first | done | rfl) | rfl) (by first | (simp only [List.take_succ_cons, List.take_zero, List.drop_succ_cons, List.drop_zero, List.cons_append, List.nil_append, List.append_nil, List.length_cons, List.length_nil, Nat.reduceAdd, Nat.zero_add, Nat.add_zero, Value.cells, wrV]; first | done | rfl) | rfl) rfl ?_
  first | refine sx_store 0 rfl rfl rfl tyS84 (by first | (simp only [Value.cells]; first | done | rfl) | rfl) rfl rfl (by first | (simp only [List.length_cons, List.length_nil, Nat.reduceAdd, Nat.zero_add, Nat.add_zero]; first | done | rfl) | rfl) (by first | (simp only [List.take_succ_cons, List.take_zero, List.drop_succ_cons, List.drop_zero, List.cons_append, List.nil_append, List.append_nil, List.length_cons, List.length_nil, Nat.reduceAdd, Nat.zero_add, Nat.add_zero, Value.cells, wrV]; first | done | rfl) | rfl) (by first | (simp only [List.set_cons_succ, List.set_cons_zero]; first | done | rfl) | rfl) ?_ | refine sx_store 1 rfl rfl rfl tyS84 (by first | (simp only [Value.cells]; first | done | rfl) | rfl) rfl rfl (by first | (simp only [List.length_cons, List.length_nil, Nat.reduceAdd, Nat.zero_add, Nat.add_zero]; first | done | rfl) | rfl) (by first | (simp only [List.take_succ_cons, List.take_zero, List.drop_succ_cons, List.drop_zero, List.cons_append, List.nil_append, List.append_nil, List.length_cons, List.length_nil, Nat.reduceAdd, Nat.zero_add, Nat.add_zero, Value.cells, wrV]; first | done | rfl) | rfl) (by first | (simp only [List.set_cons_succ, List.set_cons_zero]; first | done | rfl) | rfl) ?_ | refine sx_store 2 rfl rfl rfl tyS84 (by first | (simp only [Value.cells]; first | done | rfl) | rfl) rfl rfl (by first | (simp only [List.length_cons, List.length_nil, Nat.reduceAdd, Nat.zero_add, Nat.add_zero]; first | done | rfl) | rfl) (by first | (simp only [List.take_succ_cons, List.take_zero, List.drop_succ_cons, List.drop_zero, List.cons_append, List.nil_append, List.append_nil, List.length_cons, List.length_nil, Nat.reduceAdd, Nat.zero_add, Nat.add_zero, Value.cells, wrV]; first | done | rfl) | rfl) (by first | (simp only [List.set_cons_succ, List.set_cons_zero]; first | done | rfl) | rfl) ?_ | refine sx_store 3 rfl rfl rfl tyS84 (by first | (simp only [Value.cells]; first | done | rfl) | rfl) rfl rfl (by first | (simp only [List.length_cons, List.length_nil, Nat.reduceAdd, Nat.zero_add, Nat.add_zero]; first | done | rfl) | rfl) (by first | (simp only [List.take_succ_cons, List.take_zero, List.drop_succ_cons, List.drop_zero, List.cons_append, List.nil_append, List.append_nil, List.length_cons, List.length_nil, Nat.reduceAdd, Nat.zero_add, Nat.add_zero, Value.cells, wrV]; first | done | rfl) | rfl) (by first | (simp only [List.set_cons_succ, List.set_cons_zero]; first | done | rfl) | rfl) ?_
  refine sx_nil (hZ _ _ ?_)
  refine awp_forget [(4, _)] (Kn.cons rfl (Kn.nil)) ?_
  refine awp_ret ?_
  repeat (with_reducible (first | refine nx_then_ret ?_ | refine nx_block_ret ?_ | refine nx_scope_ret ?_))
  have hfl2 : (ts ++ [s]).flatten = ts.flatten ++ s := by simp
  refine nx_ret1h _ rfl (ResOk.cell 1 rfl rfl tyA84 tyS84 rfl) (HLe.drop 2 rfl) ⟨rfl, .inr ⟨gm, bkPut B b', .slice At2 (ts.flatten ++ s).length ct2, .slice (some ⟨gl2, 0, none⟩) (ts.length + 1) cl2, ⟨hokB, ?_, ?_⟩, ?_⟩⟩
  · rw [hfl2]; exact htv2
  · rw [List.length_append]; exact hpv2
  · rw [plK, hfl2, hcs, ctcells_app]
    simp [ctcells]
end Go.Proofs.Ytffahimbmpddpaa.V
