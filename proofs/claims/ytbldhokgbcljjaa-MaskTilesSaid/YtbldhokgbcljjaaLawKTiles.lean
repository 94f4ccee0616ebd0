/- MaskTiles. No conditions. -/
import Derived.Test.YtbldhokgbcljjaaMw6
import Derived.Test.YtbldhokgbcljjaaKv7
import Derived.Test.YtbldhokgbcljjaaCu5
import Derived.Test.YtbldhokgbcljjaaCv4
import Derived.Test.YtbldhokgbcljjaaSxO
namespace Go.Proofs.Ytbldhokgbcljjaa
open Go.RowKit
set_option linter.unusedVariables false
set_option linter.unusedSimpArgs false
set_option maxRecDepth 100000
theorem upQ_len (L : List Sp) : (upQ L).length ≤ 27 * (L.length + 4) := by
  have h1 := un_len (eachQ L mkUp 27) []
  have h2 := each_len L mkUp 27
  unfold upQ
  simp only [List.length_nil, Nat.add_zero] at h1
  omega
theorem downQ_len (L : List Sp) : (downQ L).length ≤ 27 * (L.length + 4) := by
  have h1 := un_len (eachQ L mkDown 27) []
  have h2 := each_len L mkDown 27
  unfold downQ
  simp only [List.length_nil, Nat.add_zero] at h1
  omega
theorem zo_len (X : List Sp) (z : Nat) : (zoS X z).length ≤ X.length + 4 := and_len X [⟨base4 z, base4 (z + 1) - 1⟩]
theorem zo_sps (X : List Sp) (z : Nat) : SpsOk (zoS X z) := below_sps (zo_plain X z) (and_below _ _)
theorem less_pl (a b : List Sp) : Plain (lessQ a b) := and_plain _ _
theorem less_be (a b : List Sp) : BelowS 6004799503160661 (lessQ a b) := and_below _ _
theorem less_ln (a b : List Sp) : (lessQ a b).length ≤ a.length + b.length + 4 := by have := and_len a (notQ b); have := not_len b; unfold lessQ; omega
theorem zo_zoom (X : List Sp) {z : Nat} (hz : z ≤ 26) : ZoomQ X (z : Int) = zoS X z := by unfold ZoomQ; rw [if_neg (by omega), Int.toNat_natCast]
theorem totB {L : List Sp} (h : Plain L) (hb : BelowS 6004799503160661 L) : totM L = totalQ L := Nat.mod_eq_of_lt (by have := total_le h hb; omega)
set_option maxHeartbeats 8000000 in
theorem mtiles_fn (A : Option Addr) (c : Nat) (L : List Sp) (T : Heap) (hA : ArgOk A L.length) (hT : 0 < L.length → T = roE A (scells L)) (hro : Ro T) (hL : L.length ≤ maxLen) (ho : SpsOk L) (z x y : Int) :
    Fn Try.prog 7 [.slice A L.length c, tval z x y] T fun v _ => v = .bool true := by
  refine Fn.enter (N := 127) Try.func7 rfl (by kernel_rfl) rfl (fun w0 => ?_)

  refine awp_seq_region (fun Z hZ => ?_)
  refine sx_box rfl rfl rfl (fun g1 => ?_)
  refine sx_assign rfl rfl ?_
  refine sx_nil (hZ _ _ ?_)
  refine awp_forget [(0, _), (3, _)] (Kn.cons rfl (Kn.cons rfl (Kn.nil))) ?_

  refine awp_seq ?_
  refine awp_seq_region (fun Z hZ => ?_)
  refine sx_move rfl rfl ?_
  refine sx_len Try.underlying22 rfl rfl ?_
  refine sx_gtr rfl rfl rfl ?_
  refine sx_nil (hZ _ _ ?_)
  refine awp_forget [(0, _), (3, _), (23, _)] (Kn.cons rfl (Kn.cons rfl (Kn.cons rfl (Kn.nil)))) ?_
  refine awp_cond rfl (fun h => ?_) (fun h => ?_)
  · refine awp_seq_region (fun Z hZ => ?_)
    refine sx_callP m43wake_fn rfl rfl ?_
    refine sx_assign rfl rfl ?_
    refine sx_nil (hZ _ _ ?_)
    refine awp_forget [(4, _)] (Kn.cons rfl (Kn.nil)) ?_
    refine awp_ret ?_
    repeat (with_reducible refine nx_then_ret ?_)
    exact nx_ret1 rfl rfl rfl
  have n1 : L.length ≤ 30 := by simp at h; omega
  refine awp_skip ?_
  with_reducible refine nx_normal ?_
  refine awp_seq_region (fun Z hZ => ?_)
  refine sx_move rfl rfl ?_
  refine sx_callIE T (spans_fn A c L T hA hT hro (by omega)) rfl (HLe.sub (by with_reducible repeat (first | exact List.Sublist.refl _ | exact List.nil_sublist _ | exact List.sublist_append_right _ _ | refine List.Sublist.trans ?_ (List.sublist_append_left _ _) | exact List.Sublist.cons_cons _ (List.nil_sublist _) | refine List.Sublist.cons _ ?_))) hro rfl (fun A1 c1 hA1 => ?_)
  refine sx_callIE (roE A1 (scells L) ++ []) (mor_fn A1 c1 L _ hA1.arg (fun _ => rfl) (Ro.roE _ _) (by omega) ho none 0 [] [] (fun h => absurd h (Nat.lt_irrefl 0)) (fun h => absurd h (Nat.lt_irrefl 0)) Ro.nil (Nat.zero_le _) (fun s hs => by cases hs)) rfl (by rw [List.append_nil]; exact HLe.sub (by with_reducible repeat (first | exact List.Sublist.refl _ | exact List.nil_sublist _ | exact List.sublist_append_right _ _ | refine List.Sublist.trans ?_ (List.sublist_append_left _ _) | exact List.Sublist.cons_cons _ (List.nil_sublist _) | refine List.Sublist.cons _ ?_))) ((Ro.roE _ _).append Ro.nil) rfl (fun Ax cx hAx => ?_)
  refine sx_assign rfl rfl ?_
  refine sx_nil (hZ _ _ ?_)
  refine awp_forget [(3, _), (5, _)] (Kn.cons rfl (Kn.cons rfl (Kn.nil))) ?_
  have hXl : (orQ L []).length ≤ 30 := by have := or_len L []; simp only [List.length_nil] at this; omega
  have hXp := or_plain L []
  have hXb := or_below L []
  obtain ⟨X, hX⟩ : ∃ X, orQ L [] = X := ⟨_, rfl⟩
  rw [hX] at hXl hXp hXb hAx ⊢
  have hXo := below_sps hXp hXb
  have l1 := upQ_len X
  have l2 := downQ_len X
  refine awp_heap (.own g1 48 (tcells z x y) :: roE Ax (scells X)) (HLe.sub (List.Sublist.append (l₁ := [_]) (.cons_cons _ (List.nil_sublist _)) (List.Sublist.refl _))) ?_
  refine awp_seq_region (fun Z hZ => ?_)
  refine sx_move rfl rfl ?_
  refine sx_callIE (roE Ax (scells X)) (mUp_fn Ax cx X _ hAx.arg (fun _ => rfl) (Ro.roE _ _) (by omega) hXo) rfl (HLe.sub (by with_reducible repeat (first | exact List.Sublist.refl _ | exact List.nil_sublist _ | exact List.sublist_append_right _ _ | refine List.Sublist.trans ?_ (List.sublist_append_left _ _) | exact List.Sublist.cons_cons _ (List.nil_sublist _) | refine List.Sublist.cons _ ?_))) (Ro.roE _ _) rfl (fun Au cu hAu => ?_)
  refine sx_move rfl rfl ?_
  refine sx_callIE (roE Ax (scells X)) (mDown_fn Ax cx X _ hAx.arg (fun _ => rfl) (Ro.roE _ _) (by omega) hXo) rfl (HLe.sub (by with_reducible repeat (first | exact List.Sublist.refl _ | exact List.nil_sublist _ | exact List.sublist_append_right _ _ | refine List.Sublist.trans ?_ (List.sublist_append_left _ _) | exact List.Sublist.cons_cons _ (List.nil_sublist _) | refine List.Sublist.cons _ ?_))) (Ro.roE _ _) rfl (fun Ad cd hAd => ?_)
  refine sx_assign rfl rfl ?_
  refine sx_assign rfl rfl ?_
  refine sx_nil (hZ _ _ ?_)
  refine awp_forget [(3, _), (5, _), (6, _), (7, _)] (Kn.cons rfl (Kn.cons rfl (Kn.cons rfl (Kn.cons rfl (Kn.nil))))) ?_
  obtain ⟨H0, hH0⟩ : ∃ H0, roE Ax (scells X) ++ roE Au (scells (upQ X)) ++ roE Ad (scells (downQ X)) = H0 := ⟨_, rfl⟩
  have m1 : (roE Ax (scells X)).Sublist H0 := by rw [← hH0]; exact (by with_reducible repeat (first | exact List.Sublist.refl _ | exact List.nil_sublist _ | exact List.sublist_append_right _ _ | refine List.Sublist.trans ?_ (List.sublist_append_left _ _) | exact List.Sublist.cons_cons _ (List.nil_sublist _) | refine List.Sublist.cons _ ?_))
  have m2 : (roE Au (scells (upQ X))).Sublist H0 := by rw [← hH0]; exact (by with_reducible repeat (first | exact List.Sublist.refl _ | exact List.nil_sublist _ | exact List.sublist_append_right _ _ | refine List.Sublist.trans ?_ (List.sublist_append_left _ _) | exact List.Sublist.cons_cons _ (List.nil_sublist _) | refine List.Sublist.cons _ ?_))
  have m3 : (roE Ad (scells (downQ X))).Sublist H0 := by rw [← hH0]; exact (by with_reducible repeat (first | exact List.Sublist.refl _ | exact List.nil_sublist _ | exact List.sublist_append_right _ _ | refine List.Sublist.trans ?_ (List.sublist_append_left _ _) | exact List.Sublist.cons_cons _ (List.nil_sublist _) | refine List.Sublist.cons _ ?_))
  have hroH : Ro H0 := by rw [← hH0]; exact ((Ro.roE _ _).append (Ro.roE _ _)).append (Ro.roE _ _)
  refine awp_heap (.own g1 48 (tcells z x y) :: H0) (by rw [← hH0]; exact HLe.refl _) ?_
  clear hH0
  refine awp_seq_region (fun Z hZ => ?_)
  first | refine sx_loadA 0 rfl rfl tyA48 tyS48 (by first | (simp only [List.length_cons, List.length_nil, Nat.reduceAdd, Nat.zero_add, Nat.add_zero]; first | done | rfl) | rfl) (by first | (simp only [List.take_succ_cons, List.take_zero, List.drop_succ_cons, List.drop_zero, List.cons_append, List.nil_append, List.append_nil, List.length_cons, List.length_nil, Nat.reduceAdd, Nat.zero_add, Nat.add_zero, Value.cells, wrV]; first | done | rfl) | rfl) rfl ?_
  refine sx_callP (tID_fn z x y) rfl rfl ?_
  refine sx_move rfl rfl ?_
  refine sx_extract rfl rfl rfl ?_
  refine sx_extract rfl rfl rfl ?_
  refine sx_assign rfl rfl ?_
  refine sx_assign rfl rfl ?_
  refine sx_nil (hZ _ _ ?_)
  refine awp_forget [(3, _), (5, _), (6, _), (7, _), (8, _), (9, _)] (Kn.cons rfl (Kn.cons rfl (Kn.cons rfl (Kn.cons rfl (Kn.cons rfl (Kn.cons rfl (Kn.nil))))))) ?_
  refine awp_cut (ι := Unit) (fun _ => [(5, .slice Ax X.length cx), (6, .slice Au (upQ X).length cu)]) (fun _ => H0) (fun _ => True) ?_ ?_
  · refine awp_seq_region (fun Z hZ => ?_)
    refine sx_move rfl rfl ?_
    refine sx_eql rfl rfl rfl ?_
    refine sx_nil (hZ _ _ ?_)
    refine awp_forget [(3, _), (5, _), (6, _), (7, _), (8, _), (38, _)] (Kn.cons rfl (Kn.cons rfl (Kn.cons rfl (Kn.cons rfl (Kn.cons rfl (Kn.cons rfl (Kn.nil))))))) ?_
    refine awp_cond rfl (fun h6 => ?_) (fun h6 => ?_)
    · have hE : placeE z x y = 0 := by simpa using h6
      rcases place_ways z x y with h | ⟨n, rfl, hn, h⟩ | ⟨n, a, b, rfl, rfl, rfl, hn, ha, hb⟩
      · rw [(place_e2 h x y).1] at hE
        exact absurd hE (by decide)
      · rw [(place_e8 hn h).1] at hE
        exact absurd hE (by decide)
      obtain ⟨y1, p1, q1, f, hy1, hp1, hq1, hf, hup⟩ := tUp_any n a b hn ha hb
      obtain ⟨K, zz, g, htg, hg, hdn⟩ := tDown_any n a b hn ha hb
      have hido := tID_fn y1 p1 q1
      rw [(place_e0 hy1 hp1 hq1).1, id_0 hy1 hp1 hq1] at hido
      have hidl := id_lt hn ha hb
      rw [id_0 hn ha hb]
      obtain ⟨id, hidE⟩ : ∃ id, base4 n + hp n a b = id := ⟨_, rfl⟩
      rw [hidE] at hf htg hidl ⊢
      obtain ⟨nid, hnid⟩ : ∃ nid, base4 y1 + hp y1 p1 q1 = nid := ⟨_, rfl⟩
      rw [hnid] at hf hido

      refine awp_seq_region (fun Z hZ => ?_)
      first | refine sx_loadA 0 rfl rfl tyA48 tyS48 (by first | (simp only [List.length_cons, List.length_nil, Nat.reduceAdd, Nat.zero_add, Nat.add_zero]; first | done | rfl) | rfl) (by first | (simp only [List.take_succ_cons, List.take_zero, List.drop_succ_cons, List.drop_zero, List.cons_append, List.nil_append, List.append_nil, List.length_cons, List.length_nil, Nat.reduceAdd, Nat.zero_add, Nat.add_zero, Value.cells, wrV]; first | done | rfl) | rfl) rfl ?_
      refine sx_callP (hup) rfl rfl ?_
      refine sx_move rfl rfl ?_
      refine sx_extract rfl rfl rfl ?_
      refine sx_extract rfl rfl rfl ?_
      refine sx_alloc tyZ52 rfl (fun g2 => ?_)
      refine sx_store 0 rfl rfl rfl tyS52 (by first | (simp only [Value.cells]; first | done | rfl) | rfl) rfl rfl (by first | (simp only [List.length_cons, List.length_nil, Nat.reduceAdd, Nat.zero_add, Nat.add_zero]; first | done | rfl) | rfl) (by first | (simp only [List.take_succ_cons, List.take_zero, List.drop_succ_cons, List.drop_zero, List.cons_append, List.nil_append, List.append_nil, List.length_cons, List.length_nil, Nat.reduceAdd, Nat.zero_add, Nat.add_zero, Value.cells, wrV]; first | done | rfl) | rfl) (by first | (simp only [List.set_cons_succ, List.set_cons_zero]; first | done | rfl) | rfl) ?_
      refine sx_assign rfl rfl ?_
      refine sx_nil (hZ _ _ ?_)
      refine awp_forget [(3, _), (5, _), (6, _), (7, _), (8, _), (10, _), (11, _)] (Kn.cons rfl (Kn.cons rfl (Kn.cons rfl (Kn.cons rfl (Kn.cons rfl (Kn.cons rfl (Kn.cons rfl (Kn.nil)))))))) ?_
      refine awp_seq_region (fun Z hZ => ?_)
      refine sx_loadA 0 rfl rfl tyA52 tyS52 (by first | (simp only [List.length_cons, List.length_nil, Nat.reduceAdd, Nat.zero_add, Nat.add_zero]; first | done | rfl) | rfl) (by first | (simp only [List.take_succ_cons, List.take_zero, List.drop_succ_cons, List.drop_zero, List.cons_append, List.nil_append, List.append_nil, List.length_cons, List.length_nil, Nat.reduceAdd, Nat.zero_add, Nat.add_zero, Value.cells, wrV]; first | done | rfl) | rfl) rfl ?_
      refine sx_callP (hido) rfl rfl ?_
      refine sx_move rfl rfl ?_
      refine sx_extract rfl rfl rfl ?_
      refine sx_extract rfl rfl rfl ?_
      refine sx_assign rfl rfl ?_
      refine sx_assign rfl rfl ?_
      refine sx_nil (hZ _ _ ?_)
      refine awp_forget [(3, _), (5, _), (6, _), (7, _), (8, _), (11, _), (12, _)] (Kn.cons rfl (Kn.cons rfl (Kn.cons rfl (Kn.cons rfl (Kn.cons rfl (Kn.cons rfl (Kn.cons rfl (Kn.nil)))))))) ?_
      refine awp_seq_region (fun Z hZ => ?_)
      refine sx_loadA 1 rfl rfl tyA48 tyS48 (by first | (simp only [List.length_cons, List.length_nil, Nat.reduceAdd, Nat.zero_add, Nat.add_zero]; first | done | rfl) | rfl) (by first | (simp only [List.take_succ_cons, List.take_zero, List.drop_succ_cons, List.drop_zero, List.cons_append, List.nil_append, List.append_nil, List.length_cons, List.length_nil, Nat.reduceAdd, Nat.zero_add, Nat.add_zero, Value.cells, wrV]; first | done | rfl) | rfl) rfl ?_
      refine sx_callU [] hdn rfl (List.nil_sublist _) Ro.nil rfl ?_
      rintro v2 H2 ⟨u, rfl, hu, rfl⟩
      rw [rowE_flt]
      refine sx_move rfl rfl ?_
      refine sx_extract rfl rfl rfl ?_
      refine sx_extract rfl rfl rfl ?_
      refine sx_assign rfl rfl ?_
      refine sx_assign rfl rfl ?_
      refine sx_nil (hZ _ _ ?_)
      refine awp_forget [(5, _), (6, _), (7, _), (8, _), (11, _), (12, _), (14, _), (15, _)] (Kn.cons rfl (Kn.cons rfl (Kn.cons rfl (Kn.cons rfl (Kn.cons rfl (Kn.cons rfl (Kn.cons rfl (Kn.cons rfl (Kn.nil))))))))) ?_
      obtain ⟨Au2, cu2, rfl, hAu2⟩ := hu.form
      refine awp_seq_region (fun Z hZ => ?_)
      refine sx_assign rfl rfl ?_
      refine sx_nil (hZ _ _ ?_)
      refine awp_forget [(5, _), (6, _), (7, _), (8, _), (11, _), (12, _), (14, _), (15, _), (16, _)] (Kn.cons rfl (Kn.cons rfl (Kn.cons rfl (Kn.cons rfl (Kn.cons rfl (Kn.cons rfl (Kn.cons rfl (Kn.cons rfl (Kn.cons rfl (Kn.nil)))))))))) ?_
      refine awp_seq ?_
      refine awp_seq_region (fun Z hZ => ?_)
      refine sx_assign rfl rfl ?_
      refine sx_nil (hZ _ _ ?_)
      refine awp_forget [(5, _), (6, _), (7, _), (8, _), (11, _), (12, _), (14, _), (15, _), (16, _), (17, _)] (Kn.cons rfl (Kn.cons rfl (Kn.cons rfl (Kn.cons rfl (Kn.cons rfl (Kn.cons rfl (Kn.cons rfl (Kn.cons rfl (Kn.cons rfl (Kn.cons rfl (Kn.nil))))))))))) ?_
      obtain ⟨R, hR⟩ : ∃ R : Nat × Nat → Bool, R = fun p => decide (inS X (base4 zz + hp zz p.1 p.2)) := ⟨_, rfl⟩
      refine awp_block ?_
      refine awp_loop (ι := Bool × Nat) (fun s => [(5, .slice Ax X.length cx), (6, .slice Au (upQ X).length cu), (7, .slice Ad (downQ X).length cd), (8, uq id), (11, iq f), (12, uq nid), (14, .slice Au2 K.length cu2), (15, iq g), (16, .bool s.1), (17, iq (s.2 : Nat))]) (fun _ => rowE (.slice Au2 K.length cu2) 52 3 (tlc zz K) ++ H0) (fun s => s.2 ≤ K.length ∧ s.1 = (K.take s.2).any R) (fun s => K.length - s.2) (false, 0) ⟨Nat.zero_le _, rfl⟩ (Kn.cons rfl (Kn.cons rfl (Kn.cons rfl (Kn.cons rfl (Kn.cons rfl (Kn.cons rfl (Kn.cons rfl (Kn.cons rfl (Kn.cons rfl (Kn.cons rfl Kn.nil)))))))))) (HLe.sub (List.Sublist.append_left (.cons _ (.cons _ (List.Sublist.refl _))) _)) ?_
      rintro ⟨o, i⟩ ⟨hi, ho1⟩
      replace hi : i ≤ K.length := hi
      replace ho1 : o = (K.take i).any R := ho1
      refine awp_forget [(5, .slice Ax X.length cx), (6, .slice Au (upQ X).length cu), (7, .slice Ad (downQ X).length cd), (8, uq id), (11, iq f), (12, uq nid), (14, .slice Au2 K.length cu2), (15, iq g), (16, .bool o), (17, iq i)] (Kn.cons rfl (Kn.cons rfl (Kn.cons rfl (Kn.cons rfl (Kn.cons rfl (Kn.cons rfl (Kn.cons rfl (Kn.cons rfl (Kn.cons rfl (Kn.cons rfl Kn.nil)))))))))) ?_
      refine awp_seq ?_
      refine awp_seq_region (fun Z hZ => ?_)
      refine sx_move rfl rfl ?_
      refine sx_move rfl rfl ?_
      refine sx_len Try.underlying55 rfl rfl ?_
      refine sx_lss rfl rfl rfl ?_
      refine sx_nil (hZ _ _ ?_)
      refine awp_forget [(5, _), (6, _), (7, _), (8, _), (11, _), (12, _), (14, _), (15, _), (16, _), (17, _), (57, _)] (Kn.cons rfl (Kn.cons rfl (Kn.cons rfl (Kn.cons rfl (Kn.cons rfl (Kn.cons rfl (Kn.cons rfl (Kn.cons rfl (Kn.cons rfl (Kn.cons rfl (Kn.cons rfl (Kn.nil)))))))))))) ?_
      refine awp_cond rfl (fun h12 => ?_) (fun h12 => ?_)
      · have hlt : i < K.length := by simpa using h12
        obtain ⟨p, hpk⟩ : ∃ p, K[i]? = some p := ⟨_, List.getElem?_eq_getElem hlt⟩
        obtain ⟨hr1, hr2⟩ := htg.ok p (List.mem_of_getElem? hpk)
        have hidp := tID_fn (zz : Nat) p.1 p.2
        rw [(place_e0 htg.zo hr1 hr2).1, id_0 htg.zo hr1 hr2] at hidp
        have hK4 := htg.len
        obtain ⟨r, hr⟩ : ∃ r, R p = r := ⟨_, rfl⟩
        have hr0 := hr
        rw [hR] at hr0
        replace hr0 : decide (inS X (base4 zz + hp zz p.1 p.2)) = r := hr0
        obtain ⟨k, hk⟩ : ∃ k, base4 zz + hp zz p.1 p.2 = k := ⟨_, rfl⟩
        rw [hk] at hidp hr0
        obtain ⟨gk, ck, hgk⟩ := hu.some (by omega)
        injection hgk with hg1 _ hg2
        subst hg1
        subst hg2
        refine awp_skip ?_
        with_reducible refine nx_normal ?_
        refine awp_seq (awp_block ?_)
        refine awp_seq_region (fun Z hZ => ?_)
        refine sx_move rfl rfl ?_
        refine sx_move rfl rfl ?_
        refine sx_indexAddr (0 + i * 3) Try.underlying55 tyS52 rfl rfl (by omega) (by simp) rfl ?_
        refine sx_loadRd (i * 3) rfl (by omega) (fun w hw1 => rd_rowE hu (tlc_len _ _) (fun x hx => List.mem_append_left _ hx) hw1) (by omega) tyA52 tyS52 (tlc_all hpk) rfl ?_
        refine sx_callP (hidp) rfl rfl ?_
        refine sx_move rfl rfl ?_
        refine sx_extract rfl rfl rfl ?_
        refine sx_extract rfl rfl rfl ?_
        refine sx_assign rfl rfl ?_
        refine sx_assign rfl rfl ?_
        refine sx_nil (hZ _ _ ?_)
        refine awp_forget [(5, _), (6, _), (7, _), (8, _), (11, _), (12, _), (14, _), (15, _), (16, _), (17, _), (18, _)] (Kn.cons rfl (Kn.cons rfl (Kn.cons rfl (Kn.cons rfl (Kn.cons rfl (Kn.cons rfl (Kn.cons rfl (Kn.cons rfl (Kn.cons rfl (Kn.cons rfl (Kn.cons rfl (Kn.nil)))))))))))) ?_
        refine awp_endmeet ([(5, .slice Ax X.length cx), (6, .slice Au (upQ X).length cu), (7, .slice Ad (downQ X).length cd), (8, uq id), (11, iq f), (12, uq nid), (14, .slice (some ⟨gk, 0, none⟩) K.length cu2), (15, iq g), (17, iq i), (16, .bool (Bool.or o r))]) ((rowE (.slice (some ⟨gk, 0, none⟩) K.length cu2) 52 3 (tlc zz K) ++ H0)) ?_ ?_
        · refine awp_region (fun Z hZ => ?_)
          refine sx_move rfl rfl ?_
          refine sx_move rfl rfl ?_
          refine sx_split 69 rfl (fun hb1 => ?_) (fun hb1 => ?_)
          · refine sx_off rfl rfl rfl rfl rfl ?_
            refine sx_off rfl rfl rfl rfl rfl ?_
            refine sx_off rfl rfl rfl rfl rfl ?_
            refine sx_pick rfl rfl rfl ?_
            refine sx_assign rfl rfl ?_
            refine sx_nil (hZ _ _ (nx_cut () trivial ?_ ?_))
            · exact Kn.cons rfl (Kn.cons rfl (Kn.cons rfl (Kn.cons rfl (Kn.cons rfl (Kn.cons rfl (Kn.cons rfl (Kn.cons rfl (Kn.cons rfl (Kn.cons (congrArg some (congrArg Value.bool (by first | (cases o <;> cases r <;> first | rfl | (exfalso; simp at hb1; done)) | simp_all))) Kn.nil)))))))))
            · exact HLe.refl _
          · refine sx_on rfl rfl rfl ?_
            refine sx_move rfl rfl ?_
            refine sx_on rfl rfl rfl ?_
            refine sx_move rfl rfl ?_
            refine sx_on rfl rfl rfl ?_
            refine sx_callV (roE Ax (scells X)) (sin_fn Ax cx X _ hAx.arg (fun _ => rfl) (Ro.roE _ _) (by omega) k) rfl (HLe.sub (m1.trans (List.sublist_append_right _ _))) (Ro.roE _ _) rfl ?_
            rw [hr0]
            refine sx_pick rfl rfl rfl ?_
            refine sx_assign rfl rfl ?_
            refine sx_nil (hZ _ _ (nx_cut () trivial ?_ ?_))
            · exact Kn.cons rfl (Kn.cons rfl (Kn.cons rfl (Kn.cons rfl (Kn.cons rfl (Kn.cons rfl (Kn.cons rfl (Kn.cons rfl (Kn.cons rfl (Kn.cons (congrArg some (congrArg Value.bool (by first | (cases o <;> cases r <;> first | rfl | (exfalso; simp at hb1; done)) | simp_all))) Kn.nil)))))))))
            · exact HLe.refl _
        repeat (with_reducible refine nx_block_normal ?_)
        with_reducible refine nx_normal ?_
        refine awp_region (fun Z hZ => ?_)
        refine sx_move rfl rfl ?_
        refine sx_add rfl rfl ((i + 1 : Nat) : Int) (by rw [IntWalk.i64_in _ (by omega)]; omega) rfl ?_
        refine sx_assign rfl rfl ?_
        refine sx_nil (hZ _ _ ?_)
        refine nx_forget [(5, _), (6, _), (7, _), (8, _), (11, _), (12, _), (14, _), (15, _), (16, _), (17, _)] (Kn.cons rfl (Kn.cons rfl (Kn.cons rfl (Kn.cons rfl (Kn.cons rfl (Kn.cons rfl (Kn.cons rfl (Kn.cons rfl (Kn.cons rfl (Kn.cons rfl (Kn.nil))))))))))) ?_
        refine nx_round (o || r, i + 1) ⟨hlt, ?_⟩ (show K.length - (i + 1) < K.length - i by omega) (Kn.cons rfl (Kn.cons rfl (Kn.cons rfl (Kn.cons rfl (Kn.cons rfl (Kn.cons rfl (Kn.cons rfl (Kn.cons rfl (Kn.cons rfl (Kn.cons rfl Kn.nil)))))))))) (HLe.refl _)
        show (o || r) = (K.take (i + 1)).any R
        obtain ⟨hlt2, hpe⟩ := List.getElem?_eq_some_iff.1 hpk
        rw [List.take_succ_eq_append_getElem hlt2, hpe, List.any_append, ← ho1, List.any_cons, List.any_nil, Bool.or_false, hr]
      · refine awp_exit ?_
        repeat (with_reducible refine nx_then_exit ?_)
        with_reducible refine nx_block_exit ?_
        with_reducible refine nx_normal ?_
        obtain rfl : i = K.length := by simp at h12; omega
        rw [List.take_length] at ho1
        have hone : decide (inS (upQ X) id) = o := by
          rw [ho1, Bool.eq_iff_iff, decide_eq_true_iff, upQ_in, List.any_eq_true, hR]
          constructor
          · rintro ⟨j, h1, h2, h3, h4⟩
            obtain ⟨p, h5, h6⟩ := (htg.is_ j).2 ⟨h1, h3, h4⟩
            exact ⟨p, h5, decide_eq_true (by rw [h6]; exact h2)⟩
          · rintro ⟨p, h5, h6⟩
            obtain ⟨h1, h2, h3⟩ := (htg.is_ _).1 ⟨p, h5, rfl⟩
            exact ⟨_, h1, of_decide_eq_true h6, h2, h3⟩
        have hgo : g = 0 ∨ (g = 6 ∧ o = false) := hg.imp (fun h => h) fun ⟨h1, h2⟩ => ⟨h1, by rw [ho1, h2]; rfl⟩
        obtain ⟨inx, hinx⟩ : ∃ b, decide (inS X nid) = b := ⟨_, rfl⟩
        have hdc : (f = 0 ∧ decide (inS (downQ X) id) = inx) ∨ (f = 6 ∧ decide (inS (downQ X) id) = false) := by
          rcases hf with ⟨h1, h2, h3⟩ | ⟨h1, h2⟩
          · refine .inl ⟨h1, ?_⟩
            rw [← hinx, h3, Bool.eq_iff_iff, decide_eq_true_iff, decide_eq_true_iff, downQ_in]
            exact ⟨fun hh => hh.2.2, fun hh => ⟨hidl, h2, hh⟩⟩
          · refine .inr ⟨h1, decide_eq_false fun hh => ?_⟩
            have := ((downQ_in X id).1 hh).2.1
            omega
        clear hR ho1 hf hg hup hdn htg hido
        rcases hdc with ⟨rfl, hdc⟩ | ⟨rfl, hdc⟩
        · rcases hgo with rfl | ⟨rfl, rfl⟩
          · cases inx <;> cases o
            · refine awp_seq_region (fun Z hZ => ?_)
              refine sx_move rfl rfl ?_
              refine sx_move rfl rfl ?_
              refine sx_callV (roE Ad (scells (downQ X))) (sin_fn Ad cd (downQ X) _ hAd.arg (fun _ => rfl) (Ro.roE _ _) (by omega) id) rfl (HLe.sub (m3.trans (List.sublist_append_right _ _))) (Ro.roE _ _) rfl ?_
              rw [hdc]
              refine sx_move rfl rfl ?_
              refine sx_eql rfl rfl rfl ?_
              refine sx_move rfl rfl ?_
              refine sx_force 79 rfl true (by first | rfl | (simp; done) | (simp; omega)) ?_
              refine sx_on rfl rfl rfl ?_
              refine sx_move rfl rfl ?_
              refine sx_on rfl rfl rfl ?_
              refine sx_move rfl rfl ?_
              refine sx_on rfl rfl rfl ?_
              refine sx_callV (roE Ax (scells X)) (sin_fn Ax cx X _ hAx.arg (fun _ => rfl) (Ro.roE _ _) (by omega) nid) rfl (HLe.sub (m1.trans (List.sublist_append_right _ _))) (Ro.roE _ _) rfl ?_
              rw [hinx]
              refine sx_pick rfl rfl rfl ?_
              refine sx_bneq Try.underlying4 rfl rfl rfl ?_
              refine sx_move rfl rfl ?_
              refine sx_force 85 rfl false (by first | rfl | (simp; done) | (simp; omega)) ?_
              refine sx_on rfl rfl rfl ?_
              refine sx_move rfl rfl ?_
              refine sx_on rfl rfl rfl ?_
              refine sx_move rfl rfl ?_
              refine sx_on rfl rfl rfl ?_
              refine sx_callV (roE Au (scells (upQ X))) (sin_fn Au cu (upQ X) _ hAu.arg (fun _ => rfl) (Ro.roE _ _) (by omega) id) rfl (HLe.sub (m2.trans (List.sublist_append_right _ _))) (Ro.roE _ _) rfl ?_
              rw [hone]
              refine sx_on rfl rfl rfl ?_
              refine sx_move rfl rfl ?_
              refine sx_on rfl rfl rfl ?_
              refine sx_eql rfl rfl rfl ?_
              refine sx_on rfl rfl rfl ?_
              refine sx_move rfl rfl ?_
              refine sx_force 91 rfl true (by first | rfl | (simp; done) | (simp; omega)) ?_
              refine sx_on rfl rfl rfl ?_
              refine sx_move rfl rfl ?_
              refine sx_on rfl rfl rfl ?_
              refine sx_pick rfl rfl rfl ?_
              refine sx_on rfl rfl rfl ?_
              refine sx_bneq Try.underlying4 rfl rfl rfl ?_
              refine sx_pick rfl rfl rfl ?_
              refine sx_nil (hZ _ _ ?_)
              refine awp_forget [(5, _), (6, _), (95, _)] (Kn.cons rfl (Kn.cons rfl (Kn.cons rfl (Kn.nil)))) ?_
              refine awp_cond rfl (fun hz => ?_) (fun hz => ?_)
              · cases hz
              refine awp_skip ?_
              exact nx_cut () trivial (Kn.cons rfl (Kn.cons rfl Kn.nil)) (HLe.sub (List.sublist_append_right _ _))
            · refine awp_seq_region (fun Z hZ => ?_)
              refine sx_move rfl rfl ?_
              refine sx_move rfl rfl ?_
              refine sx_callV (roE Ad (scells (downQ X))) (sin_fn Ad cd (downQ X) _ hAd.arg (fun _ => rfl) (Ro.roE _ _) (by omega) id) rfl (HLe.sub (m3.trans (List.sublist_append_right _ _))) (Ro.roE _ _) rfl ?_
              rw [hdc]
              refine sx_move rfl rfl ?_
              refine sx_eql rfl rfl rfl ?_
              refine sx_move rfl rfl ?_
              refine sx_force 79 rfl true (by first | rfl | (simp; done) | (simp; omega)) ?_
              refine sx_on rfl rfl rfl ?_
              refine sx_move rfl rfl ?_
              refine sx_on rfl rfl rfl ?_
              refine sx_move rfl rfl ?_
              refine sx_on rfl rfl rfl ?_
              refine sx_callV (roE Ax (scells X)) (sin_fn Ax cx X _ hAx.arg (fun _ => rfl) (Ro.roE _ _) (by omega) nid) rfl (HLe.sub (m1.trans (List.sublist_append_right _ _))) (Ro.roE _ _) rfl ?_
              rw [hinx]
              refine sx_pick rfl rfl rfl ?_
              refine sx_bneq Try.underlying4 rfl rfl rfl ?_
              refine sx_move rfl rfl ?_
              refine sx_force 85 rfl false (by first | rfl | (simp; done) | (simp; omega)) ?_
              refine sx_on rfl rfl rfl ?_
              refine sx_move rfl rfl ?_
              refine sx_on rfl rfl rfl ?_
              refine sx_move rfl rfl ?_
              refine sx_on rfl rfl rfl ?_
              refine sx_callV (roE Au (scells (upQ X))) (sin_fn Au cu (upQ X) _ hAu.arg (fun _ => rfl) (Ro.roE _ _) (by omega) id) rfl (HLe.sub (m2.trans (List.sublist_append_right _ _))) (Ro.roE _ _) rfl ?_
              rw [hone]
              refine sx_on rfl rfl rfl ?_
              refine sx_move rfl rfl ?_
              refine sx_on rfl rfl rfl ?_
              refine sx_eql rfl rfl rfl ?_
              refine sx_on rfl rfl rfl ?_
              refine sx_move rfl rfl ?_
              refine sx_force 91 rfl true (by first | rfl | (simp; done) | (simp; omega)) ?_
              refine sx_on rfl rfl rfl ?_
              refine sx_move rfl rfl ?_
              refine sx_on rfl rfl rfl ?_
              refine sx_pick rfl rfl rfl ?_
              refine sx_on rfl rfl rfl ?_
              refine sx_bneq Try.underlying4 rfl rfl rfl ?_
              refine sx_pick rfl rfl rfl ?_
              refine sx_nil (hZ _ _ ?_)
              refine awp_forget [(5, _), (6, _), (95, _)] (Kn.cons rfl (Kn.cons rfl (Kn.cons rfl (Kn.nil)))) ?_
              refine awp_cond rfl (fun hz => ?_) (fun hz => ?_)
              · cases hz
              refine awp_skip ?_
              exact nx_cut () trivial (Kn.cons rfl (Kn.cons rfl Kn.nil)) (HLe.sub (List.sublist_append_right _ _))
            · refine awp_seq_region (fun Z hZ => ?_)
              refine sx_move rfl rfl ?_
              refine sx_move rfl rfl ?_
              refine sx_callV (roE Ad (scells (downQ X))) (sin_fn Ad cd (downQ X) _ hAd.arg (fun _ => rfl) (Ro.roE _ _) (by omega) id) rfl (HLe.sub (m3.trans (List.sublist_append_right _ _))) (Ro.roE _ _) rfl ?_
              rw [hdc]
              refine sx_move rfl rfl ?_
              refine sx_eql rfl rfl rfl ?_
              refine sx_move rfl rfl ?_
              refine sx_force 79 rfl true (by first | rfl | (simp; done) | (simp; omega)) ?_
              refine sx_on rfl rfl rfl ?_
              refine sx_move rfl rfl ?_
              refine sx_on rfl rfl rfl ?_
              refine sx_move rfl rfl ?_
              refine sx_on rfl rfl rfl ?_
              refine sx_callV (roE Ax (scells X)) (sin_fn Ax cx X _ hAx.arg (fun _ => rfl) (Ro.roE _ _) (by omega) nid) rfl (HLe.sub (m1.trans (List.sublist_append_right _ _))) (Ro.roE _ _) rfl ?_
              rw [hinx]
              refine sx_pick rfl rfl rfl ?_
              refine sx_bneq Try.underlying4 rfl rfl rfl ?_
              refine sx_move rfl rfl ?_
              refine sx_force 85 rfl false (by first | rfl | (simp; done) | (simp; omega)) ?_
              refine sx_on rfl rfl rfl ?_
              refine sx_move rfl rfl ?_
              refine sx_on rfl rfl rfl ?_
              refine sx_move rfl rfl ?_
              refine sx_on rfl rfl rfl ?_
              refine sx_callV (roE Au (scells (upQ X))) (sin_fn Au cu (upQ X) _ hAu.arg (fun _ => rfl) (Ro.roE _ _) (by omega) id) rfl (HLe.sub (m2.trans (List.sublist_append_right _ _))) (Ro.roE _ _) rfl ?_
              rw [hone]
              refine sx_on rfl rfl rfl ?_
              refine sx_move rfl rfl ?_
              refine sx_on rfl rfl rfl ?_
              refine sx_eql rfl rfl rfl ?_
              refine sx_on rfl rfl rfl ?_
              refine sx_move rfl rfl ?_
              refine sx_force 91 rfl true (by first | rfl | (simp; done) | (simp; omega)) ?_
              refine sx_on rfl rfl rfl ?_
              refine sx_move rfl rfl ?_
              refine sx_on rfl rfl rfl ?_
              refine sx_pick rfl rfl rfl ?_
              refine sx_on rfl rfl rfl ?_
              refine sx_bneq Try.underlying4 rfl rfl rfl ?_
              refine sx_pick rfl rfl rfl ?_
              refine sx_nil (hZ _ _ ?_)
              refine awp_forget [(5, _), (6, _), (95, _)] (Kn.cons rfl (Kn.cons rfl (Kn.cons rfl (Kn.nil)))) ?_
              refine awp_cond rfl (fun hz => ?_) (fun hz => ?_)
              · cases hz
              refine awp_skip ?_
              exact nx_cut () trivial (Kn.cons rfl (Kn.cons rfl Kn.nil)) (HLe.sub (List.sublist_append_right _ _))
            · refine awp_seq_region (fun Z hZ => ?_)
              refine sx_move rfl rfl ?_
              refine sx_move rfl rfl ?_
              refine sx_callV (roE Ad (scells (downQ X))) (sin_fn Ad cd (downQ X) _ hAd.arg (fun _ => rfl) (Ro.roE _ _) (by omega) id) rfl (HLe.sub (m3.trans (List.sublist_append_right _ _))) (Ro.roE _ _) rfl ?_
              rw [hdc]
              refine sx_move rfl rfl ?_
              refine sx_eql rfl rfl rfl ?_
              refine sx_move rfl rfl ?_
              refine sx_force 79 rfl true (by first | rfl | (simp; done) | (simp; omega)) ?_
              refine sx_on rfl rfl rfl ?_
              refine sx_move rfl rfl ?_
              refine sx_on rfl rfl rfl ?_
              refine sx_move rfl rfl ?_
              refine sx_on rfl rfl rfl ?_
              refine sx_callV (roE Ax (scells X)) (sin_fn Ax cx X _ hAx.arg (fun _ => rfl) (Ro.roE _ _) (by omega) nid) rfl (HLe.sub (m1.trans (List.sublist_append_right _ _))) (Ro.roE _ _) rfl ?_
              rw [hinx]
              refine sx_pick rfl rfl rfl ?_
              refine sx_bneq Try.underlying4 rfl rfl rfl ?_
              refine sx_move rfl rfl ?_
              refine sx_force 85 rfl false (by first | rfl | (simp; done) | (simp; omega)) ?_
              refine sx_on rfl rfl rfl ?_
              refine sx_move rfl rfl ?_
              refine sx_on rfl rfl rfl ?_
              refine sx_move rfl rfl ?_
              refine sx_on rfl rfl rfl ?_
              refine sx_callV (roE Au (scells (upQ X))) (sin_fn Au cu (upQ X) _ hAu.arg (fun _ => rfl) (Ro.roE _ _) (by omega) id) rfl (HLe.sub (m2.trans (List.sublist_append_right _ _))) (Ro.roE _ _) rfl ?_
              rw [hone]
              refine sx_on rfl rfl rfl ?_
              refine sx_move rfl rfl ?_
              refine sx_on rfl rfl rfl ?_
              refine sx_eql rfl rfl rfl ?_
              refine sx_on rfl rfl rfl ?_
              refine sx_move rfl rfl ?_
              refine sx_force 91 rfl true (by first | rfl | (simp; done) | (simp; omega)) ?_
              refine sx_on rfl rfl rfl ?_
              refine sx_move rfl rfl ?_
              refine sx_on rfl rfl rfl ?_
              refine sx_pick rfl rfl rfl ?_
              refine sx_on rfl rfl rfl ?_
              refine sx_bneq Try.underlying4 rfl rfl rfl ?_
              refine sx_pick rfl rfl rfl ?_
              refine sx_nil (hZ _ _ ?_)
              refine awp_forget [(5, _), (6, _), (95, _)] (Kn.cons rfl (Kn.cons rfl (Kn.cons rfl (Kn.nil)))) ?_
              refine awp_cond rfl (fun hz => ?_) (fun hz => ?_)
              · cases hz
              refine awp_skip ?_
              exact nx_cut () trivial (Kn.cons rfl (Kn.cons rfl Kn.nil)) (HLe.sub (List.sublist_append_right _ _))
          · cases inx
            · refine awp_seq_region (fun Z hZ => ?_)
              refine sx_move rfl rfl ?_
              refine sx_move rfl rfl ?_
              refine sx_callV (roE Ad (scells (downQ X))) (sin_fn Ad cd (downQ X) _ hAd.arg (fun _ => rfl) (Ro.roE _ _) (by omega) id) rfl (HLe.sub (m3.trans (List.sublist_append_right _ _))) (Ro.roE _ _) rfl ?_
              rw [hdc]
              refine sx_move rfl rfl ?_
              refine sx_eql rfl rfl rfl ?_
              refine sx_move rfl rfl ?_
              refine sx_force 79 rfl true (by first | rfl | (simp; done) | (simp; omega)) ?_
              refine sx_on rfl rfl rfl ?_
              refine sx_move rfl rfl ?_
              refine sx_on rfl rfl rfl ?_
              refine sx_move rfl rfl ?_
              refine sx_on rfl rfl rfl ?_
              refine sx_callV (roE Ax (scells X)) (sin_fn Ax cx X _ hAx.arg (fun _ => rfl) (Ro.roE _ _) (by omega) nid) rfl (HLe.sub (m1.trans (List.sublist_append_right _ _))) (Ro.roE _ _) rfl ?_
              rw [hinx]
              refine sx_pick rfl rfl rfl ?_
              refine sx_bneq Try.underlying4 rfl rfl rfl ?_
              refine sx_move rfl rfl ?_
              refine sx_force 85 rfl false (by first | rfl | (simp; done) | (simp; omega)) ?_
              refine sx_on rfl rfl rfl ?_
              refine sx_move rfl rfl ?_
              refine sx_on rfl rfl rfl ?_
              refine sx_move rfl rfl ?_
              refine sx_on rfl rfl rfl ?_
              refine sx_callV (roE Au (scells (upQ X))) (sin_fn Au cu (upQ X) _ hAu.arg (fun _ => rfl) (Ro.roE _ _) (by omega) id) rfl (HLe.sub (m2.trans (List.sublist_append_right _ _))) (Ro.roE _ _) rfl ?_
              rw [hone]
              refine sx_on rfl rfl rfl ?_
              refine sx_move rfl rfl ?_
              refine sx_on rfl rfl rfl ?_
              refine sx_eql rfl rfl rfl ?_
              refine sx_on rfl rfl rfl ?_
              refine sx_move rfl rfl ?_
              refine sx_force 91 rfl false (by first | rfl | (simp; done) | (simp; omega)) ?_
              refine sx_off rfl rfl rfl rfl rfl ?_
              refine sx_on rfl rfl rfl ?_
              refine sx_pick rfl rfl rfl ?_
              refine sx_on rfl rfl rfl ?_
              refine sx_bneq Try.underlying4 rfl rfl rfl ?_
              refine sx_pick rfl rfl rfl ?_
              refine sx_nil (hZ _ _ ?_)
              refine awp_forget [(5, _), (6, _), (95, _)] (Kn.cons rfl (Kn.cons rfl (Kn.cons rfl (Kn.nil)))) ?_
              refine awp_cond rfl (fun hz => ?_) (fun hz => ?_)
              · cases hz
              refine awp_skip ?_
              exact nx_cut () trivial (Kn.cons rfl (Kn.cons rfl Kn.nil)) (HLe.sub (List.sublist_append_right _ _))
            · refine awp_seq_region (fun Z hZ => ?_)
              refine sx_move rfl rfl ?_
              refine sx_move rfl rfl ?_
              refine sx_callV (roE Ad (scells (downQ X))) (sin_fn Ad cd (downQ X) _ hAd.arg (fun _ => rfl) (Ro.roE _ _) (by omega) id) rfl (HLe.sub (m3.trans (List.sublist_append_right _ _))) (Ro.roE _ _) rfl ?_
              rw [hdc]
              refine sx_move rfl rfl ?_
              refine sx_eql rfl rfl rfl ?_
              refine sx_move rfl rfl ?_
              refine sx_force 79 rfl true (by first | rfl | (simp; done) | (simp; omega)) ?_
              refine sx_on rfl rfl rfl ?_
              refine sx_move rfl rfl ?_
              refine sx_on rfl rfl rfl ?_
              refine sx_move rfl rfl ?_
              refine sx_on rfl rfl rfl ?_
              refine sx_callV (roE Ax (scells X)) (sin_fn Ax cx X _ hAx.arg (fun _ => rfl) (Ro.roE _ _) (by omega) nid) rfl (HLe.sub (m1.trans (List.sublist_append_right _ _))) (Ro.roE _ _) rfl ?_
              rw [hinx]
              refine sx_pick rfl rfl rfl ?_
              refine sx_bneq Try.underlying4 rfl rfl rfl ?_
              refine sx_move rfl rfl ?_
              refine sx_force 85 rfl false (by first | rfl | (simp; done) | (simp; omega)) ?_
              refine sx_on rfl rfl rfl ?_
              refine sx_move rfl rfl ?_
              refine sx_on rfl rfl rfl ?_
              refine sx_move rfl rfl ?_
              refine sx_on rfl rfl rfl ?_
              refine sx_callV (roE Au (scells (upQ X))) (sin_fn Au cu (upQ X) _ hAu.arg (fun _ => rfl) (Ro.roE _ _) (by omega) id) rfl (HLe.sub (m2.trans (List.sublist_append_right _ _))) (Ro.roE _ _) rfl ?_
              rw [hone]
              refine sx_on rfl rfl rfl ?_
              refine sx_move rfl rfl ?_
              refine sx_on rfl rfl rfl ?_
              refine sx_eql rfl rfl rfl ?_
              refine sx_on rfl rfl rfl ?_
              refine sx_move rfl rfl ?_
              refine sx_force 91 rfl false (by first | rfl | (simp; done) | (simp; omega)) ?_
              refine sx_off rfl rfl rfl rfl rfl ?_
              refine sx_on rfl rfl rfl ?_
              refine sx_pick rfl rfl rfl ?_
              refine sx_on rfl rfl rfl ?_
              refine sx_bneq Try.underlying4 rfl rfl rfl ?_
              refine sx_pick rfl rfl rfl ?_
              refine sx_nil (hZ _ _ ?_)
              refine awp_forget [(5, _), (6, _), (95, _)] (Kn.cons rfl (Kn.cons rfl (Kn.cons rfl (Kn.nil)))) ?_
              refine awp_cond rfl (fun hz => ?_) (fun hz => ?_)
              · cases hz
              refine awp_skip ?_
              exact nx_cut () trivial (Kn.cons rfl (Kn.cons rfl Kn.nil)) (HLe.sub (List.sublist_append_right _ _))
        · rcases hgo with rfl | ⟨rfl, rfl⟩
          · cases o
            · refine awp_seq_region (fun Z hZ => ?_)
              refine sx_move rfl rfl ?_
              refine sx_move rfl rfl ?_
              refine sx_callV (roE Ad (scells (downQ X))) (sin_fn Ad cd (downQ X) _ hAd.arg (fun _ => rfl) (Ro.roE _ _) (by omega) id) rfl (HLe.sub (m3.trans (List.sublist_append_right _ _))) (Ro.roE _ _) rfl ?_
              rw [hdc]
              refine sx_move rfl rfl ?_
              refine sx_eql rfl rfl rfl ?_
              refine sx_move rfl rfl ?_
              refine sx_force 79 rfl false (by first | rfl | (simp; done) | (simp; omega)) ?_
              refine sx_off rfl rfl rfl rfl rfl ?_
              refine sx_off rfl rfl rfl rfl rfl ?_
              refine sx_off rfl rfl rfl rfl rfl ?_
              refine sx_pick rfl rfl rfl ?_
              refine sx_bneq Try.underlying4 rfl rfl rfl ?_
              refine sx_move rfl rfl ?_
              refine sx_force 85 rfl false (by first | rfl | (simp; done) | (simp; omega)) ?_
              refine sx_on rfl rfl rfl ?_
              refine sx_move rfl rfl ?_
              refine sx_on rfl rfl rfl ?_
              refine sx_move rfl rfl ?_
              refine sx_on rfl rfl rfl ?_
              refine sx_callV (roE Au (scells (upQ X))) (sin_fn Au cu (upQ X) _ hAu.arg (fun _ => rfl) (Ro.roE _ _) (by omega) id) rfl (HLe.sub (m2.trans (List.sublist_append_right _ _))) (Ro.roE _ _) rfl ?_
              rw [hone]
              refine sx_on rfl rfl rfl ?_
              refine sx_move rfl rfl ?_
              refine sx_on rfl rfl rfl ?_
              refine sx_eql rfl rfl rfl ?_
              refine sx_on rfl rfl rfl ?_
              refine sx_move rfl rfl ?_
              refine sx_force 91 rfl true (by first | rfl | (simp; done) | (simp; omega)) ?_
              refine sx_on rfl rfl rfl ?_
              refine sx_move rfl rfl ?_
              refine sx_on rfl rfl rfl ?_
              refine sx_pick rfl rfl rfl ?_
              refine sx_on rfl rfl rfl ?_
              refine sx_bneq Try.underlying4 rfl rfl rfl ?_
              refine sx_pick rfl rfl rfl ?_
              refine sx_nil (hZ _ _ ?_)
              refine awp_forget [(5, _), (6, _), (95, _)] (Kn.cons rfl (Kn.cons rfl (Kn.cons rfl (Kn.nil)))) ?_
              refine awp_cond rfl (fun hz => ?_) (fun hz => ?_)
              · cases hz
              refine awp_skip ?_
              exact nx_cut () trivial (Kn.cons rfl (Kn.cons rfl Kn.nil)) (HLe.sub (List.sublist_append_right _ _))
            · refine awp_seq_region (fun Z hZ => ?_)
              refine sx_move rfl rfl ?_
              refine sx_move rfl rfl ?_
              refine sx_callV (roE Ad (scells (downQ X))) (sin_fn Ad cd (downQ X) _ hAd.arg (fun _ => rfl) (Ro.roE _ _) (by omega) id) rfl (HLe.sub (m3.trans (List.sublist_append_right _ _))) (Ro.roE _ _) rfl ?_
              rw [hdc]
              refine sx_move rfl rfl ?_
              refine sx_eql rfl rfl rfl ?_
              refine sx_move rfl rfl ?_
              refine sx_force 79 rfl false (by first | rfl | (simp; done) | (simp; omega)) ?_
              refine sx_off rfl rfl rfl rfl rfl ?_
              refine sx_off rfl rfl rfl rfl rfl ?_
              refine sx_off rfl rfl rfl rfl rfl ?_
              refine sx_pick rfl rfl rfl ?_
              refine sx_bneq Try.underlying4 rfl rfl rfl ?_
              refine sx_move rfl rfl ?_
              refine sx_force 85 rfl false (by first | rfl | (simp; done) | (simp; omega)) ?_
              refine sx_on rfl rfl rfl ?_
              refine sx_move rfl rfl ?_
              refine sx_on rfl rfl rfl ?_
              refine sx_move rfl rfl ?_
              refine sx_on rfl rfl rfl ?_
              refine sx_callV (roE Au (scells (upQ X))) (sin_fn Au cu (upQ X) _ hAu.arg (fun _ => rfl) (Ro.roE _ _) (by omega) id) rfl (HLe.sub (m2.trans (List.sublist_append_right _ _))) (Ro.roE _ _) rfl ?_
              rw [hone]
              refine sx_on rfl rfl rfl ?_
              refine sx_move rfl rfl ?_
              refine sx_on rfl rfl rfl ?_
              refine sx_eql rfl rfl rfl ?_
              refine sx_on rfl rfl rfl ?_
              refine sx_move rfl rfl ?_
              refine sx_force 91 rfl true (by first | rfl | (simp; done) | (simp; omega)) ?_
              refine sx_on rfl rfl rfl ?_
              refine sx_move rfl rfl ?_
              refine sx_on rfl rfl rfl ?_
              refine sx_pick rfl rfl rfl ?_
              refine sx_on rfl rfl rfl ?_
              refine sx_bneq Try.underlying4 rfl rfl rfl ?_
              refine sx_pick rfl rfl rfl ?_
              refine sx_nil (hZ _ _ ?_)
              refine awp_forget [(5, _), (6, _), (95, _)] (Kn.cons rfl (Kn.cons rfl (Kn.cons rfl (Kn.nil)))) ?_
              refine awp_cond rfl (fun hz => ?_) (fun hz => ?_)
              · cases hz
              refine awp_skip ?_
              exact nx_cut () trivial (Kn.cons rfl (Kn.cons rfl Kn.nil)) (HLe.sub (List.sublist_append_right _ _))
          · refine awp_seq_region (fun Z hZ => ?_)
            refine sx_move rfl rfl ?_
            refine sx_move rfl rfl ?_
            refine sx_callV (roE Ad (scells (downQ X))) (sin_fn Ad cd (downQ X) _ hAd.arg (fun _ => rfl) (Ro.roE _ _) (by omega) id) rfl (HLe.sub (m3.trans (List.sublist_append_right _ _))) (Ro.roE _ _) rfl ?_
            rw [hdc]
            refine sx_move rfl rfl ?_
            refine sx_eql rfl rfl rfl ?_
            refine sx_move rfl rfl ?_
            refine sx_force 79 rfl false (by first | rfl | (simp; done) | (simp; omega)) ?_
            refine sx_off rfl rfl rfl rfl rfl ?_
            refine sx_off rfl rfl rfl rfl rfl ?_
            refine sx_off rfl rfl rfl rfl rfl ?_
            refine sx_pick rfl rfl rfl ?_
            refine sx_bneq Try.underlying4 rfl rfl rfl ?_
            refine sx_move rfl rfl ?_
            refine sx_force 85 rfl false (by first | rfl | (simp; done) | (simp; omega)) ?_
            refine sx_on rfl rfl rfl ?_
            refine sx_move rfl rfl ?_
            refine sx_on rfl rfl rfl ?_
            refine sx_move rfl rfl ?_
            refine sx_on rfl rfl rfl ?_
            refine sx_callV (roE Au (scells (upQ X))) (sin_fn Au cu (upQ X) _ hAu.arg (fun _ => rfl) (Ro.roE _ _) (by omega) id) rfl (HLe.sub (m2.trans (List.sublist_append_right _ _))) (Ro.roE _ _) rfl ?_
            rw [hone]
            refine sx_on rfl rfl rfl ?_
            refine sx_move rfl rfl ?_
            refine sx_on rfl rfl rfl ?_
            refine sx_eql rfl rfl rfl ?_
            refine sx_on rfl rfl rfl ?_
            refine sx_move rfl rfl ?_
            refine sx_force 91 rfl false (by first | rfl | (simp; done) | (simp; omega)) ?_
            refine sx_off rfl rfl rfl rfl rfl ?_
            refine sx_on rfl rfl rfl ?_
            refine sx_pick rfl rfl rfl ?_
            refine sx_on rfl rfl rfl ?_
            refine sx_bneq Try.underlying4 rfl rfl rfl ?_
            refine sx_pick rfl rfl rfl ?_
            refine sx_nil (hZ _ _ ?_)
            refine awp_forget [(5, _), (6, _), (95, _)] (Kn.cons rfl (Kn.cons rfl (Kn.cons rfl (Kn.nil)))) ?_
            refine awp_cond rfl (fun hz => ?_) (fun hz => ?_)
            · cases hz
            refine awp_skip ?_
            exact nx_cut () trivial (Kn.cons rfl (Kn.cons rfl Kn.nil)) (HLe.sub (List.sublist_append_right _ _))
    refine awp_skip ?_
    exact nx_cut () trivial (Kn.cons rfl (Kn.cons rfl Kn.nil)) (HLe.drop 1 rfl)
  rintro ⟨⟩ -
  obtain ⟨n26, h26⟩ : ∃ n : Nat, n = 26 := ⟨_, rfl⟩
  obtain ⟨n0, h0⟩ : ∃ n : Nat, n = 0 := ⟨_, rfl⟩
  have lz := zo_len X n26
  have lz0 := zo_len X n0
  have hzo := zo_sps X n26
  have hzo0 := zo_sps X n0
  have lw : (lessQ X (zoS X n26)).length ≤ 68 := by have := less_ln X (zoS X n26); omega
  have lw0 : (lessQ X (zoS X n0)).length ≤ 68 := by have := less_ln X (zoS X n0); omega
  have hlp := less_pl X (zoS X n26)
  have hlb := less_be X (zoS X n26)
  have hlo0 : SpsOk (lessQ X (zoS X n0)) := below_sps (less_pl X _) (less_be X _)
  have hlz : ∀ k, inS (lessQ X (zoS X n26)) k → zN k < 26 := fun k hk => by subst h26; exact ((low_in X k).1 hk).2.2
  have hwin : withinQ (lessQ X (zoS X n0)) (downQ (upQ X)) = true := (within_iff _ _).2 fun k hk hin => by
    subst h0
    obtain ⟨h1, h2, h3⟩ := (high_in X k).1 hin
    exact (downQ_in _ _).2 ⟨h1, h3, (upQ_in _ _).2 ⟨k, h1, h2, h3, rfl⟩⟩
  have zf := mZoom_fn Ax cx X _ hAx.arg (fun _ => rfl) (Ro.roE _ _) (by omega) hXo ((n26 : Nat) : Int)
  have zf0 := mZoom_fn Ax cx X _ hAx.arg (fun _ => rfl) (Ro.roE _ _) (by omega) hXo ((n0 : Nat) : Int)
  rw [zo_zoom X (by omega), h26] at zf
  rw [zo_zoom X (by omega), h0] at zf0
  rw [h26] at lz hzo lw hlp hlb hlz
  rw [h0] at lz0 hzo0 lw0 hlo0 hwin
  obtain ⟨ZA, hZe⟩ : ∃ ZA, zoS X 26 = ZA := ⟨_, rfl⟩
  obtain ⟨Z0, hZe0⟩ : ∃ ZA, zoS X 0 = ZA := ⟨_, rfl⟩
  rw [hZe] at zf lz hzo lw hlp hlb hlz
  rw [hZe0] at zf0 lz0 hzo0 lw0 hlo0 hwin

  refine awp_seq_region (fun Z hZ => ?_)
  refine sx_move rfl rfl ?_
  refine sx_move rfl rfl ?_
  refine sx_callIE (roE Ax (scells X)) zf rfl (HLe.sub m1) (Ro.roE _ _) rfl (fun Az cz hAz => ?_)
  refine sx_callIE (roE Ax (scells X) ++ roE Az (scells ZA)) (mless_fn Ax cx X _ hAx.arg (fun _ => rfl) (Ro.roE _ _) (by omega) hXo Az cz ZA _ hAz.arg (fun _ => rfl) (Ro.roE _ _) (by omega) hzo) rfl (HLe.sub (List.Sublist.append m1 (List.Sublist.refl _))) ((Ro.roE _ _).append (Ro.roE _ _)) rfl (fun Al cl hAl => ?_)
  refine sx_assign rfl rfl ?_
  refine sx_nil (hZ _ _ ?_)
  refine awp_forget [(5, _), (6, _), (20, _)] (Kn.cons rfl (Kn.cons rfl (Kn.cons rfl (Kn.nil)))) ?_
  obtain ⟨low, hlow⟩ : ∃ l, lessQ X ZA = l := ⟨_, rfl⟩
  obtain ⟨low0, hlow0⟩ : ∃ l, lessQ X Z0 = l := ⟨_, rfl⟩
  rw [hlow] at lw hlp hlb hlz hAl ⊢
  rw [hlow0] at lw0 hlo0 hwin
  have hlo := below_sps hlp hlb
  have hUD : upQ (downQ low) = low := up_down hlp hlb hlz (fun k => downQ_in low k) (upQ_plain _) (fun k => upQ_in _ k)
  have hTD : totM (downQ low) = 4 * totalQ low := by rw [totB (downQ_plain low) (downQ_below low)]; exact total_down hlp hlb hlz (downQ_plain low) (fun k => downQ_in low k)
  have hTL := totB hlp hlb
  have htl := total_le hlp hlb
  obtain ⟨tt, htt⟩ : ∃ t, totalQ low = t := ⟨_, rfl⟩
  rw [htt] at hTD hTL htl
  have l3 := downQ_len low
  have l4 := downQ_len (upQ X)
  obtain ⟨D, hD⟩ : ∃ D, downQ low = D := ⟨_, rfl⟩
  have hDo := below_sps (downQ_plain low) (downQ_below low)
  have hdf := fun (A : Option Addr) (c : Nat) (hA : SlIn A low.length c) => mDown_fn A c low _ hA.arg (fun _ => rfl) (Ro.roE _ _) (by omega) hlo
  have huf := fun (A : Option Addr) (c : Nat) (hA : SlIn A (downQ low).length c) => mUp_fn A c (downQ low) _ hA.arg (fun _ => rfl) (Ro.roE _ _) (by omega) hDo
  rw [hUD] at huf
  rw [hD] at hdf huf hTD l3 hDo
  refine awp_heap (H0 ++ roE Al (scells low)) (HLe.sub (List.Sublist.append_right (List.sublist_append_left _ _) _)) ?_
  refine awp_seq_meet [(4, .bool true)] [] (fun Z hZ => ?_) ?_
  · refine sx_move rfl rfl ?_
    refine sx_callIE (roE Al (scells low)) (hdf Al cl hAl) rfl (HLe.sub (by with_reducible repeat (first | exact List.Sublist.refl _ | exact List.nil_sublist _ | exact List.sublist_append_right _ _ | refine List.Sublist.trans ?_ (List.sublist_append_left _ _) | exact List.Sublist.cons_cons _ (List.nil_sublist _) | refine List.Sublist.cons _ ?_))) (Ro.roE _ _) rfl (fun A2 c2 hA2 => ?_)
    refine sx_callIE (roE A2 (scells D)) (huf A2 c2 hA2) rfl (HLe.sub (by with_reducible repeat (first | exact List.Sublist.refl _ | exact List.nil_sublist _ | exact List.sublist_append_right _ _ | refine List.Sublist.trans ?_ (List.sublist_append_left _ _) | exact List.Sublist.cons_cons _ (List.nil_sublist _) | refine List.Sublist.cons _ ?_))) (Ro.roE _ _) rfl (fun A3 c3 hA3 => ?_)
    refine sx_move rfl rfl ?_
    refine sx_callIE (roE Al (scells low)) (sback43_fn Al cl low _ hAl.arg (fun _ => rfl) (Ro.roE _ _) (by omega)) rfl (HLe.sub (by with_reducible repeat (first | exact List.Sublist.refl _ | exact List.nil_sublist _ | exact List.sublist_append_right _ _ | refine List.Sublist.trans ?_ (List.sublist_append_left _ _) | exact List.Sublist.cons_cons _ (List.nil_sublist _) | refine List.Sublist.cons _ ?_))) (Ro.roE _ _) rfl (fun A4 c4 hA4 => ?_)
    refine sx_callV (roE A3 (scells low) ++ roE A4 (scells low)) (law_same_fn A3 c3 low hA3 (by omega) A4 c4 low hA4 (by omega)) rfl (HLe.twoS (by with_reducible repeat (first | exact List.Sublist.refl _ | exact List.nil_sublist _ | exact List.sublist_append_right _ _ | refine List.Sublist.trans ?_ (List.sublist_append_left _ _) | exact List.Sublist.cons_cons _ (List.nil_sublist _) | refine List.Sublist.cons _ ?_)) (by with_reducible repeat (first | exact List.Sublist.refl _ | exact List.nil_sublist _ | exact List.sublist_append_right _ _ | refine List.Sublist.trans ?_ (List.sublist_append_left _ _) | exact List.Sublist.cons_cons _ (List.nil_sublist _) | refine List.Sublist.cons _ ?_)) (Ro.roE _ _)) ((Ro.roE _ _).append (Ro.roE _ _)) rfl ?_
    rw [sameS_self]
    refine sx_move rfl rfl ?_
    refine sx_force 106 rfl true (by first | (simp; done) | rfl) ?_
    refine sx_on rfl rfl rfl ?_
    refine sx_move rfl rfl ?_
    refine sx_on rfl rfl rfl ?_
    refine sx_callIE (roE Al (scells low)) (hdf Al cl hAl) rfl (HLe.sub (by with_reducible repeat (first | exact List.Sublist.refl _ | exact List.nil_sublist _ | exact List.sublist_append_right _ _ | refine List.Sublist.trans ?_ (List.sublist_append_left _ _) | exact List.Sublist.cons_cons _ (List.nil_sublist _) | refine List.Sublist.cons _ ?_))) (Ro.roE _ _) rfl (fun A5 c5 hA5 => ?_)
    refine sx_on rfl rfl rfl ?_
    refine sx_callV (roE A5 (scells D)) (stotal_fn A5 c5 D _ hA5.arg (fun _ => rfl) (Ro.roE _ _) (by omega) hDo) rfl (HLe.sub (by with_reducible repeat (first | exact List.Sublist.refl _ | exact List.nil_sublist _ | exact List.sublist_append_right _ _ | refine List.Sublist.trans ?_ (List.sublist_append_left _ _) | exact List.Sublist.cons_cons _ (List.nil_sublist _) | refine List.Sublist.cons _ ?_))) (Ro.roE _ _) rfl ?_
    rw [hTD]
    refine sx_on rfl rfl rfl ?_
    refine sx_move rfl rfl ?_
    refine sx_on rfl rfl rfl ?_
    refine sx_callV (roE Al (scells low)) (stotal_fn Al cl low _ hAl.arg (fun _ => rfl) (Ro.roE _ _) (by omega) hlo) rfl (HLe.sub (by with_reducible repeat (first | exact List.Sublist.refl _ | exact List.nil_sublist _ | exact List.sublist_append_right _ _ | refine List.Sublist.trans ?_ (List.sublist_append_left _ _) | exact List.Sublist.cons_cons _ (List.nil_sublist _) | refine List.Sublist.cons _ ?_))) (Ro.roE _ _) rfl ?_
    rw [hTL]
    refine sx_on rfl rfl rfl ?_
    refine sx_mul rfl rfl ((4 * tt : Nat) : Int) (by rw [IntWalk.u64_in _ (by omega)]; omega) rfl ?_
    refine sx_on rfl rfl rfl ?_
    refine sx_eql rfl rfl rfl ?_
    refine sx_pick rfl rfl rfl ?_
    refine sx_move rfl rfl ?_
    refine sx_force 115 rfl true (by first | (simp; done) | rfl) ?_
    refine sx_on rfl rfl rfl ?_
    refine sx_move rfl rfl ?_
    refine sx_on rfl rfl rfl ?_
    refine sx_move rfl rfl ?_
    refine sx_on rfl rfl rfl ?_
    refine sx_callIE (roE Ax (scells X)) zf0 rfl (HLe.sub (m1.trans (by with_reducible repeat (first | exact List.Sublist.refl _ | exact List.nil_sublist _ | exact List.sublist_append_right _ _ | refine List.Sublist.trans ?_ (List.sublist_append_left _ _) | exact List.Sublist.cons_cons _ (List.nil_sublist _) | refine List.Sublist.cons _ ?_)))) (Ro.roE _ _) rfl (fun A6 c6 hA6 => ?_)
    refine sx_on rfl rfl rfl ?_
    refine sx_callIE (roE Ax (scells X) ++ roE A6 (scells Z0)) (mless_fn Ax cx X _ hAx.arg (fun _ => rfl) (Ro.roE _ _) (by omega) hXo A6 c6 Z0 _ hA6.arg (fun _ => rfl) (Ro.roE _ _) (by omega) hzo0) rfl (HLe.twoS (m1.trans (by with_reducible repeat (first | exact List.Sublist.refl _ | exact List.nil_sublist _ | exact List.sublist_append_right _ _ | refine List.Sublist.trans ?_ (List.sublist_append_left _ _) | exact List.Sublist.cons_cons _ (List.nil_sublist _) | refine List.Sublist.cons _ ?_))) (by with_reducible repeat (first | exact List.Sublist.refl _ | exact List.nil_sublist _ | exact List.sublist_append_right _ _ | refine List.Sublist.trans ?_ (List.sublist_append_left _ _) | exact List.Sublist.cons_cons _ (List.nil_sublist _) | refine List.Sublist.cons _ ?_)) (Ro.roE _ _)) ((Ro.roE _ _).append (Ro.roE _ _)) rfl (fun A7 c7 hA7 => ?_)
    rw [hlow0] at hA7 ⊢
    refine sx_on rfl rfl rfl ?_
    refine sx_move rfl rfl ?_
    refine sx_on rfl rfl rfl ?_
    refine sx_callIE (roE Au (scells (upQ X))) (mDown_fn Au cu (upQ X) _ hAu.arg (fun _ => rfl) (Ro.roE _ _) (by omega) (below_sps (upQ_plain X) (upQ_below X))) rfl (HLe.sub (m2.trans (by with_reducible repeat (first | exact List.Sublist.refl _ | exact List.nil_sublist _ | exact List.sublist_append_right _ _ | refine List.Sublist.trans ?_ (List.sublist_append_left _ _) | exact List.Sublist.cons_cons _ (List.nil_sublist _) | refine List.Sublist.cons _ ?_)))) (Ro.roE _ _) rfl (fun A8 c8 hA8 => ?_)
    refine sx_on rfl rfl rfl ?_
    refine sx_callV (roE A7 (scells low0) ++ roE A8 (scells (downQ (upQ X)))) (mwithin_fn A7 c7 low0 _ hA7.arg (fun _ => rfl) (Ro.roE _ _) (by omega) hlo0 A8 c8 (downQ (upQ X)) _ hA8.arg (fun _ => rfl) (Ro.roE _ _) (by omega) (below_sps (downQ_plain _) (downQ_below _))) rfl (HLe.twoS (by with_reducible repeat (first | exact List.Sublist.refl _ | exact List.nil_sublist _ | exact List.sublist_append_right _ _ | refine List.Sublist.trans ?_ (List.sublist_append_left _ _) | exact List.Sublist.cons_cons _ (List.nil_sublist _) | refine List.Sublist.cons _ ?_)) (by with_reducible repeat (first | exact List.Sublist.refl _ | exact List.nil_sublist _ | exact List.sublist_append_right _ _ | refine List.Sublist.trans ?_ (List.sublist_append_left _ _) | exact List.Sublist.cons_cons _ (List.nil_sublist _) | refine List.Sublist.cons _ ?_)) (Ro.roE _ _)) ((Ro.roE _ _).append (Ro.roE _ _)) rfl ?_
    rw [hwin]
    refine sx_pick rfl rfl rfl ?_
    refine sx_move rfl rfl ?_
    refine sx_force 124 rfl true (by first | (simp; done) | rfl) ?_
    refine sx_on rfl rfl rfl ?_
    refine sx_callP m43wake_fn rfl rfl ?_
    refine sx_pick rfl rfl rfl ?_
    refine sx_assign rfl rfl ?_
    refine sx_nil (hZ _ _ ?_ ?_)
    · exact Kn.cons rfl Kn.nil
    · exact HLe.sub (List.nil_sublist _)
  refine awp_ret ?_
  exact nx_ret1 rfl rfl rfl
theorem leaves_ti : leaves Try.prog 5 48 = some [.int .i64, .int .i64, .int .i64] := by kernel_rfl
theorem MaskTiles_read {H : Type} {enc : TypeId × Value → H} (w : World) {base : Nat} {v0 v1 : Value} {d0 d1 : DataW H} {p0 p1 : List MemPlace}
    (k0 : Value.okWide Try.prog w .any base 22 v0) (h0 : DataW.Trod enc Try.prog w 0 (fun _ => true) true 22 v0 d0 p0)
    (k1 : Value.okWide Try.prog w .any base 48 v1) (h1 : DataW.Trod enc Try.prog w 0 (fun _ => true) true 48 v1 d1 p1) :
    Calls Try.prog 7 #[v0, v1] w fun e w' => e = .returned (.bool true) ∧ Bel w w' := by
  obtain ⟨A, c, L, T, rfl, hA, hL, ho, hT, hro, hS⟩ := open_sps k0 h0
  obtain ⟨cs, rfl, a⟩ := open_struct 5 Try.underlying48 leaves_ti k1 h1
  obtain ⟨z, c1, rfl, _, a1⟩ := alike_i64 a
  obtain ⟨x, c2, rfl, _, a2⟩ := alike_i64 a1
  obtain ⟨y, c3, rfl, _, a3⟩ := alike_i64 a2
  cases a3
  exact tail_bel hro hS (mtiles_fn A c L T hA hT hro hL ho z x y)
namespace maskTiles
open Go.ChangeShapes Go.WideShapes Go.ChangeAt Go.RowKit
theorem own : ownKnob Try.prog.godebug = none := by kernel_rfl
theorem laidOut : laidOutB Try.prog = true := by kernel_rfl
set_option maxRecDepth 100000 in
theorem lifted (os : Os) (started : os.Started) (H : Type) (enc : TypeId × Value → H) :
    ReturnsInHanded {} Try.checked os 7 .any (Rows.maskTilesSpec.pre6 enc Try.prog Try.f7 Rows.maskTilesRow.domain false) (Rows.maskTilesSpec.post enc Try.prog Try.f7 false true false false) := by
  refine returnsInHanded_of_change (C := Try.checked) own started (by kernel_rfl) Try.func7
    (ChangeSpec.witness6 (enc := enc) (C := Try.checked) false ⟨#[], #[.slice none 0 0, .agg #[.int .i64 0, .int .i64 0, .int .i64 0]], []⟩ 8 (by kernel_rfl) (by kernel_rfl) (by kernel_rfl) (by kernel_rfl)) ?_
  intro W base args ds gs before hval0 hW hcnd _
  have hval : ∀ (j : Nat) t v, Try.f7.params[j]? = some t → args[j]? = some v → Value.okWide Try.prog W .any base t v := hval0
  have hW' := hW
  obtain ⟨p, q, hA0, hV, rfl, hfz, hnd⟩ := hW
  have hA : DataW.TrodAll enc Try.prog W 0 (fun _ => true) true Try.f7.params.toList args.toList ds p := hA0
  rw [Try.params7] at hA hval
  obtain ⟨v0, vs0, d0, ds0, p0, q0, hargs, rfl, rfl, h0, r0⟩ := trodAll_cons hA
  obtain ⟨v1, vs1, d1, ds1, p1, q1, rfl, rfl, rfl, h1, r1⟩ := trodAll_cons r0
  obtain ⟨rfl, rfl, rfl⟩ := trodAll_nil r1
  obtain rfl : args = #[v0, v1] := by cases args; simp_all
  obtain ⟨rfl, rfl⟩ := trodVars_none hV
  have lt0 : ∀ x ∈ p0, x.block < W.heap.size := by obtain ⟨m, hm⟩ := h0; exact DataW.trod_lt m _ _ _ hm
  have lt1 : ∀ x ∈ p1, x.block < W.heap.size := by obtain ⟨m, hm⟩ := h1; exact DataW.trod_lt m _ _ _ hm
  refine (MaskTiles_read W (hval 0 22 v0 rfl rfl) h0 (hval 1 48 v1 rfl rfl) h1).mono fun e W' ⟨he, bel0⟩ => ?_
  have bel : Below W.heap.size W W' := bel0
  subst he
  exact ⟨_, rfl, _, _, _, [], _, [], hW', trodAll_mk1 (shut_bool Try.underlying4 _), (trodAll_cons_mk (Below.trod laidOut (by kernel_rfl) (of_decide_eq_true (by kernel_rfl)) h0 bel lt0) (trodAll_cons_mk (Below.trod laidOut (by kernel_rfl) (of_decide_eq_true (by kernel_rfl)) h1 bel lt1) trodAll_mk0)), rfl, bel.frame _, fun h => by cases h⟩
theorem over : Rows.maskTilesRow.holds Try.pinned (OpenSpec.ofChange Rows.maskTilesSpec) :=
  OpenClaim.holds_of_wide 7 Try.f7 rfl rfl rfl rfl rfl rfl rfl ⟨rfl, rfl, rfl, rfl, rfl⟩ rfl rfl rfl rfl rfl (by kernel_rfl) Try.func7 (by kernel_rfl)
    (of_decide_eq_true (by kernel_rfl)) (by unfold Func.isWrapper; first | (rw [if_pos (by decide +kernel)]; kernel_rfl) | (rw [if_neg (by decide +kernel)]; exact ⟨rfl, rfl⟩))
    (fun os started H enc _ => lifted os started H enc)
theorem proved : Rows.MaskTilesSaid := over
#print axioms proved
end maskTiles
end Go.Proofs.Ytbldhokgbcljjaa
