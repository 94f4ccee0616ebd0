/- Walks and plain laws for this claim (texts Ghd2, joined). Each theorem states its own conditions. -/
import Derived.Test.YtkojkeabelckjaaGreatDoorJ22

set_option linter.all false
namespace Go.Proofs.YtkojkeabelckjaaGreatDoor.Y
open Go.RowKit
theorem putL_in (b : List UInt8) (n x : Nat) (hn : 1 ≤ n ∧ n ≤ 8) : putL b n x = b ++ leB n x := by unfold putL; rw [if_pos (by omega)]; simp
theorem put8 (b : List UInt8) (x : Nat) : putL b 8 x = b ++ leB 8 x := putL_in b 8 x (by omega)
theorem put1 (b : List UInt8) (x : Nat) : putL b 1 x = b ++ leB 1 x := putL_in b 1 x (by omega)
def encS (h : Hdr) (k : Nat) : List UInt8 := ((secL h).take k).foldl (fun b p => b ++ secB p.1 p.2) [80, 77, 84, 105, 108, 101, 115, 3]
theorem encS_length (h : Hdr) : ∀ k, k ≤ 4 → (encS h k).length = 8 + 16 * k := by
  intro k hk
  obtain rfl | rfl | rfl | rfl | rfl : k = 0 ∨ k = 1 ∨ k = 2 ∨ k = 3 ∨ k = 4 := by omega
  all_goals simp [encS, secL, secB_length]
theorem encS_four (h : Hdr) : encS h 4 = enc1 h := rfl
def enc2a (h : Hdr) : List UInt8 := enc1 h ++ leB 8 h.ad ++ leB 8 h.en ++ leB 8 h.co
theorem enc2a_length (h : Hdr) : (enc2a h).length = 96 := by simp [enc2a, enc1_length, jF2]
set_option maxHeartbeats 1000000 in
theorem hencode_fn (h : Hdr) (hk : h.Ok) : Fn Tryz.prog 60 [h.val] [] fun v _ => v = .tuple #[.string (str (encV h)), .int .i64 (jE9 h)] := by
  refine Fn.enter (N := 86) Tryz.func60 rfl (by kernel_rfl) rfl (fun w0 => ?_)
  refine aR (fun Z hZ => ?_)
  refine jA5 rfl rfl rfl (fun g1 => ?_)
  refine sA rfl rfl <| sA rfl rfl <| sN (hZ _ _ ?_)
  refine aF [(1, _)] (Kn.cons rfl (Kn.nil)) ?_
  refine aS ?_
  refine aR (fun Z hZ => ?_)
  first | refine sLA 0 rfl rfl tyA78 tyS78 rfl (by simp only [List.take_succ_cons, List.take_zero, List.drop_zero, Value.cells]; rfl) rfl ?_
  refine sCP (hcheck_fn h) rfl rfl ?_
  refine sA rfl rfl <| sN (hZ _ _ ?_)
  refine aF [(1, _), (4, _)] (Kn.cons rfl (Kn.cons rfl (Kn.nil))) ?_
  refine aR fun Z hZ => sM rfl rfl ?_
  refine jC9 rfl rfl rfl ?_
  refine sN (hZ _ _ ?_)
  refine aF [(1, _), (4, _), (12, _)] (Kn.cons rfl (Kn.cons rfl (Kn.cons rfl (Kn.nil)))) ?_
  refine aC rfl (fun h10 => ?_) (fun h10 => ?_)
  · refine aR (fun Z hZ => ?_)
    refine sM rfl rfl <| sA rfl rfl <| sA rfl rfl <| sN (hZ _ _ ?_)
    refine aF [(2, _), (3, _)] (Kn.cons rfl (Kn.cons rfl (Kn.nil))) ?_
    refine aE ?_
    repeat (with_reducible refine nTR ?_)
    have : ¬ jE9 h = 0 := by simpa using h10
    exact jE1 rfl rfl rfl (by simp [encV, this]; rfl)
  refine aK ?_
  with_reducible refine nN ?_
  have hc0 : jE9 h = 0 := by simpa using h10
  obtain ⟨_, hkd, hz, hlo, hla⟩ := check_ok hc0
  refine aR (fun Z hZ => ?_)
  refine sBS Tryz.underlying132 tyS5 tyZ5 rfl rfl rfl rfl (by simp only [List.take_succ_cons, List.take_zero, List.drop_succ_cons, List.drop_zero, List.cons_append, List.nil_append, List.append_nil, List.length_cons, List.length_nil, Nat.reduceAdd, Nat.zero_add, Value.cells, wrV, jG2, List.replicate_succ, List.replicate_zero, Nat.reduceMul, Nat.zero_mul]; rfl) rfl (fun g2 => ?_)
  refine sx_convB 0 Tryz.underlying132 Tryz.underlying5 rfl rfl rfl ?_
  refine sBS Tryz.underlying132 tyS5 tyZ5 rfl rfl rfl rfl (by simp only [List.take_zero, List.drop_succ_cons, List.drop_zero, List.nil_append, List.append_nil, List.length_cons, List.length_nil, Nat.zero_add, Value.cells, wrV, jG2, List.replicate_succ, List.replicate_zero, Nat.reduceMul, Nat.zero_mul]; rfl) rfl (fun g3 => ?_)
  refine sx_appendFull elemU8 rfl rfl (fun w hw => rd_ro (i := 1) rfl rfl hw) (fun w hw => rd_own (i := 0) rfl rfl hw) (by omega) (by omega) (by omega) (by decide) (by omega) rfl (fun v hv => ?_)
  obtain ⟨g5, c5, rfl⟩ := hv.some (by omega)
  refine sA rfl rfl <| sN (hZ _ _ ?_)
  refine aF [(1, _), (5, _)] (Kn.cons rfl (Kn.cons rfl (Kn.nil))) ?_
  refine jB5 [.own g1 78 h.cells, rowH g5 c5 (encS h 0)] (HLe.pick [3, 0] (by simp) rfl) ?_
  refine aS ?_
  refine aR (fun Z hZ => ?_)
  first | refine sLA 0 rfl rfl tyA78 tyS78 rfl (by simp only [List.take_succ_cons, List.take_zero, List.drop_zero]; rfl) rfl ?_
  refine sCP (hsections_fn h) rfl rfl ?_
  refine sM rfl rfl <| sN (hZ _ _ ?_)
  refine aF [(1, _), (5, _), (19, _), (20, _)] (Kn.cons rfl (Kn.cons rfl (Kn.cons rfl (Kn.cons rfl (Kn.nil))))) ?_
  refine aB ?_
  refine jC2 (ι := Nat × Nat × Nat) (fun i => [(1, ptr g1 0), (5, rowV i.2.1 (encS h i.1).length i.2.2), (19, .agg h.secs.toArray), (20, .int .i64 (i.1 : Int))])
    (fun i => [.own g1 78 h.cells, rowH i.2.1 i.2.2 (encS h i.1)])
    (fun i => i.1 ≤ 4) (fun i => 4 - i.1) (0, g5, c5) (by simp) (Kn.cons rfl (Kn.cons rfl (Kn.cons rfl (Kn.cons rfl Kn.nil)))) (HLe.refl _) ?_
  rintro ⟨k, g2, c2⟩ hk4
  simp only at hk4
  have hlen := encS_length h k hk4
  refine aR (fun Z hZ => ?_)
  refine jC3 rfl rfl rfl ?_
  refine sN (hZ _ _ ?_)
  refine aF [(1, _), (5, _), (19, _), (20, _), (21, _)] (Kn.cons rfl (Kn.cons rfl (Kn.cons rfl (Kn.cons rfl (Kn.cons rfl (Kn.nil)))))) ?_
  refine aS (aC rfl (fun h4 => ?_) (fun h4 => ?_))
  · have hlt : k < 4 := by simp at h4; omega
    refine aK ?_
    with_reducible refine nN ?_
    obtain ⟨p, hp, hrd, hpb⟩ : ∃ p : Nat × Nat, encS h (k + 1) = encS h k ++ secB p.1 p.2 ∧ rdV true 2 h.secs (k * 2) = some (.agg #[uq p.1, uq p.2]) ∧ ∀ x ∈ [p.1, p.2], x < 18446744073709551616 := by
      obtain rfl | rfl | rfl | rfl : k = 0 ∨ k = 1 ∨ k = 2 ∨ k = 3 := by omega
      · exact ⟨(h.r0, h.r1), rfl, rfl, by simp [hk.r0, hk.r1]⟩
      · exact ⟨(h.m0, h.m1), rfl, rfl, by simp [hk.m0, hk.m1]⟩
      · exact ⟨(h.l0, h.l1), rfl, rfl, by simp [hk.l0, hk.l1]⟩
      · exact ⟨(h.d0, h.d1), rfl, rfl, by simp [hk.d0, hk.d1]⟩
    have he : putsL (encS h k) 8 [p.1, p.2] = encS h (k + 1) := by rw [hp]; simp [putsL, put8, secB]
    refine aS (aB ?_)
    refine aR (fun Z hZ => ?_)
    refine sx_indexA Tryz.underlying141 tyA76 tyS76 rfl rfl (by omega) hrd rfl ?_
    refine sAl tyZ76 rfl (fun g4 => ?_)
    refine sS 0 rfl rfl rfl tyS76 (by simp only [Value.cells]; rfl) rfl rfl rfl (by simp only [List.take_zero, List.drop_succ_cons, List.drop_zero, List.nil_append, List.append_nil, List.length_cons, List.length_nil, Nat.reduceAdd, Nat.zero_add, wrV]; rfl) (by simp only [List.set_cons_zero]; rfl) ?_
    refine sN (hZ _ _ ?_)
    refine aF [(1, _), (5, _), (7, _), (19, _), (20, _)] (Kn.cons rfl (Kn.cons rfl (Kn.cons rfl (Kn.cons rfl (Kn.cons rfl (Kn.nil)))))) ?_
    refine aG (fun Z hZ => ?_)
    refine sM rfl rfl ?_
    refine sFA rfl tyF76_0 (by simp only [Nat.add_zero]; rfl) rfl ?_
    refine sL 0 rfl rfl tyA45 tyS45 rfl rfl ?_
    refine sFA rfl tyF76_1 (by simp only [Nat.zero_add]; rfl) rfl ?_
    refine sL 0 rfl rfl tyA45 tyS45 rfl rfl ?_
    refine sBS Tryz.underlying135 tyS45 tyZ45 rfl rfl rfl rfl (by simp only [List.take_succ_cons, List.take_zero, List.drop_succ_cons, List.drop_zero, List.cons_append, List.nil_append, List.append_nil, List.length_cons, List.length_nil, Nat.reduceAdd, Nat.zero_add, Value.cells, wrV, jG2, List.replicate_succ, List.replicate_zero, Nat.reduceMul, Nat.zero_mul]; rfl) rfl (fun g5 => ?_)
    refine jB7 [0, 3] [1, 2] (hput_fn g2 c2 _ (encS h k) 8 [p.1, p.2] (by omega) (by simp) hpb) rfl rfl (by simp) rfl ?_
    rintro v H' ⟨g9, c9, rfl, rfl⟩
    refine jC7 (by simp only [List.filter_cons, List.filter_nil, Ent.wr, if_true, List.cons_append, List.nil_append, pick, List.filterMap_cons, List.filterMap_nil, List.getElem?_cons_succ, List.getElem?_cons_zero]; first | done | rfl) ?_
    rw [he]
    refine sA rfl rfl <| sN (hZ _ _ ?_)
    refine nF [(1, _), (5, _), (19, _), (20, _)] (Kn.cons rfl (Kn.cons rfl (Kn.cons rfl (Kn.cons rfl (Kn.nil))))) ?_
    repeat (with_reducible refine nBN ?_)
    with_reducible refine nN ?_
    refine aG (fun Z hZ => ?_)
    refine jA7 rfl rfl ((k + 1 : Nat) : Int) (by rw [IntWalk.i64_in _ (by omega)]; omega) rfl ?_
    refine sM rfl rfl <| sN (hZ _ _ ?_)
    refine nF [(1, _), (5, _), (19, _), (20, _)] (Kn.cons rfl (Kn.cons rfl (Kn.cons rfl (Kn.cons rfl (Kn.nil))))) ?_
    exact jB4 (k + 1, g9, c9) (by simp; omega) (by simp; omega) (Kn.cons rfl (Kn.cons rfl (Kn.cons rfl (Kn.cons rfl Kn.nil)))) (HLe.pick [3, 1] (by simp) rfl)
  refine jA8 ?_
  repeat (with_reducible refine nTE ?_)
  with_reducible refine nBE ?_
  with_reducible refine nN ?_
  obtain rfl : k = 4 := by simp at h4; omega
  have l1 := enc1_length h
  have he10 : putsL (encS h 4) 8 [h.ad, h.en, h.co] = enc2a h := by rw [encS_four]; simp [putsL, put8, enc2a]
  refine aR fun Z hZ => sM rfl rfl ?_
  refine sFA rfl tyF78_4 (by simp only [Nat.zero_add]; rfl) rfl ?_
  first | refine sL 0 rfl rfl tyA45 tyS45 rfl rfl ?_
  refine sFA rfl tyF78_5 (by simp only [Nat.zero_add]; rfl) rfl ?_
  first | refine sL 0 rfl rfl tyA45 tyS45 rfl rfl ?_
  refine sFA rfl tyF78_6 (by simp only [Nat.zero_add]; rfl) rfl ?_
  first | refine sL 0 rfl rfl tyA45 tyS45 rfl rfl ?_
  refine sBS Tryz.underlying135 tyS45 tyZ45 rfl rfl rfl rfl (by simp only [List.take_succ_cons, List.take_zero, List.drop_succ_cons, List.drop_zero, List.cons_append, List.nil_append, List.append_nil, List.length_cons, List.length_nil, Nat.reduceAdd, Nat.zero_add, Value.cells, wrV, jG2, List.replicate_succ, List.replicate_zero, Nat.reduceMul, Nat.zero_mul]; rfl) rfl (fun g6 => ?_)
  refine jB7 [0, 2] [1] (hput_fn g2 c2 _ (encS h 4) 8 [h.ad, h.en, h.co] (by rw [encS_four]; omega) (by simp) (by simp [hk.ad, hk.en, hk.co])) rfl rfl (by simp) rfl ?_
  rintro v H' ⟨g3, c3, rfl, rfl⟩
  refine jC7 (by simp only [List.filter_cons, List.filter_nil, Ent.wr, if_true, List.cons_append, List.nil_append, pick, List.filterMap_cons, List.filterMap_nil, List.getElem?_cons_succ, List.getElem?_cons_zero]; first | done | rfl) ?_
  rw [he10]
  refine sA rfl rfl <| sN (hZ _ _ ?_)
  refine aF [(1, _), (5, _)] (Kn.cons rfl (Kn.cons rfl (Kn.nil))) ?_
  refine jB5 [.own g1 78 h.cells, rowH g3 c3 (enc2a h)] (HLe.pick [2, 1] (by simp) rfl) ?_
  have l2 := enc2a_length h
  refine aR fun Z hZ => sA rfl rfl <| sN (hZ _ _ ?_)
  refine aF [(1, _), (5, _), (8, _)] (Kn.cons rfl (Kn.cons rfl (Kn.cons rfl (Kn.nil)))) ?_
  refine awp_cut (fun _ : Unit => [(1, ptr g1 0), (5, rowV g3 (enc2a h).length c3), (8, .int .u64 (clN h : Int))]) (fun _ => [.own g1 78 h.cells, rowH g3 c3 (enc2a h)]) (fun _ => True) ?_ (fun _ _ => ?_)
  · refine aR (fun Z hZ => ?_)
    refine sFA rfl tyF78_7 (by simp only [Nat.zero_add]; rfl) rfl ?_
    first | refine sL 0 rfl rfl tyA4 tyS4 rfl rfl ?_
    refine sN (hZ _ _ ?_)
    refine aF [(1, _), (5, _), (8, _), (41, _)] (Kn.cons rfl (Kn.cons rfl (Kn.cons rfl (Kn.cons rfl (Kn.nil))))) ?_
    refine aC rfl (fun h13 => ?_) (fun h13 => ?_)
    · refine aG (fun Z hZ => ?_)
      refine sA rfl rfl <| sN (hZ _ _ ?_)
      refine nF [(1, _), (5, _), (8, _)] (Kn.cons rfl (Kn.cons rfl (Kn.cons rfl (Kn.nil)))) ?_
      exact nx_cut () trivial (Kn.cons rfl (Kn.cons rfl (Kn.cons (congrArg some (congrArg (Value.int .u64) (by simp [clN, h13]))) Kn.nil))) (HLe.refl _)
    · refine aK ?_
      exact nx_cut () trivial (Kn.cons rfl (Kn.cons rfl (Kn.cons (congrArg some (congrArg (Value.int .u64) (by simp [clN, h13]))) Kn.nil))) (HLe.refl _)
  have hcl : clN h < 18446744073709551616 := by unfold clN; split <;> omega
  have he14 : putsL (enc2a h) 1 [clN h, h.ic, h.oc, h.ki, h.z0.toNat, h.z1.toNat] = enc3 h := by simp [putsL, put1, enc3, enc2, enc2a]
  refine aR fun Z hZ => sM rfl rfl <| sM rfl rfl ?_
  refine sFA rfl tyF78_8 (by simp only [Nat.zero_add]; rfl) rfl ?_
  first | refine sL 0 rfl rfl tyA5 tyS5 rfl rfl ?_
  refine jA6 Tryz.underlying5 Tryz.underlying45 rfl (h.ic : Int) (wrap_nat (by have := hk.ic; omega)) rfl ?_
  refine sFA rfl tyF78_9 (by simp only [Nat.zero_add]; rfl) rfl ?_
  first | refine sL 0 rfl rfl tyA5 tyS5 rfl rfl ?_
  refine jA6 Tryz.underlying5 Tryz.underlying45 rfl (h.oc : Int) (wrap_nat (by have := hk.oc; omega)) rfl ?_
  refine sFA rfl tyF78_10 (by simp only [Nat.zero_add]; rfl) rfl ?_
  first | refine sL 0 rfl rfl tyA5 tyS5 rfl rfl ?_
  refine jA6 Tryz.underlying5 Tryz.underlying45 rfl (h.ki : Int) (wrap_nat (by have := hk.ki; omega)) rfl ?_
  refine sFA rfl tyF78_11 (by simp only [Nat.zero_add]; rfl) rfl ?_
  first | refine sL 0 rfl rfl tyA3 tyS3 rfl rfl ?_
  refine jA6 Tryz.underlying3 Tryz.underlying45 rfl (h.z0.toNat : Int) (wrap_toNat (by omega)) rfl ?_
  refine sFA rfl tyF78_12 (by simp only [Nat.zero_add]; rfl) rfl ?_
  first | refine sL 0 rfl rfl tyA3 tyS3 rfl rfl ?_
  refine jA6 Tryz.underlying3 Tryz.underlying45 rfl (h.z1.toNat : Int) (wrap_toNat (by omega)) rfl ?_
  refine sBS Tryz.underlying135 tyS45 tyZ45 rfl rfl rfl rfl (by simp only [List.take_succ_cons, List.take_zero, List.drop_succ_cons, List.drop_zero, List.cons_append, List.nil_append, List.append_nil, List.length_cons, List.length_nil, Nat.reduceAdd, Nat.zero_add, Value.cells, wrV, jG2, List.replicate_succ, List.replicate_zero, Nat.reduceMul, Nat.zero_mul]; rfl) rfl (fun g7 => ?_)
  refine jB7 [0, 2] [1] (hput_fn g3 c3 _ (enc2a h) 1 [clN h, h.ic, h.oc, h.ki, h.z0.toNat, h.z1.toNat] (by omega) (by simp) (by simp; omega)) rfl rfl (by simp) rfl ?_
  rintro v H' ⟨g4, c4, rfl, rfl⟩
  refine jC7 (by simp only [List.filter_cons, List.filter_nil, Ent.wr, if_true, List.cons_append, List.nil_append, pick, List.filterMap_cons, List.filterMap_nil, List.getElem?_cons_succ, List.getElem?_cons_zero]; first | done | rfl) ?_
  rw [he14]
  refine sA rfl rfl <| sN (hZ _ _ ?_)
  refine aF [(1, _), (5, _)] (Kn.cons rfl (Kn.cons rfl (Kn.nil))) ?_
  refine jB5 [.own g1 78 h.cells, rowH g4 c4 (enc3 h)] (HLe.pick [2, 1] (by simp) rfl) ?_
  have l3 := enc3_length h
  have he15 : degsL (enc3 h) [h.lo0, h.la0, h.lo1, h.la1] = enc4 h := by simp [degsL, enc4]
  refine aR fun Z hZ => sM rfl rfl ?_
  refine sFA rfl tyF78_13 (by simp only [Nat.zero_add]; rfl) rfl ?_
  first | refine sL 0 rfl rfl tyA3 tyS3 rfl rfl ?_
  refine sFA rfl tyF78_14 (by simp only [Nat.zero_add]; rfl) rfl ?_
  first | refine sL 0 rfl rfl tyA3 tyS3 rfl rfl ?_
  refine sFA rfl tyF78_15 (by simp only [Nat.zero_add]; rfl) rfl ?_
  first | refine sL 0 rfl rfl tyA3 tyS3 rfl rfl ?_
  refine sFA rfl tyF78_16 (by simp only [Nat.zero_add]; rfl) rfl ?_
  first | refine sL 0 rfl rfl tyA3 tyS3 rfl rfl ?_
  refine sBS Tryz.underlying247 tyS3 tyZ3 rfl rfl rfl rfl (by simp only [List.take_succ_cons, List.take_zero, List.drop_succ_cons, List.drop_zero, List.cons_append, List.nil_append, List.append_nil, List.length_cons, List.length_nil, Nat.reduceAdd, Nat.zero_add, Value.cells, wrV, jG2, List.replicate_succ, List.replicate_zero, Nat.reduceMul, Nat.zero_mul]; rfl) rfl (fun g8 => ?_)
  refine jB7 [0, 2] [1] (hdegrees_fn g4 c4 _ (enc3 h) [h.lo0, h.la0, h.lo1, h.la1] (by omega) (by simp) (by simp; omega)) rfl rfl (by simp) rfl ?_
  rintro v H' ⟨g6, c6, rfl, rfl⟩
  refine jC7 (by simp only [List.filter_cons, List.filter_nil, Ent.wr, if_true, List.cons_append, List.nil_append, pick, List.filterMap_cons, List.filterMap_nil, List.getElem?_cons_succ, List.getElem?_cons_zero]; first | done | rfl) ?_
  rw [he15]
  refine sA rfl rfl <| sN (hZ _ _ ?_)
  refine aF [(1, _), (5, _)] (Kn.cons rfl (Kn.cons rfl (Kn.nil))) ?_
  refine jB5 [.own g1 78 h.cells, rowH g6 c6 (enc4 h)] (HLe.pick [2, 1] (by simp) rfl) ?_
  have l4 := enc4_length h
  have he16 : putsL (enc4 h) 1 [h.zo.toNat] = enc4 h ++ leB 1 h.zo.toNat := by simp [putsL, put1]
  refine aR fun Z hZ => sM rfl rfl ?_
  refine sFA rfl tyF78_17 (by simp only [Nat.zero_add]; rfl) rfl ?_
  first | refine sL 0 rfl rfl tyA3 tyS3 rfl rfl ?_
  refine jA6 Tryz.underlying3 Tryz.underlying45 rfl (h.zo.toNat : Int) (wrap_toNat (by omega)) rfl ?_
  refine sBS Tryz.underlying135 tyS45 tyZ45 rfl rfl rfl rfl (by simp only [List.take_zero, List.drop_succ_cons, List.drop_zero, List.nil_append, List.append_nil, List.length_cons, List.length_nil, Nat.zero_add, Value.cells, wrV, jG2, List.replicate_succ, List.replicate_zero, Nat.reduceMul, Nat.zero_mul]; rfl) rfl (fun g9 => ?_)
  refine jB7 [0, 2] [1] (hput_fn g6 c6 _ (enc4 h) 1 [h.zo.toNat] (by omega) (by simp) (by simp; omega)) rfl rfl (by simp) rfl ?_
  rintro v H' ⟨g7, c7, rfl, rfl⟩
  refine jC7 (by simp only [List.filter_cons, List.filter_nil, Ent.wr, if_true, List.cons_append, List.nil_append, pick, List.filterMap_cons, List.filterMap_nil, List.getElem?_cons_succ, List.getElem?_cons_zero]; first | done | rfl) ?_
  rw [he16]
  refine sA rfl rfl <| sN (hZ _ _ ?_)
  refine aF [(1, _), (5, _)] (Kn.cons rfl (Kn.cons rfl (Kn.nil))) ?_
  refine jB5 [.own g1 78 h.cells, rowH g7 c7 (enc4 h ++ leB 1 h.zo.toNat)] (HLe.pick [2, 1] (by simp) rfl) ?_
  have l5 : (enc4 h ++ leB 1 h.zo.toNat).length = 119 := by simp [l4, jF2]
  have he17 : degsL (enc4 h ++ leB 1 h.zo.toNat) [h.lon, h.lat] = enc5 h := by simp [degsL, enc5]
  refine aR fun Z hZ => sM rfl rfl ?_
  refine sFA rfl tyF78_18 (by simp only [Nat.zero_add]; rfl) rfl ?_
  first | refine sL 0 rfl rfl tyA3 tyS3 rfl rfl ?_
  refine sFA rfl tyF78_19 (by simp only [Nat.zero_add]; rfl) rfl ?_
  first | refine sL 0 rfl rfl tyA3 tyS3 rfl rfl ?_
  refine sBS Tryz.underlying247 tyS3 tyZ3 rfl rfl rfl rfl (by simp only [List.take_succ_cons, List.take_zero, List.drop_succ_cons, List.drop_zero, List.cons_append, List.nil_append, List.append_nil, List.length_cons, List.length_nil, Nat.reduceAdd, Nat.zero_add, Value.cells, wrV, jG2, List.replicate_succ, List.replicate_zero, Nat.reduceMul, Nat.zero_mul]; rfl) rfl (fun g10 => ?_)
  refine jB7 [0, 2] [1] (hdegrees_fn g7 c7 _ (enc4 h ++ leB 1 h.zo.toNat) [h.lon, h.lat] (by omega) (by simp) (by simp; omega)) rfl rfl (by simp) rfl ?_
  rintro v H' ⟨g8, c8, rfl, rfl⟩
  refine jC7 (by simp only [List.filter_cons, List.filter_nil, Ent.wr, if_true, List.cons_append, List.nil_append, pick, List.filterMap_cons, List.filterMap_nil, List.getElem?_cons_succ, List.getElem?_cons_zero]; first | done | rfl) ?_
  rw [he17]
  refine sx_strB Tryz.underlying132 Tryz.underlying5 Tryz.underlying9 rfl (fun w hw => rd_row (i := 1) rfl hw) rfl ?_
  refine sA rfl rfl <| sA rfl rfl <| sN (hZ _ _ ?_)
  refine aF [(2, _), (3, _)] (Kn.cons rfl (Kn.cons rfl (Kn.nil))) ?_
  refine aE ?_
  exact jE1 rfl rfl rfl (by simp [encV, hc0])
end Go.Proofs.YtkojkeabelckjaaGreatDoor.Y
namespace Go.Proofs.YtkojkeabelckjaaGreatDoor.Y
open Go.RowKit
def atL (l : List UInt8) (i n : Nat) : Nat := numL ((l.drop i).take n)
theorem atL_lt (l : List UInt8) (i n : Nat) (hn : n ≤ 8) : atL l i n < 18446744073709551616 := by
  have h1 := numL_lt ((l.drop i).take n)
  have h2 := pow_le8 (n := ((l.drop i).take n).length) (by simp; omega)
  unfold atL
  omega
theorem hasPrefix0_fn (l p : List UInt8) : Fn Tryz.prog 184 [.string (str l), .string (str p)] [] fun v _ => v = .bool (decide (p.length ≤ l.length) && (l.take p.length == p)) := by
  refine Fn.enter (N := 18) Tryz.func184 rfl (by kernel_rfl) rfl (fun w0 => ?_)
  refine aR fun Z hZ => sA rfl rfl <| sN (hZ _ _ ?_)
  refine aF [(0, _), (1, _)] (Kn.cons rfl (Kn.cons rfl (Kn.nil))) ?_
  refine jA1 [(4, .bool (decide (p.length ≤ l.length) && (l.take p.length == p)))] [] (fun Z hZ => ?_) ?_
  · refine sM rfl rfl ?_
    refine jF3 Tryz.underlying9 rfl rfl ?_
    refine sM rfl rfl ?_
    refine jF3 Tryz.underlying9 rfl rfl ?_
    refine sx_geq rfl rfl rfl ?_
    refine sM rfl rfl ?_
    refine jB6 10 rfl (fun hb5 => ?_) (fun hb5 => ?_)
    · refine sOn rfl rfl rfl ?_
      refine sM rfl rfl ?_
      refine sOn rfl rfl rfl ?_
      refine sM rfl rfl ?_
      refine sOn rfl rfl rfl ?_
      refine jF3 Tryz.underlying9 rfl rfl ?_
      refine sOn rfl rfl rfl ?_
      refine sx_sliceS (l.take p.length) Tryz.underlying9 rfl rfl rfl (by omega) (by omega) (by simp at hb5; omega) (by simp) rfl ?_
      refine sOn rfl rfl rfl ?_
      refine sM rfl rfl ?_
      refine sOn rfl rfl rfl ?_
      refine sx_seql rfl rfl rfl ?_
      refine sP rfl rfl rfl <| sA rfl rfl ?_
      refine sN (hZ _ _ ?_ ?_)
      · exact Kn.cons (congrArg some (congrArg Value.bool (by simp at hb5; first | (simp [hb5]; done) | (simp; intro; omega)))) Kn.nil
      · exact HLe.refl _
    · refine sO rfl rfl rfl rfl rfl ?_
      refine sO rfl rfl rfl rfl rfl ?_
      refine sO rfl rfl rfl rfl rfl ?_
      refine sO rfl rfl rfl rfl rfl ?_
      refine sO rfl rfl rfl rfl rfl ?_
      refine sO rfl rfl rfl rfl rfl ?_
      refine sP rfl rfl rfl <| sA rfl rfl ?_
      refine sN (hZ _ _ ?_ ?_)
      · exact Kn.cons (congrArg some (congrArg Value.bool (by simp at hb5; first | (simp []; done) | (simp; intro; omega)))) Kn.nil
      · exact HLe.refl _
  refine aE ?_
  exact nR1 rfl rfl rfl
theorem hasPrefix_fn (l p : List UInt8) : Fn Tryz.prog 152 [.string (str l), .string (str p)] [] fun v _ => v = .bool (decide (p.length ≤ l.length) && (l.take p.length == p)) := by
  refine Fn.enter (N := 8) Tryz.func152 rfl (by kernel_rfl) rfl (fun w0 => ?_)
  refine aR fun Z hZ => sA rfl rfl <| sN (hZ _ _ ?_)
  refine aF [(0, _), (1, _)] (Kn.cons rfl (Kn.cons rfl (Kn.nil))) ?_
  refine aR fun Z hZ => sM rfl rfl <| sM rfl rfl ?_
  refine sCP (hasPrefix0_fn l p) rfl rfl ?_
  refine sA rfl rfl <| sN (hZ _ _ ?_)
  refine aF [(4, _)] (Kn.cons rfl (Kn.nil)) ?_
  refine aE ?_
  exact nR1 rfl rfl rfl
theorem enter_num : Enters Tryz.prog 185 := Enters.mk Tryz.func185 (by kernel_rfl) (by kernel_rfl)
abbrev scanC (l : List UInt8) (p : Nat) : List Value := [.string (str l), .int .i64 (p : Int), .int .i64 0]
theorem snum_fn (l : List UInt8) (p n : Nat) (hn : 1 ≤ n ∧ n ≤ 8) (hp : p + n ≤ l.length) (hl : l.length ≤ 9223372036854775807) :
    Fn Tryz.prog 185 [.agg (scanC l p).toArray, .int .i64 (n : Int)] [] fun v _ => v = .tuple #[uq (atL l p n), .agg (scanC l (p + n)).toArray] := by
  refine Fn.of_bel enter_num fun w => ?_
  have h := num_any (str l) (p : Int) 0 (n : Int) w (by rw [str_size]; unfold maxLen; omega)
  have hf : fitsB (n : Int) = true := by simp [fitsB]; omega
  have hst : stands (str l) (p : Int) = true := by simp [stands, str_size]; omega
  have hE : takeE (str l) (p : Int) 0 (n : Int) true = 0 := by
    unfold takeE
    rw [if_neg (by simp), if_neg (by simp [hst]), if_neg (by rw [str_size]; omega)]
  rw [hf] at h
  have hT : takeT (str l) (p : Int) 0 (n : Int) true = str ((l.drop p).take n) := by
    unfold takeT
    rw [if_pos hE, show ((p : Int)).toNat = p by omega, show ((p : Int) + (n : Int)).toNat = p + n by omega, str_cut]
    congr 2
    omega
  have hP : takeP (str l) (p : Int) 0 (n : Int) true = ((p + n : Nat) : Int) := by unfold takeP; rw [if_pos hE]; omega
  rw [hT, hP, hE, str_data] at h
  exact h
abbrev takeC (g : Nat) (l : List UInt8) (p : Nat) : Ent := .own g 259 (scanC l p)
theorem tnum_fn (g : Nat) (l : List UInt8) (p n : Nat) (hn : 1 ≤ n ∧ n ≤ 8) (hp : p + n ≤ l.length) (hl : l.length ≤ 9223372036854775807) :
    Fn Tryz.prog 154 [ptr g 0, .int .i64 (n : Int)] [takeC g l p] fun v H' => v = uq (atL l p n) ∧ H' = [takeC g l (p + n)] := by
  refine Fn.enter (N := 19) Tryz.func154 rfl (by kernel_rfl) rfl (fun w0 => ?_)
  refine aR fun Z hZ => sA rfl rfl <| sN (hZ _ _ ?_)
  refine aF [(0, _), (1, _)] (Kn.cons rfl (Kn.cons rfl (Kn.nil))) ?_
  refine aR fun Z hZ => sA rfl rfl <| sN (hZ _ _ ?_)
  refine aF [(0, _), (1, _)] (Kn.cons rfl (Kn.cons rfl (Kn.nil))) ?_
  refine aR fun Z hZ => sM rfl rfl <| sM rfl rfl ?_
  refine jB1 rfl rfl ?_
  refine sFA rfl tyF259_0 (by simp only [Nat.add_zero]; rfl) rfl ?_
  first | refine sLA 0 rfl rfl tyA220 tyS220 rfl (by simp only [List.take_succ_cons, List.take_zero, List.drop_zero]; rfl) rfl ?_
  refine sM rfl rfl ?_
  refine sCP (snum_fn l p n hn hp hl) rfl rfl ?_
  refine sM rfl rfl <| sX rfl rfl rfl <| sX rfl rfl rfl <| sA rfl rfl ?_
  refine jB1 rfl rfl ?_
  refine sFA rfl tyF259_0 (by simp only [Nat.add_zero]; rfl) rfl ?_
  first | refine sS 0 rfl rfl rfl tyS220 (by simp only [Value.cells]; rfl) rfl rfl rfl (by simp only [List.take_zero, List.drop_succ_cons, List.drop_zero, List.nil_append, List.append_nil, List.length_cons, List.length_nil, Nat.reduceAdd, Nat.zero_add, wrV]; rfl) (by simp only [List.set_cons_zero]; rfl) ?_
  refine sN (hZ _ _ ?_)
  refine aF [(5, _)] (Kn.cons rfl (Kn.nil)) ?_
  refine aR fun Z hZ => sM rfl rfl <| sA rfl rfl <| sN (hZ _ _ ?_)
  refine aF [(4, _)] (Kn.cons rfl (Kn.nil)) ?_
  refine aE ?_
  exact nR1 rfl rfl ⟨rfl, rfl⟩
theorem tsection_fn (g : Nat) (l : List UInt8) (p : Nat) (hp : p + 16 ≤ l.length) (hl : l.length ≤ 9223372036854775807) :
    Fn Tryz.prog 153 [ptr g 0] [takeC g l p] fun v H' => v = .agg #[uq (atL l p 8), uq (atL l (p + 8) 8)] ∧ H' = [takeC g l (p + 16)] := by
  refine Fn.enter (N := 10) Tryz.func153 rfl (by kernel_rfl) rfl (fun w0 => ?_)
  refine aR (fun Z hZ => ?_)
  refine sAl tyZ76 rfl (fun g1 => ?_)
  refine sN (hZ _ _ ?_)
  refine aF [(0, _), (2, _)] (Kn.cons rfl (Kn.cons rfl (Kn.nil))) ?_
  refine aR fun Z hZ => sM rfl rfl ?_
  refine jB7 [1] [0] (tnum_fn g l p 8 (by omega) (by omega) hl) rfl rfl (by simp) rfl ?_
  rintro v H' ⟨rfl, rfl⟩
  refine jC7 (by simp only [List.filter_cons, List.filter_nil, Ent.wr, if_true, List.cons_append, List.nil_append, pick, List.filterMap_cons, List.filterMap_nil, List.getElem?_cons_zero]; first | done | rfl) ?_
  refine sA rfl rfl <| sN (hZ _ _ ?_)
  refine aF [(0, _), (2, _), (3, _)] (Kn.cons rfl (Kn.cons rfl (Kn.cons rfl (Kn.nil)))) ?_
  refine aR fun Z hZ => sM rfl rfl <| sM rfl rfl ?_
  refine jB7 [0] [1] (tnum_fn g l (p + 8) 8 (by omega) (by omega) hl) rfl rfl (by simp) rfl ?_
  rintro v H' ⟨rfl, rfl⟩
  refine jC7 (by simp only [List.filter_cons, List.filter_nil, Ent.wr, if_true, List.cons_append, List.nil_append, pick, List.filterMap_cons, List.filterMap_nil, List.getElem?_cons_succ, List.getElem?_cons_zero]; first | done | rfl) ?_
  refine jB3 tyZ76 tyP76 rfl rfl (by simp only [List.take_succ_cons, List.take_zero, List.drop_succ_cons, List.drop_zero, List.cons_append, List.nil_append, List.append_nil, List.length_cons, List.length_nil, Nat.reduceAdd, Nat.zero_add, Value.cells, wrV]; rfl) rfl ?_
  refine sS 1 rfl rfl rfl tyS76 (by simp only [Value.cells]; rfl) rfl rfl rfl (by simp only [List.take_zero, List.drop_succ_cons, List.drop_zero, List.nil_append, List.append_nil, List.length_cons, List.length_nil, Nat.reduceAdd, Nat.zero_add, wrV]; rfl) (by simp only [List.set_cons_succ, List.set_cons_zero]; rfl) ?_
  refine sN (hZ _ _ ?_)
  refine aE ?_
  exact jD4 [takeC g l (p + 16)] rfl (ResOk.cell 1 rfl rfl tyA76 tyS76 rfl) (HLe.pick [0] (by simp) rfl) ⟨rfl, rfl⟩
theorem enter_sgn : Enters Tryz.prog 186 := Enters.mk Tryz.func186 (by kernel_rfl) (by kernel_rfl)
theorem sgn_fn (x n : Int) (hx : 0 ≤ x ∧ x < 18446744073709551616) : Fn Tryz.prog 186 [.int .u64 x, .int .i64 n] [] fun u _ => u = .tuple #[.int .i64 (sgnV x n), .int .i64 (sgnE n)] :=
  Fn.of_same enter_sgn fun w => signed_any x n w hx
def dgL (l : List UInt8) (i : Nat) : Int := sgnV (atL l i 4) 4
theorem tdegree_fn (g : Nat) (l : List UInt8) (p : Nat) (hp : p + 4 ≤ l.length) (hl : l.length ≤ 9223372036854775807) :
    Fn Tryz.prog 155 [ptr g 0] [takeC g l p] fun v H' => v = iq (dgL l p) ∧ H' = [takeC g l (p + 4)] := by
  have hb := atL_lt l p 4 (by omega)
  refine Fn.enter (N := 12) Tryz.func155 rfl (by kernel_rfl) rfl (fun w0 => ?_)
  refine aR fun Z hZ => sA rfl rfl <| sN (hZ _ _ ?_)
  refine aF [(0, _)] (Kn.cons rfl (Kn.nil)) ?_
  refine aR fun Z hZ => sM rfl rfl ?_
  refine jB7 [0] [] (tnum_fn g l p 4 (by omega) (by omega) hl) rfl rfl (by simp) rfl ?_
  rintro v H' ⟨rfl, rfl⟩
  refine jC7 (by simp only [List.filter_cons, List.filter_nil, Ent.wr, if_true, List.cons_append, List.nil_append, pick, List.filterMap_nil]; first | done | rfl) ?_
  refine sCP (sgn_fn (atL l p 4) 4 (by omega)) rfl rfl ?_
  refine sM rfl rfl <| sX rfl rfl rfl <| sX rfl rfl rfl <| sA rfl rfl <| sA rfl rfl <| sN (hZ _ _ ?_)
  refine aF [(3, _)] (Kn.cons rfl (Kn.nil)) ?_
  refine aR fun Z hZ => sM rfl rfl <| sA rfl rfl <| sN (hZ _ _ ?_)
  refine aF [(2, _)] (Kn.cons rfl (Kn.nil)) ?_
  refine aE ?_
  exact nR1 rfl rfl ⟨rfl, rfl⟩
end Go.Proofs.YtkojkeabelckjaaGreatDoor.Y
namespace Go.Proofs.YtkojkeabelckjaaGreatDoor.Y
open Go.RowKit
def zeroH : Hdr := ⟨0, 0, 0, 0, 0, 0, 0, 0, 0, 0, 0, false, 0, 0, 0, 0, 0, 0, 0, 0, 0, 0, 0, 0⟩
def magic7 : List UInt8 := [80, 77, 84, 105, 108, 101, 115]
def decH (l : List UInt8) : Hdr :=
  ⟨atL l 8 8, atL l 16 8, atL l 24 8, atL l 32 8, atL l 40 8, atL l 48 8, atL l 56 8, atL l 64 8, atL l 72 8, atL l 80 8, atL l 88 8, decide (atL l 96 1 = 1),
   atL l 97 1, atL l 98 1, atL l 99 1, atL l 100 1, atL l 101 1, dgL l 102, dgL l 106, dgL l 110, dgL l 114, atL l 118 1, dgL l 119, dgL l 123⟩
def decE (l : List UInt8) : Int :=
  if l.length < 127 then 3 else if l.take 7 ≠ magic7 then 12 else if l[7]? ≠ some 3 then 13 else if 1 < atL l 96 1 then 4 else jE9 (decH l)
def decV (l : List UInt8) : Hdr := if decE l = 0 then decH l else zeroH
theorem atL_byte (l : List UInt8) (i : Nat) : atL l i 1 < 256 := by
  have h1 := numL_lt ((l.drop i).take 1)
  unfold atL
  have h2 : ((l.drop i).take 1).length ≤ 1 := by simp; omega
  have : 256 ^ ((l.drop i).take 1).length ≤ 256 ^ 1 := Nat.pow_le_pow_right (by omega) h2
  omega
set_option maxHeartbeats 1000000 in
theorem hdecode_fn (l : List UInt8) (hl : l.length ≤ 9223372036854775807) : Fn Tryz.prog 111 [.string (str l)] [] fun v _ => v = .tuple #[(decV l).val, .int .i64 (decE l)] := by
  have hz : ∀ e : Int, decE l = e → e ≠ 0 → (Value.tuple #[zeroH.val, .int .i64 e] : Value) = .tuple #[(decV l).val, .int .i64 (decE l)] := fun e he h0 => by
    have : decV l = zeroH := by unfold decV; rw [if_neg (by omega)]
    rw [this, he]
  refine Fn.enter (N := 105) Tryz.func111 rfl (by kernel_rfl) rfl (fun w0 => ?_)
  refine aR (fun Z hZ => ?_)
  refine sAl tyZ78 rfl (fun g1 => ?_)
  refine sA rfl rfl <| sN (hZ _ _ ?_)
  refine aF [(0, _), (2, _)] (Kn.cons rfl (Kn.cons rfl (Kn.nil))) ?_
  refine aS (aB ?_)
  refine aR fun Z hZ => sM rfl rfl ?_
  refine jF3 Tryz.underlying9 rfl rfl ?_
  refine jC3 rfl rfl rfl ?_
  refine sA rfl rfl <| sN (hZ _ _ ?_)
  refine aF [(0, _), (2, _), (8, _)] (Kn.cons rfl (Kn.cons rfl (Kn.cons rfl (Kn.nil)))) ?_
  refine aC rfl (fun h11 => ?_) (fun h11 => ?_)
  · refine aR (fun Z hZ => ?_)
    refine jB3 tyZ78 tyP78 rfl rfl rfl rfl ?_
    first | refine sS 0 rfl rfl rfl tyS78 (by simp only [Value.cells]; rfl) rfl rfl rfl (by simp only [List.take_zero, List.drop_succ_cons, List.drop_zero, List.nil_append, List.append_nil, List.length_cons, List.length_nil, Nat.reduceAdd, Nat.zero_add, wrV]; rfl) (by simp only [List.set_cons_zero]; rfl) ?_
    refine sA rfl rfl <| sN (hZ _ _ ?_)
    refine aE ?_
    repeat (with_reducible (first | refine nTR ?_ | refine nBR ?_))
    exact jE1 rfl (ResOk.cell 0 rfl rfl tyA78 tyS78 rfl) rfl (hz 3 (by simp at h11; unfold decE; rw [if_pos (by omega)]) (by omega))
  have h127 : 127 ≤ l.length := by simp at h11; omega
  refine aR fun Z hZ => sM rfl rfl ?_
  refine sCP (hasPrefix_fn l magic7) rfl rfl ?_
  refine sx_not rfl rfl ?_
  refine sA rfl rfl <| sN (hZ _ _ ?_)
  refine aF [(0, _), (2, _), (13, _)] (Kn.cons rfl (Kn.cons rfl (Kn.cons rfl (Kn.nil)))) ?_
  refine aC rfl (fun h16 => ?_) (fun h16 => ?_)
  · refine aR (fun Z hZ => ?_)
    refine jB3 tyZ78 tyP78 rfl rfl rfl rfl ?_
    first | refine sS 0 rfl rfl rfl tyS78 (by simp only [Value.cells]; rfl) rfl rfl rfl (by simp only [List.take_zero, List.drop_succ_cons, List.drop_zero, List.nil_append, List.append_nil, List.length_cons, List.length_nil, Nat.reduceAdd, Nat.zero_add, wrV]; rfl) (by simp only [List.set_cons_zero]; rfl) ?_
    refine sA rfl rfl <| sN (hZ _ _ ?_)
    refine aE ?_
    repeat (with_reducible (first | refine nTR ?_ | refine nBR ?_))
    exact jE1 rfl (ResOk.cell 0 rfl rfl tyA78 tyS78 rfl) rfl (hz 12 (by
      have h7 : l.take 7 ≠ magic7 := by intro e; simp [magic7] at h16 e; rcases h16 with h16 | h16; omega; exact h16 e
      unfold decE; rw [if_neg (by omega), if_pos h7]) (by omega))
  have h7 : l.take 7 = magic7 := by simp [magic7] at h16 ⊢; exact h16.2
  obtain ⟨c7, hc7⟩ : ∃ c, l[7]? = some c := ⟨l[7]'(by omega), by simp [show 7 < l.length by omega]⟩
  refine aR fun Z hZ => sM rfl rfl ?_
  refine sx_indexS Tryz.underlying9 rfl rfl (by omega) hc7 rfl ?_
  refine jC9 rfl rfl rfl ?_
  refine sA rfl rfl <| sN (hZ _ _ ?_)
  refine aF [(0, _), (2, _), (18, _)] (Kn.cons rfl (Kn.cons rfl (Kn.cons rfl (Kn.nil)))) ?_
  refine aC rfl (fun h20 => ?_) (fun h20 => ?_)
  · refine aR (fun Z hZ => ?_)
    refine jB3 tyZ78 tyP78 rfl rfl rfl rfl ?_
    first | refine sS 0 rfl rfl rfl tyS78 (by simp only [Value.cells]; rfl) rfl rfl rfl (by simp only [List.take_zero, List.drop_succ_cons, List.drop_zero, List.nil_append, List.append_nil, List.length_cons, List.length_nil, Nat.reduceAdd, Nat.zero_add, wrV]; rfl) (by simp only [List.set_cons_zero]; rfl) ?_
    refine sA rfl rfl <| sN (hZ _ _ ?_)
    refine aE ?_
    repeat (with_reducible (first | refine nTR ?_ | refine nBR ?_))
    exact jE1 rfl (ResOk.cell 0 rfl rfl tyA78 tyS78 rfl) rfl (hz 13 (by
      have h3 : l[7]? ≠ some 3 := by rw [hc7]; intro e; obtain rfl := Option.some.inj e; simp at h20
      unfold decE; rw [if_neg (by omega), if_neg (by simp [h7]), if_pos h3]) (by omega))
  have h3 : l[7]? = some 3 := by
    rw [hc7]
    have : (c7.toNat : Int) = 3 := by simpa using h20
    exact congrArg some (UInt8.toNat_inj.1 (by simp; omega))
  refine aK ?_
  repeat (with_reducible refine nBN ?_)
  with_reducible refine nN ?_
  refine aR fun Z hZ => sM rfl rfl ?_
  refine jB3 tyZ220 tyP220 rfl rfl (by simp only [List.take_succ_cons, List.take_zero, List.drop_succ_cons, List.drop_zero, List.cons_append, List.nil_append, List.length_cons, List.length_nil, Nat.reduceAdd, Nat.zero_add, Value.cells, wrV]; rfl) rfl ?_
  refine jB3 tyZ259 tyP259 rfl rfl (by simp only [List.take_zero, List.drop_succ_cons, List.drop_zero, List.nil_append, List.append_nil, List.length_cons, List.length_nil, Nat.reduceAdd, Nat.zero_add, Value.cells, wrV]; rfl) rfl ?_
  refine jA5 rfl rfl rfl (fun g2 => ?_)
  refine sA rfl rfl <| sN (hZ _ _ ?_)
  refine aF [(2, _), (4, _)] (Kn.cons rfl (Kn.cons rfl (Kn.nil))) ?_
  refine aR (fun Z hZ => ?_)
  refine sAl tyZ78 rfl (fun g3 => ?_)
  refine sN (hZ _ _ ?_)
  refine aF [(2, _), (4, _), (5, _)] (Kn.cons rfl (Kn.cons rfl (Kn.cons rfl (Kn.nil)))) ?_
  refine jB5 [takeC _ l 8, .own _ 78 zeroH.cells, .own _ 78 zeroH.cells] (HLe.pick [1, 0, 2] (by simp) rfl) ?_
  refine aR fun Z hZ => sM rfl rfl ?_
  refine jB7 [0] [1, 2] (tsection_fn _ l 8 (by omega) hl) rfl rfl (by simp) rfl ?_
  rintro v H' ⟨rfl, rfl⟩
  refine jC7 (by simp only [List.filter_cons, List.filter_nil, Ent.wr, if_true, List.cons_append, List.nil_append, pick, List.filterMap_cons, List.filterMap_nil, List.getElem?_cons_succ, List.getElem?_cons_zero]; first | done | rfl) ?_
  refine sM rfl rfl ?_
  refine jB7 [0] [1, 2] (tsection_fn _ l 24 (by omega) hl) rfl rfl (by simp) rfl ?_
  rintro v H' ⟨rfl, rfl⟩
  refine jC7 (by simp only [List.filter_cons, List.filter_nil, Ent.wr, if_true, List.cons_append, List.nil_append, pick, List.filterMap_cons, List.filterMap_nil, List.getElem?_cons_succ, List.getElem?_cons_zero]; first | done | rfl) ?_
  refine sM rfl rfl ?_
  refine jB7 [0] [1, 2] (tsection_fn _ l 40 (by omega) hl) rfl rfl (by simp) rfl ?_
  rintro v H' ⟨rfl, rfl⟩
  refine jC7 (by simp only [List.filter_cons, List.filter_nil, Ent.wr, if_true, List.cons_append, List.nil_append, pick, List.filterMap_cons, List.filterMap_nil, List.getElem?_cons_succ, List.getElem?_cons_zero]; first | done | rfl) ?_
  refine sM rfl rfl ?_
  refine jB7 [0] [1, 2] (tsection_fn _ l 56 (by omega) hl) rfl rfl (by simp) rfl ?_
  rintro v H' ⟨rfl, rfl⟩
  refine jC7 (by simp only [List.filter_cons, List.filter_nil, Ent.wr, if_true, List.cons_append, List.nil_append, pick, List.filterMap_cons, List.filterMap_nil, List.getElem?_cons_succ, List.getElem?_cons_zero]; first | done | rfl) ?_
  refine sFA rfl tyF78_0 (by simp only [Nat.add_zero]; rfl) rfl ?_
  refine sS 1 rfl rfl rfl tyS76 (by simp only [Value.cells]; rfl) rfl rfl rfl (by simp only [List.take_zero, List.drop_succ_cons, List.drop_zero, List.cons_append, List.nil_append, List.length_cons, List.length_nil, Nat.reduceAdd, Nat.zero_add, wrV]; rfl) (by simp only [List.set_cons_succ, List.set_cons_zero]; rfl) ?_
  refine sFA rfl tyF78_1 (by simp only [Nat.zero_add]; rfl) rfl ?_
  refine sS 1 rfl rfl rfl tyS76 (by simp only [Value.cells]; rfl) rfl rfl rfl (by simp only [List.take_succ_cons, List.take_zero, List.drop_succ_cons, List.drop_zero, List.cons_append, List.nil_append, List.length_cons, List.length_nil, Nat.reduceAdd, Nat.zero_add, wrV]; rfl) (by simp only [List.set_cons_succ, List.set_cons_zero]; rfl) ?_
  refine sFA rfl tyF78_2 (by simp only [Nat.zero_add]; rfl) rfl ?_
  refine sS 1 rfl rfl rfl tyS76 (by simp only [Value.cells]; rfl) rfl rfl rfl (by simp only [List.take_succ_cons, List.take_zero, List.drop_succ_cons, List.drop_zero, List.cons_append, List.nil_append, List.length_cons, List.length_nil, Nat.reduceAdd, Nat.zero_add, wrV]; rfl) (by simp only [List.set_cons_succ, List.set_cons_zero]; rfl) ?_
  refine sFA rfl tyF78_3 (by simp only [Nat.zero_add]; rfl) rfl ?_
  refine sS 1 rfl rfl rfl tyS76 (by simp only [Value.cells]; rfl) rfl rfl rfl (by simp only [List.take_succ_cons, List.take_zero, List.drop_succ_cons, List.drop_zero, List.cons_append, List.nil_append, List.length_cons, List.length_nil, Nat.reduceAdd, Nat.zero_add, wrV]; rfl) (by simp only [List.set_cons_succ, List.set_cons_zero]; rfl) ?_
  refine sN (hZ _ _ ?_)
  refine aF [(2, _), (4, _), (5, _)] (Kn.cons rfl (Kn.cons rfl (Kn.cons rfl (Kn.nil)))) ?_
  refine aR fun Z hZ => sM rfl rfl ?_
  refine jB7 [0] [1, 2] (tnum_fn _ l 72 8 (by omega) (by omega) hl) rfl rfl (by simp) rfl ?_
  rintro v H' ⟨rfl, rfl⟩
  refine jC7 (by simp only [List.filter_cons, List.filter_nil, Ent.wr, if_true, List.cons_append, List.nil_append, pick, List.filterMap_cons, List.filterMap_nil, List.getElem?_cons_succ, List.getElem?_cons_zero]; first | done | rfl) ?_
  refine sM rfl rfl ?_
  refine jB7 [0] [1, 2] (tnum_fn _ l 80 8 (by omega) (by omega) hl) rfl rfl (by simp) rfl ?_
  rintro v H' ⟨rfl, rfl⟩
  refine jC7 (by simp only [List.filter_cons, List.filter_nil, Ent.wr, if_true, List.cons_append, List.nil_append, pick, List.filterMap_cons, List.filterMap_nil, List.getElem?_cons_succ, List.getElem?_cons_zero]; first | done | rfl) ?_
  refine sM rfl rfl ?_
  refine jB7 [0] [1, 2] (tnum_fn _ l 88 8 (by omega) (by omega) hl) rfl rfl (by simp) rfl ?_
  rintro v H' ⟨rfl, rfl⟩
  refine jC7 (by simp only [List.filter_cons, List.filter_nil, Ent.wr, if_true, List.cons_append, List.nil_append, pick, List.filterMap_cons, List.filterMap_nil, List.getElem?_cons_succ, List.getElem?_cons_zero]; first | done | rfl) ?_
  refine sFA rfl tyF78_4 (by simp only [Nat.zero_add]; rfl) rfl ?_
  refine sS1 1 rfl rfl rfl tyS45 rfl rfl (by simp only [List.set_cons_succ, List.set_cons_zero]; rfl) (by simp only [List.set_cons_succ, List.set_cons_zero]; rfl) ?_
  refine sFA rfl tyF78_5 (by simp only [Nat.zero_add]; rfl) rfl ?_
  refine sS1 1 rfl rfl rfl tyS45 rfl rfl (by simp only [List.set_cons_succ, List.set_cons_zero]; rfl) (by simp only [List.set_cons_succ, List.set_cons_zero]; rfl) ?_
  refine sFA rfl tyF78_6 (by simp only [Nat.zero_add]; rfl) rfl ?_
  refine sS1 1 rfl rfl rfl tyS45 rfl rfl (by simp only [List.set_cons_succ, List.set_cons_zero]; rfl) (by simp only [List.set_cons_succ, List.set_cons_zero]; rfl) ?_
  refine sN (hZ _ _ ?_)
  refine aF [(2, _), (4, _), (5, _)] (Kn.cons rfl (Kn.cons rfl (Kn.cons rfl (Kn.nil)))) ?_
  refine aR fun Z hZ => sM rfl rfl ?_
  refine jB7 [0] [1, 2] (tnum_fn _ l 96 1 (by omega) (by omega) hl) rfl rfl (by simp) rfl ?_
  rintro v H' ⟨rfl, rfl⟩
  refine jC7 (by simp only [List.filter_cons, List.filter_nil, Ent.wr, if_true, List.cons_append, List.nil_append, pick, List.filterMap_cons, List.filterMap_nil, List.getElem?_cons_succ, List.getElem?_cons_zero]; first | done | rfl) ?_
  refine sA rfl rfl <| sN (hZ _ _ ?_)
  refine aF [(2, _), (4, _), (5, _), (6, _)] (Kn.cons rfl (Kn.cons rfl (Kn.cons rfl (Kn.cons rfl (Kn.nil))))) ?_
  refine aS ?_
  refine aR fun Z hZ => sM rfl rfl ?_
  refine jE3 rfl rfl rfl ?_
  refine sN (hZ _ _ ?_)
  refine aF [(2, _), (4, _), (5, _), (6, _), (51, _)] (Kn.cons rfl (Kn.cons rfl (Kn.cons rfl (Kn.cons rfl (Kn.cons rfl (Kn.nil)))))) ?_
  refine aC rfl (fun h51 => ?_) (fun h51 => ?_)
  · refine aR (fun Z hZ => ?_)
    refine jB3 tyZ78 tyP78 rfl rfl rfl rfl ?_
    refine sS 2 rfl rfl rfl tyS78 (by simp only [Value.cells]; rfl) rfl rfl rfl (by simp only [List.take_zero, List.drop_succ_cons, List.drop_zero, List.nil_append, List.append_nil, List.length_cons, List.length_nil, Nat.reduceAdd, Nat.zero_add, wrV]; rfl) (by simp only [List.set_cons_succ, List.set_cons_zero]; rfl) ?_
    refine sA rfl rfl <| sN (hZ _ _ ?_)
    refine aE ?_
    repeat (with_reducible refine nTR ?_)
    exact jE1 rfl (ResOk.cell 2 rfl rfl tyA78 tyS78 rfl) rfl (hz 4 (by
      have : 1 < atL l 96 1 := by simp at h51; omega
      unfold decE; rw [if_neg (by omega), if_neg (by simp [h7]), if_neg (by simp [h3]), if_pos this]) (by omega))
  refine aK ?_
  with_reducible refine nN ?_
  have h96 : ¬ 1 < atL l 96 1 := by simp at h51; omega
  have hcl : ((atL l 96 1 : Int) == 1) = (decH l).cl := by rw [Bool.eq_iff_iff]; simp [decH]; omega
  have hu : ∀ i, IntKind.u8.wrap ((atL l i 1 : Nat) : Int) = ((atL l i 1 : Nat) : Int) := fun i => IntWalk.u8_in _ (by have := atL_byte l i; omega)
  have hi : ∀ i, IntKind.i64.wrap ((atL l i 1 : Nat) : Int) = ((atL l i 1 : Nat) : Int) := fun i => IntWalk.i64_in _ (by have := atL_byte l i; omega)
  refine aR fun Z hZ => sM rfl rfl ?_
  refine jD7 rfl rfl rfl ?_
  rw [hcl]
  refine sFA rfl tyF78_7 (by simp only [Nat.zero_add]; rfl) rfl ?_
  refine sS1 1 rfl rfl rfl tyS4 rfl rfl (by simp only [List.set_cons_succ, List.set_cons_zero]; rfl) (by simp only [List.set_cons_succ, List.set_cons_zero]; rfl) ?_
  refine sN (hZ _ _ ?_)
  refine aF [(2, _), (4, _), (5, _)] (Kn.cons rfl (Kn.cons rfl (Kn.cons rfl (Kn.nil)))) ?_
  refine aR fun Z hZ => sM rfl rfl ?_
  refine jB7 [0] [1, 2] (tnum_fn _ l 97 1 (by omega) (by omega) hl) rfl rfl (by simp) rfl ?_
  rintro v H' ⟨rfl, rfl⟩
  refine jC7 (by simp only [List.filter_cons, List.filter_nil, Ent.wr, if_true, List.cons_append, List.nil_append, pick, List.filterMap_cons, List.filterMap_nil, List.getElem?_cons_succ, List.getElem?_cons_zero]; first | done | rfl) ?_
  refine jA6 Tryz.underlying45 Tryz.underlying5 rfl _ (hu 97) rfl ?_
  refine sM rfl rfl ?_
  refine jB7 [0] [1, 2] (tnum_fn _ l 98 1 (by omega) (by omega) hl) rfl rfl (by simp) rfl ?_
  rintro v H' ⟨rfl, rfl⟩
  refine jC7 (by simp only [List.filter_cons, List.filter_nil, Ent.wr, if_true, List.cons_append, List.nil_append, pick, List.filterMap_cons, List.filterMap_nil, List.getElem?_cons_succ, List.getElem?_cons_zero]; first | done | rfl) ?_
  refine jA6 Tryz.underlying45 Tryz.underlying5 rfl _ (hu 98) rfl ?_
  refine sM rfl rfl ?_
  refine jB7 [0] [1, 2] (tnum_fn _ l 99 1 (by omega) (by omega) hl) rfl rfl (by simp) rfl ?_
  rintro v H' ⟨rfl, rfl⟩
  refine jC7 (by simp only [List.filter_cons, List.filter_nil, Ent.wr, if_true, List.cons_append, List.nil_append, pick, List.filterMap_cons, List.filterMap_nil, List.getElem?_cons_succ, List.getElem?_cons_zero]; first | done | rfl) ?_
  refine jA6 Tryz.underlying45 Tryz.underlying5 rfl _ (hu 99) rfl ?_
  refine sFA rfl tyF78_8 (by simp only [Nat.zero_add]; rfl) rfl ?_
  refine sS1 1 rfl rfl rfl tyS5 rfl rfl (by simp only [List.set_cons_succ, List.set_cons_zero]; rfl) (by simp only [List.set_cons_succ, List.set_cons_zero]; rfl) ?_
  refine sFA rfl tyF78_9 (by simp only [Nat.zero_add]; rfl) rfl ?_
  refine sS1 1 rfl rfl rfl tyS5 rfl rfl (by simp only [List.set_cons_succ, List.set_cons_zero]; rfl) (by simp only [List.set_cons_succ, List.set_cons_zero]; rfl) ?_
  refine sFA rfl tyF78_10 (by simp only [Nat.zero_add]; rfl) rfl ?_
  refine sS1 1 rfl rfl rfl tyS5 rfl rfl (by simp only [List.set_cons_succ, List.set_cons_zero]; rfl) (by simp only [List.set_cons_succ, List.set_cons_zero]; rfl) ?_
  refine sN (hZ _ _ ?_)
  refine aF [(2, _), (4, _), (5, _)] (Kn.cons rfl (Kn.cons rfl (Kn.cons rfl (Kn.nil)))) ?_
  refine aR fun Z hZ => sM rfl rfl ?_
  refine jB7 [0] [1, 2] (tnum_fn _ l 100 1 (by omega) (by omega) hl) rfl rfl (by simp) rfl ?_
  rintro v H' ⟨rfl, rfl⟩
  refine jC7 (by simp only [List.filter_cons, List.filter_nil, Ent.wr, if_true, List.cons_append, List.nil_append, pick, List.filterMap_cons, List.filterMap_nil, List.getElem?_cons_succ, List.getElem?_cons_zero]; first | done | rfl) ?_
  refine jA6 Tryz.underlying45 Tryz.underlying3 rfl _ (hi 100) rfl ?_
  refine sM rfl rfl ?_
  refine jB7 [0] [1, 2] (tnum_fn _ l 101 1 (by omega) (by omega) hl) rfl rfl (by simp) rfl ?_
  rintro v H' ⟨rfl, rfl⟩
  refine jC7 (by simp only [List.filter_cons, List.filter_nil, Ent.wr, if_true, List.cons_append, List.nil_append, pick, List.filterMap_cons, List.filterMap_nil, List.getElem?_cons_succ, List.getElem?_cons_zero]; first | done | rfl) ?_
  refine jA6 Tryz.underlying45 Tryz.underlying3 rfl _ (hi 101) rfl ?_
  refine sFA rfl tyF78_11 (by simp only [Nat.zero_add]; rfl) rfl ?_
  refine sS1 1 rfl rfl rfl tyS3 rfl (by simp only [List.length_cons, List.length_nil, Nat.reduceAdd, Nat.zero_add]; rfl) (by simp only [List.set_cons_succ, List.set_cons_zero]; rfl) (by simp only [List.set_cons_succ, List.set_cons_zero]; rfl) ?_
  refine sFA rfl tyF78_12 (by simp only [Nat.zero_add]; rfl) rfl ?_
  refine sS1 1 rfl rfl rfl tyS3 rfl (by simp only [List.length_cons, List.length_nil, Nat.reduceAdd, Nat.zero_add]; rfl) (by simp only [List.set_cons_succ, List.set_cons_zero]; rfl) (by simp only [List.set_cons_succ, List.set_cons_zero]; rfl) ?_
  refine sN (hZ _ _ ?_)
  refine aF [(2, _), (4, _), (5, _)] (Kn.cons rfl (Kn.cons rfl (Kn.cons rfl (Kn.nil)))) ?_
  refine aR fun Z hZ => sM rfl rfl ?_
  refine jB7 [0] [1, 2] (tdegree_fn _ l 102 (by omega) hl) rfl rfl (by simp) rfl ?_
  rintro v H' ⟨rfl, rfl⟩
  refine jC7 (by simp only [List.filter_cons, List.filter_nil, Ent.wr, if_true, List.cons_append, List.nil_append, pick, List.filterMap_cons, List.filterMap_nil, List.getElem?_cons_succ, List.getElem?_cons_zero]; first | done | rfl) ?_
  refine sM rfl rfl ?_
  refine jB7 [0] [1, 2] (tdegree_fn _ l 106 (by omega) hl) rfl rfl (by simp) rfl ?_
  rintro v H' ⟨rfl, rfl⟩
  refine jC7 (by simp only [List.filter_cons, List.filter_nil, Ent.wr, if_true, List.cons_append, List.nil_append, pick, List.filterMap_cons, List.filterMap_nil, List.getElem?_cons_succ, List.getElem?_cons_zero]; first | done | rfl) ?_
  refine sM rfl rfl ?_
  refine jB7 [0] [1, 2] (tdegree_fn _ l 110 (by omega) hl) rfl rfl (by simp) rfl ?_
  rintro v H' ⟨rfl, rfl⟩
  refine jC7 (by simp only [List.filter_cons, List.filter_nil, Ent.wr, if_true, List.cons_append, List.nil_append, pick, List.filterMap_cons, List.filterMap_nil, List.getElem?_cons_succ, List.getElem?_cons_zero]; first | done | rfl) ?_
  refine sM rfl rfl ?_
  refine jB7 [0] [1, 2] (tdegree_fn _ l 114 (by omega) hl) rfl rfl (by simp) rfl ?_
  rintro v H' ⟨rfl, rfl⟩
  refine jC7 (by simp only [List.filter_cons, List.filter_nil, Ent.wr, if_true, List.cons_append, List.nil_append, pick, List.filterMap_cons, List.filterMap_nil, List.getElem?_cons_succ, List.getElem?_cons_zero]; first | done | rfl) ?_
  refine sFA rfl tyF78_13 (by simp only [Nat.zero_add]; rfl) rfl ?_
  refine sS1 1 rfl rfl rfl tyS3 rfl (by simp only [List.length_cons, List.length_nil, Nat.reduceAdd, Nat.zero_add]; rfl) (by simp only [List.set_cons_succ, List.set_cons_zero]; rfl) (by simp only [List.set_cons_succ, List.set_cons_zero]; rfl) ?_
  refine sFA rfl tyF78_14 (by simp only [Nat.zero_add]; rfl) rfl ?_
  refine sS1 1 rfl rfl rfl tyS3 rfl (by simp only [List.length_cons, List.length_nil, Nat.reduceAdd, Nat.zero_add]; rfl) (by simp only [List.set_cons_succ, List.set_cons_zero]; rfl) (by simp only [List.set_cons_succ, List.set_cons_zero]; rfl) ?_
  refine sFA rfl tyF78_15 (by simp only [Nat.zero_add]; rfl) rfl ?_
  refine sS1 1 rfl rfl rfl tyS3 rfl (by simp only [List.length_cons, List.length_nil, Nat.reduceAdd, Nat.zero_add]; rfl) (by simp only [List.set_cons_succ, List.set_cons_zero]; rfl) (by simp only [List.set_cons_succ, List.set_cons_zero]; rfl) ?_
  refine sFA rfl tyF78_16 (by simp only [Nat.zero_add]; rfl) rfl ?_
  refine sS1 1 rfl rfl rfl tyS3 rfl (by simp only [List.length_cons, List.length_nil, Nat.reduceAdd, Nat.zero_add]; rfl) (by simp only [List.set_cons_succ, List.set_cons_zero]; rfl) (by simp only [List.set_cons_succ, List.set_cons_zero]; rfl) ?_
  refine sN (hZ _ _ ?_)
  refine aF [(2, _), (4, _), (5, _)] (Kn.cons rfl (Kn.cons rfl (Kn.cons rfl (Kn.nil)))) ?_
  refine aR fun Z hZ => sM rfl rfl ?_
  refine jB7 [0] [1, 2] (tnum_fn _ l 118 1 (by omega) (by omega) hl) rfl rfl (by simp) rfl ?_
  rintro v H' ⟨rfl, rfl⟩
  refine jC7 (by simp only [List.filter_cons, List.filter_nil, Ent.wr, if_true, List.cons_append, List.nil_append, pick, List.filterMap_cons, List.filterMap_nil, List.getElem?_cons_succ, List.getElem?_cons_zero]; first | done | rfl) ?_
  refine jA6 Tryz.underlying45 Tryz.underlying3 rfl _ (hi 118) rfl ?_
  refine sM rfl rfl ?_
  refine jB7 [0] [1, 2] (tdegree_fn _ l 119 (by omega) hl) rfl rfl (by simp) rfl ?_
  rintro v H' ⟨rfl, rfl⟩
  refine jC7 (by simp only [List.filter_cons, List.filter_nil, Ent.wr, if_true, List.cons_append, List.nil_append, pick, List.filterMap_cons, List.filterMap_nil, List.getElem?_cons_succ, List.getElem?_cons_zero]; first | done | rfl) ?_
  refine sM rfl rfl ?_
  refine jB7 [0] [1, 2] (tdegree_fn _ l 123 (by omega) hl) rfl rfl (by simp) rfl ?_
  rintro v H' ⟨rfl, rfl⟩
  refine jC7 (by simp only [List.filter_cons, List.filter_nil, Ent.wr, if_true, List.cons_append, List.nil_append, pick, List.filterMap_cons, List.filterMap_nil, List.getElem?_cons_succ, List.getElem?_cons_zero]; first | done | rfl) ?_
  refine sFA rfl tyF78_17 (by simp only [Nat.zero_add]; rfl) rfl ?_
  refine sS1 1 rfl rfl rfl tyS3 rfl (by simp only [List.length_cons, List.length_nil, Nat.reduceAdd, Nat.zero_add]; rfl) (by simp only [List.set_cons_succ, List.set_cons_zero]; rfl) (by simp only [List.set_cons_succ, List.set_cons_zero]; rfl) ?_
  refine sFA rfl tyF78_18 (by simp only [Nat.zero_add]; rfl) rfl ?_
  refine sS1 1 rfl rfl rfl tyS3 rfl (by simp only [List.length_cons, List.length_nil, Nat.reduceAdd, Nat.zero_add]; rfl) (by simp only [List.set_cons_succ, List.set_cons_zero]; rfl) (by simp only [List.set_cons_succ, List.set_cons_zero]; rfl) ?_
  refine sFA rfl tyF78_19 (by simp only [Nat.zero_add]; rfl) rfl ?_
  refine sS1 1 rfl rfl rfl tyS3 rfl (by simp only [List.length_cons, List.length_nil, Nat.reduceAdd, Nat.zero_add]; rfl) (by simp only [List.set_cons_succ, List.set_cons_zero]; rfl) (by simp only [List.set_cons_succ, List.set_cons_zero]; rfl) ?_
  refine sN (hZ _ _ ?_)
  refine aF [(2, _), (5, _)] (Kn.cons rfl (Kn.cons rfl (Kn.nil))) ?_
  refine jB5 [.own g3 78 (decH l).cells, .own g1 78 zeroH.cells] (HLe.pick [1, 2] (by simp) rfl) ?_
  refine aS ?_
  refine aR (fun Z hZ => ?_)
  refine sLA 0 rfl rfl tyA78 tyS78 (by simp only [List.length_cons, List.length_nil, Nat.reduceAdd, Nat.zero_add]; rfl) (by simp only [List.take_succ_cons, List.take_zero, List.drop_zero]; rfl) rfl ?_
  refine sCP (hcheck_fn (decH l)) rfl rfl ?_
  refine sA rfl rfl <| sN (hZ _ _ ?_)
  refine aF [(2, _), (5, _), (7, _)] (Kn.cons rfl (Kn.cons rfl (Kn.cons rfl (Kn.nil)))) ?_
  refine aR fun Z hZ => sM rfl rfl ?_
  refine jC9 rfl rfl rfl ?_
  refine sN (hZ _ _ ?_)
  refine aF [(2, _), (5, _), (7, _), (101, _)] (Kn.cons rfl (Kn.cons rfl (Kn.cons rfl (Kn.cons rfl (Kn.nil))))) ?_
  have hE : decE l = jE9 (decH l) := by unfold decE; rw [if_neg (by omega), if_neg (by simp [h7]), if_neg (by simp [h3]), if_neg h96]
  refine aC rfl (fun h101 => ?_) (fun h101 => ?_)
  · refine aR (fun Z hZ => ?_)
    refine jB3 tyZ78 tyP78 rfl rfl rfl rfl ?_
    refine sM rfl rfl ?_
    refine sS 1 rfl rfl rfl tyS78 (by simp only [Value.cells]; rfl) rfl rfl (by simp only [List.length_cons, List.length_nil, Nat.reduceAdd, Nat.zero_add]; rfl) (by simp only [List.take_zero, List.drop_succ_cons, List.drop_zero, List.nil_append, List.append_nil, List.length_cons, List.length_nil, Nat.reduceAdd, Nat.zero_add, wrV]; rfl) (by simp only [List.set_cons_succ, List.set_cons_zero]; rfl) ?_
    refine sA rfl rfl <| sN (hZ _ _ ?_)
    refine aE ?_
    repeat (with_reducible refine nTR ?_)
    have hne : ¬ jE9 (decH l) = 0 := by simpa using h101
    exact jE1 rfl (ResOk.cell 1 rfl rfl tyA78 tyS78 rfl) rfl (hz _ hE hne)
  refine aK ?_
  with_reducible refine nN ?_
  have hc0 : jE9 (decH l) = 0 := by simpa using h101
  refine aR (fun Z hZ => ?_)
  refine sLA 0 rfl rfl tyA78 tyS78 (by simp only [List.length_cons, List.length_nil, Nat.reduceAdd, Nat.zero_add]; rfl) (by simp only [List.take_succ_cons, List.take_zero, List.drop_zero]; rfl) rfl ?_
  refine sS 1 rfl rfl rfl tyS78 (by simp only [Value.cells]; rfl) rfl rfl (by simp only [List.length_cons, List.length_nil, Nat.reduceAdd, Nat.zero_add]; rfl) (by simp only [List.take_zero, List.drop_succ_cons, List.drop_zero, List.nil_append, List.append_nil, List.length_cons, List.length_nil, Nat.reduceAdd, Nat.zero_add, wrV]; rfl) (by simp only [List.set_cons_succ, List.set_cons_zero]; rfl) ?_
  refine sA rfl rfl <| sN (hZ _ _ ?_)
  refine aE ?_
  refine jE1 rfl (ResOk.cell 1 rfl rfl tyA78 tyS78 rfl) rfl ?_
  have : decV l = decH l := by unfold decV; rw [hE, if_pos hc0]
  rw [this, hE, hc0]
  rfl
end Go.Proofs.YtkojkeabelckjaaGreatDoor.Y
namespace Go.Proofs.YtkojkeabelckjaaGreatDoor.Y
open Go.RowKit
end Go.Proofs.YtkojkeabelckjaaGreatDoor.Y
