/- Walks and plain laws for this claim (texts Ghd2, Ghd3, LayJoin, joined). Each theorem states its own conditions. -/
import Derived.Test.YtkojkeabelckjaaGreatDoorJ22
import Derived.Test.YtkojkeabelckjaaGreatDoorJ04
import Derived.Test.YtkojkeabelckjaaGreatDoorJ07
import Derived.Test.YtkojkeabelckjaaGreatDoorJ05
import Derived.Test.YtkojkeabelckjaaGreatDoorJ06
import Derived.Shelf.Strings.OnBuilder

section
set_option linter.all false
namespace Go.Proofs.YtkojkeabelckjaaGreatDoor.Y
open Go.RowKit
theorem putL_in (b : List UInt8) (n x : Nat) (hn : 1 ≤ n ∧ n ≤ 8) : putL b n x = b ++ leB n x := by unfold putL; rw [if_pos (by omega)]; simp
theorem put8 (b : List UInt8) (x : Nat) : putL b 8 x = b ++ leB 8 x := putL_in b 8 x (by omega)
theorem put1 (b : List UInt8) (x : Nat) : putL b 1 x = b ++ leB 1 x := putL_in b 1 x (by omega)
def encS (h : Hdr) (k : Nat) : List UInt8 := ((secL h).take k).foldl (fun b p => b ++ secB p.1 p.2) [80, 77, 84, 105, 108, 101, 115, 3]
theorem encS_length (h : Hdr) : ∀ k, k ≤ 4 → (encS h k).length = 8 + 16 * k := by
 intro k hk
 obtain rfl | rfl | rfl | rfl | rfl : k = 0 ∨ k = 1 ∨ k = 2 ∨ k = 3 ∨ k = 4 := by omega
 all_goals simp [encS, secL, secB_length]
theorem encS_four (h : Hdr) : encS h 4 = enc1 h := rfl
def enc2a (h : Hdr) : List UInt8 := enc1 h ++ leB 8 h.ad ++ leB 8 h.en ++ leB 8 h.co
theorem enc2a_length (h : Hdr) : (enc2a h).length = 96 := by simp [enc2a, enc1_length, jG7]
set_option maxHeartbeats 1000000 in
theorem hencode_fn (h : Hdr) (hk : h.Ok) : Fn Tryz.prog 60 [h.val] [] fun v _ => v = .tuple #[.string (str (encV h)), .int .i64 (jG3 h)] := by
 refine Fn.enter (N := 86) Tryz.func60 rfl (by kernel_rfl) rfl (fun w0 => ?_)
 refine aR (fun Z hZ => ?_)
 refine jC3 rfl rfl rfl (fun g1 => ?_)
 refine sA rfl rfl <| sA rfl rfl <| sN (hZ _ _ ?_)
 refine aF [(1, _)] (Kn.cons rfl (Kn.nil)) ?_
 refine aS ?_
 refine aR (fun Z hZ => ?_)
 first | refine sLA 0 rfl rfl tyA78 tyS78 rfl (by simp only [qS, Value.cells]; rfl) rfl ?_
 refine sCP (hcheck_fn h) rfl rfl ?_
 refine sA rfl rfl <| sN (hZ _ _ ?_)
 refine aF [(1, _), (4, _)] (kR rfl) ?_
 refine aR fun Z hZ => sM rfl rfl ?_
 refine jE5 rfl rfl rfl ?_
 refine sN (hZ _ _ ?_)
 refine aF [(1, _), (4, _), (12, _)] (kR rfl) ?_
 refine aC rfl (fun h10 => ?_) (fun h10 => ?_)
 ·refine aR (fun Z hZ => ?_)
  refine sM rfl rfl <| sA rfl rfl <| sA rfl rfl <| sN (hZ _ _ ?_)
  refine aF [(2, _), (3, _)] (kR rfl) ?_
  refine aE ?_
  repeat (with_reducible refine nTR ?_)
  have : ¬ jG3 h = 0 := by simpa using h10
  exact jF9 rfl rfl rfl (by simp [encV, this]; rfl)
 refine aK ?_
 with_reducible refine nN ?_
 have hc0 : jG3 h = 0 := by simpa using h10
 obtain ⟨_, hkd, hz, hlo, hla⟩ := check_ok hc0
 refine aR (fun Z hZ => ?_)
 refine sBS Tryz.underlying132 tyS5 tyZ5 rfl rfl rfl rfl (by simp only [qS, Nat.reduceAdd, Value.cells, wrV, jG9, List.replicate_succ, List.replicate_zero, Nat.reduceMul, Nat.zero_mul]; rfl) rfl (fun g2 => ?_)
 refine sx_convB 0 Tryz.underlying132 Tryz.underlying5 rfl rfl rfl ?_
 refine sBS Tryz.underlying132 tyS5 tyZ5 rfl rfl rfl rfl (by simp only [qS, Value.cells, wrV, jG9, List.replicate_succ, List.replicate_zero, Nat.reduceMul, Nat.zero_mul]; rfl) rfl (fun g3 => ?_)
 refine sx_appendFull elemU8 rfl rfl (fun w hw => rd_ro (i := 1) rfl rfl hw) (fun w hw => rd_own (i := 0) rfl rfl hw) (by omega) (by omega) (by omega) (by decide) (by omega) rfl (fun v hv => ?_)
 obtain ⟨g5, c5, rfl⟩ := hv.some (by omega)
 refine sA rfl rfl <| sN (hZ _ _ ?_)
 refine aF [(1, _), (5, _)] (kR rfl) ?_
 refine jA8 [.own g1 78 h.cells, rowH g5 c5 (encS h 0)] (HLe.pick [3, 0] (by simp) rfl) ?_
 refine aS ?_
 refine aR (fun Z hZ => ?_)
 first | refine sLA 0 rfl rfl tyA78 tyS78 rfl (by simp only [qS]; rfl) rfl ?_
 refine sCP (hsections_fn h) rfl rfl ?_
 refine sM rfl rfl <| sN (hZ _ _ ?_)
 refine aF [(1, _), (5, _), (19, _), (20, _)] (kR rfl) ?_
 refine aB ?_
 refine jB6 (ι := Nat × Nat × Nat) (fun i => [(1, ptr g1 0), (5, rowV i.2.1 (encS h i.1).length i.2.2), (19, .agg h.secs.toArray), (20, .int .i64 (i.1 : Int))])
  (fun i => [.own g1 78 h.cells, rowH i.2.1 i.2.2 (encS h i.1)])
  (fun i => i.1 ≤ 4) (fun i => 4 - i.1) (0, g5, c5) (by simp) (kR rfl) (HLe.refl _) ?_
 rintro ⟨k, g2, c2⟩ hk4
 simp only at hk4
 have hlen := encS_length h k hk4
 refine aR (fun Z hZ => ?_)
 refine jC4 rfl rfl rfl ?_
 refine sN (hZ _ _ ?_)
 refine aF [(1, _), (5, _), (19, _), (20, _), (21, _)] (kR rfl) ?_
 refine aS (aC rfl (fun h4 => ?_) (fun h4 => ?_))
 ·have hlt : k < 4 := by simp at h4; omega
  refine aK ?_
  with_reducible refine nN ?_
  obtain ⟨p, hp, hrd, hpb⟩ : ∃ p : Nat × Nat, encS h (k + 1) = encS h k ++ secB p.1 p.2 ∧ rdV true 2 h.secs (k * 2) = some (.agg #[uq p.1, uq p.2]) ∧ ∀ x ∈ [p.1, p.2], x < 18446744073709551616 := by
   obtain rfl | rfl | rfl | rfl : k = 0 ∨ k = 1 ∨ k = 2 ∨ k = 3 := by omega
   ·exact ⟨(h.r0, h.r1), rfl, rfl, by simp [hk.r0, hk.r1]⟩
   ·exact ⟨(h.m0, h.m1), rfl, rfl, by simp [hk.m0, hk.m1]⟩
   ·exact ⟨(h.l0, h.l1), rfl, rfl, by simp [hk.l0, hk.l1]⟩
   ·exact ⟨(h.d0, h.d1), rfl, rfl, by simp [hk.d0, hk.d1]⟩
  have he : putsL (encS h k) 8 [p.1, p.2] = encS h (k + 1) := by rw [hp]; simp [putsL, put8, secB]
  refine aS (aB ?_)
  refine aR (fun Z hZ => ?_)
  refine sx_indexA Tryz.underlying141 tyA76 tyS76 rfl rfl (by omega) hrd rfl ?_
  refine sAl tyZ76 rfl (fun g4 => ?_)
  refine sS 0 rfl rfl rfl tyS76 (by simp only [Value.cells]; rfl) rfl rfl rfl (by simp only [qS, Nat.reduceAdd, wrV]; rfl) (by simp only [List.set_cons_zero]; rfl) ?_
  refine sN (hZ _ _ ?_)
  refine aF [(1, _), (5, _), (7, _), (19, _), (20, _)] (kR rfl) ?_
  refine aG (fun Z hZ => ?_)
  refine sM rfl rfl ?_
  refine sFA rfl tyF76_0 (by simp only [Nat.add_zero]; rfl) rfl ?_
  refine sL 0 rfl rfl tyA45 tyS45 rfl rfl ?_
  refine sFA rfl tyF76_1 (by simp only [Nat.zero_add]; rfl) rfl ?_
  refine sL 0 rfl rfl tyA45 tyS45 rfl rfl ?_
  refine sBS Tryz.underlying135 tyS45 tyZ45 rfl rfl rfl rfl (by simp only [qS, Nat.reduceAdd, Value.cells, wrV, jG9, List.replicate_succ, List.replicate_zero, Nat.reduceMul, Nat.zero_mul]; rfl) rfl (fun g5 => ?_)
  refine jB0 [0, 3] [1, 2] (hput_fn g2 c2 _ (encS h k) 8 [p.1, p.2] (by omega) (by simp) hpb) rfl rfl (by simp) rfl ?_
  rintro v H' ⟨g9, c9, rfl, rfl⟩
  refine jC0 (by simp only [List.filter_cons, List.filter_nil, Ent.wr, if_true, qS, pick, List.filterMap_cons]; first | done | rfl) ?_
  rw [he]
  refine sA rfl rfl <| sN (hZ _ _ ?_)
  refine nF [(1, _), (5, _), (19, _), (20, _)] (kR rfl) ?_
  repeat (with_reducible refine nBN ?_)
  with_reducible refine nN ?_
  refine aG (fun Z hZ => ?_)
  refine jB8 rfl rfl ((k + 1 : Nat) : Int) (by rw [IntWalk.i64_in _ (by omega)]; omega) rfl ?_
  refine sM rfl rfl <| sN (hZ _ _ ?_)
  refine nF [(1, _), (5, _), (19, _), (20, _)] (kR rfl) ?_
  exact jB5 (k + 1, g9, c9) (by simp; omega) (by simp; omega) (kR rfl) (HLe.pick [3, 1] (by simp) rfl)
 refine jB1 ?_
 repeat (with_reducible refine nTE ?_)
 with_reducible refine nBE ?_
 with_reducible refine nN ?_
 obtain rfl : k = 4 := by simp at h4; omega
 have l1 := enc1_length h
 have he10 : putsL (encS h 4) 8 [h.ad, h.en, h.co] = enc2a h := by rw [encS_four]; simp [putsL, put8, enc2a]
 refine aR fun Z hZ => sM rfl rfl ?_
 refine sFA rfl tyF78_4 (by simp only [Nat.zero_add]; rfl) rfl ?_
 first | refine sL 0 rfl rfl tyA45 tyS45 rfl rfl ?_
 refine sFA rfl tyF78_5 (by simp only [Nat.zero_add]; rfl) rfl ?_
 first | refine sL 0 rfl rfl tyA45 tyS45 rfl rfl ?_
 refine sFA rfl tyF78_6 (by simp only [Nat.zero_add]; rfl) rfl ?_
 first | refine sL 0 rfl rfl tyA45 tyS45 rfl rfl ?_
 refine sBS Tryz.underlying135 tyS45 tyZ45 rfl rfl rfl rfl (by simp only [qS, Nat.reduceAdd, Value.cells, wrV, jG9, List.replicate_succ, List.replicate_zero, Nat.reduceMul, Nat.zero_mul]; rfl) rfl (fun g6 => ?_)
 refine jB0 [0, 2] [1] (hput_fn g2 c2 _ (encS h 4) 8 [h.ad, h.en, h.co] (by rw [encS_four]; omega) (by simp) (by simp [hk.ad, hk.en, hk.co])) rfl rfl (by simp) rfl ?_
 rintro v H' ⟨g3, c3, rfl, rfl⟩
 refine jC0 (by simp only [List.filter_cons, List.filter_nil, Ent.wr, if_true, qS, pick, List.filterMap_cons]; first | done | rfl) ?_
 rw [he10]
 refine sA rfl rfl <| sN (hZ _ _ ?_)
 refine aF [(1, _), (5, _)] (kR rfl) ?_
 refine jA8 [.own g1 78 h.cells, rowH g3 c3 (enc2a h)] (HLe.pick [2, 1] (by simp) rfl) ?_
 have l2 := enc2a_length h
 refine aR fun Z hZ => sA rfl rfl <| sN (hZ _ _ ?_)
 refine aF [(1, _), (5, _), (8, _)] (kR rfl) ?_
 refine awp_cut (fun _ : Unit => [(1, ptr g1 0), (5, rowV g3 (enc2a h).length c3), (8, .int .u64 (clN h : Int))]) (fun _ => [.own g1 78 h.cells, rowH g3 c3 (enc2a h)]) (fun _ => True) ?_ (fun _ _ => ?_)
 ·refine aR (fun Z hZ => ?_)
  refine sFA rfl tyF78_7 (by simp only [Nat.zero_add]; rfl) rfl ?_
  first | refine sL 0 rfl rfl tyA4 tyS4 rfl rfl ?_
  refine sN (hZ _ _ ?_)
  refine aF [(1, _), (5, _), (8, _), (41, _)] (kR rfl) ?_
  refine aC rfl (fun h13 => ?_) (fun h13 => ?_)
  ·refine aG (fun Z hZ => ?_)
   refine sA rfl rfl <| sN (hZ _ _ ?_)
   refine nF [(1, _), (5, _), (8, _)] (kR rfl) ?_
   exact jG2 () trivial (Kn.cons rfl (Kn.cons rfl (Kn.cons (congrArg some (congrArg (Value.int .u64) (by simp [clN, h13]))) Kn.nil))) (HLe.refl _)
  ·refine aK ?_
   exact jG2 () trivial (Kn.cons rfl (Kn.cons rfl (Kn.cons (congrArg some (congrArg (Value.int .u64) (by simp [clN, h13]))) Kn.nil))) (HLe.refl _)
 have hcl : clN h < 18446744073709551616 := by unfold clN; split <;> omega
 have he14 : putsL (enc2a h) 1 [clN h, h.ic, h.oc, h.ki, h.z0.toNat, h.z1.toNat] = enc3 h := by simp [putsL, put1, enc3, enc2, enc2a]
 refine aR fun Z hZ => sM rfl rfl <| sM rfl rfl ?_
 refine sFA rfl tyF78_8 (by simp only [Nat.zero_add]; rfl) rfl ?_
 first | refine sL 0 rfl rfl tyA5 tyS5 rfl rfl ?_
 refine jC2 Tryz.underlying5 Tryz.underlying45 rfl (h.ic : Int) (wrap_nat (by have := hk.ic; omega)) rfl ?_
 refine sFA rfl tyF78_9 (by simp only [Nat.zero_add]; rfl) rfl ?_
 first | refine sL 0 rfl rfl tyA5 tyS5 rfl rfl ?_
 refine jC2 Tryz.underlying5 Tryz.underlying45 rfl (h.oc : Int) (wrap_nat (by have := hk.oc; omega)) rfl ?_
 refine sFA rfl tyF78_10 (by simp only [Nat.zero_add]; rfl) rfl ?_
 first | refine sL 0 rfl rfl tyA5 tyS5 rfl rfl ?_
 refine jC2 Tryz.underlying5 Tryz.underlying45 rfl (h.ki : Int) (wrap_nat (by have := hk.ki; omega)) rfl ?_
 refine sFA rfl tyF78_11 (by simp only [Nat.zero_add]; rfl) rfl ?_
 first | refine sL 0 rfl rfl tyA3 tyS3 rfl rfl ?_
 refine jC2 Tryz.underlying3 Tryz.underlying45 rfl (h.z0.toNat : Int) (wrap_toNat (by omega)) rfl ?_
 refine sFA rfl tyF78_12 (by simp only [Nat.zero_add]; rfl) rfl ?_
 first | refine sL 0 rfl rfl tyA3 tyS3 rfl rfl ?_
 refine jC2 Tryz.underlying3 Tryz.underlying45 rfl (h.z1.toNat : Int) (wrap_toNat (by omega)) rfl ?_
 refine sBS Tryz.underlying135 tyS45 tyZ45 rfl rfl rfl rfl (by simp only [qS, Nat.reduceAdd, Value.cells, wrV, jG9, List.replicate_succ, List.replicate_zero, Nat.reduceMul, Nat.zero_mul]; rfl) rfl (fun g7 => ?_)
 refine jB0 [0, 2] [1] (hput_fn g3 c3 _ (enc2a h) 1 [clN h, h.ic, h.oc, h.ki, h.z0.toNat, h.z1.toNat] (by omega) (by simp) (by simp; omega)) rfl rfl (by simp) rfl ?_
 rintro v H' ⟨g4, c4, rfl, rfl⟩
 refine jC0 (by simp only [List.filter_cons, List.filter_nil, Ent.wr, if_true, qS, pick, List.filterMap_cons]; first | done | rfl) ?_
 rw [he14]
 refine sA rfl rfl <| sN (hZ _ _ ?_)
 refine aF [(1, _), (5, _)] (kR rfl) ?_
 refine jA8 [.own g1 78 h.cells, rowH g4 c4 (enc3 h)] (HLe.pick [2, 1] (by simp) rfl) ?_
 have l3 := enc3_length h
 have he15 : degsL (enc3 h) [h.lo0, h.la0, h.lo1, h.la1] = enc4 h := by simp [degsL, enc4]
 refine aR fun Z hZ => sM rfl rfl ?_
 refine sFA rfl tyF78_13 (by simp only [Nat.zero_add]; rfl) rfl ?_
 first | refine sL 0 rfl rfl tyA3 tyS3 rfl rfl ?_
 refine sFA rfl tyF78_14 (by simp only [Nat.zero_add]; rfl) rfl ?_
 first | refine sL 0 rfl rfl tyA3 tyS3 rfl rfl ?_
 refine sFA rfl tyF78_15 (by simp only [Nat.zero_add]; rfl) rfl ?_
 first | refine sL 0 rfl rfl tyA3 tyS3 rfl rfl ?_
 refine sFA rfl tyF78_16 (by simp only [Nat.zero_add]; rfl) rfl ?_
 first | refine sL 0 rfl rfl tyA3 tyS3 rfl rfl ?_
 refine sBS Tryz.underlying247 tyS3 tyZ3 rfl rfl rfl rfl (by simp only [qS, Nat.reduceAdd, Value.cells, wrV, jG9, List.replicate_succ, List.replicate_zero, Nat.reduceMul, Nat.zero_mul]; rfl) rfl (fun g8 => ?_)
 refine jB0 [0, 2] [1] (hdegrees_fn g4 c4 _ (enc3 h) [h.lo0, h.la0, h.lo1, h.la1] (by omega) (by simp) (by simp; omega)) rfl rfl (by simp) rfl ?_
 rintro v H' ⟨g6, c6, rfl, rfl⟩
 refine jC0 (by simp only [List.filter_cons, List.filter_nil, Ent.wr, if_true, qS, pick, List.filterMap_cons]; first | done | rfl) ?_
 rw [he15]
 refine sA rfl rfl <| sN (hZ _ _ ?_)
 refine aF [(1, _), (5, _)] (kR rfl) ?_
 refine jA8 [.own g1 78 h.cells, rowH g6 c6 (enc4 h)] (HLe.pick [2, 1] (by simp) rfl) ?_
 have l4 := enc4_length h
 have he16 : putsL (enc4 h) 1 [h.zo.toNat] = enc4 h ++ leB 1 h.zo.toNat := by simp [putsL, put1]
 refine aR fun Z hZ => sM rfl rfl ?_
 refine sFA rfl tyF78_17 (by simp only [Nat.zero_add]; rfl) rfl ?_
 first | refine sL 0 rfl rfl tyA3 tyS3 rfl rfl ?_
 refine jC2 Tryz.underlying3 Tryz.underlying45 rfl (h.zo.toNat : Int) (wrap_toNat (by omega)) rfl ?_
 refine sBS Tryz.underlying135 tyS45 tyZ45 rfl rfl rfl rfl (by simp only [qS, Value.cells, wrV, jG9, List.replicate_succ, List.replicate_zero, Nat.reduceMul, Nat.zero_mul]; rfl) rfl (fun g9 => ?_)
 refine jB0 [0, 2] [1] (hput_fn g6 c6 _ (enc4 h) 1 [h.zo.toNat] (by omega) (by simp) (by simp; omega)) rfl rfl (by simp) rfl ?_
 rintro v H' ⟨g7, c7, rfl, rfl⟩
 refine jC0 (by simp only [List.filter_cons, List.filter_nil, Ent.wr, if_true, qS, pick, List.filterMap_cons]; first | done | rfl) ?_
 rw [he16]
 refine sA rfl rfl <| sN (hZ _ _ ?_)
 refine aF [(1, _), (5, _)] (kR rfl) ?_
 refine jA8 [.own g1 78 h.cells, rowH g7 c7 (enc4 h ++ leB 1 h.zo.toNat)] (HLe.pick [2, 1] (by simp) rfl) ?_
 have l5 : (enc4 h ++ leB 1 h.zo.toNat).length = 119 := by simp [l4, jG7]
 have he17 : degsL (enc4 h ++ leB 1 h.zo.toNat) [h.lon, h.lat] = enc5 h := by simp [degsL, enc5]
 refine aR fun Z hZ => sM rfl rfl ?_
 refine sFA rfl tyF78_18 (by simp only [Nat.zero_add]; rfl) rfl ?_
 first | refine sL 0 rfl rfl tyA3 tyS3 rfl rfl ?_
 refine sFA rfl tyF78_19 (by simp only [Nat.zero_add]; rfl) rfl ?_
 first | refine sL 0 rfl rfl tyA3 tyS3 rfl rfl ?_
 refine sBS Tryz.underlying247 tyS3 tyZ3 rfl rfl rfl rfl (by simp only [qS, Nat.reduceAdd, Value.cells, wrV, jG9, List.replicate_succ, List.replicate_zero, Nat.reduceMul, Nat.zero_mul]; rfl) rfl (fun g10 => ?_)
 refine jB0 [0, 2] [1] (hdegrees_fn g7 c7 _ (enc4 h ++ leB 1 h.zo.toNat) [h.lon, h.lat] (by omega) (by simp) (by simp; omega)) rfl rfl (by simp) rfl ?_
 rintro v H' ⟨g8, c8, rfl, rfl⟩
 refine jC0 (by simp only [List.filter_cons, List.filter_nil, Ent.wr, if_true, qS, pick, List.filterMap_cons]; first | done | rfl) ?_
 rw [he17]
 refine sx_strB Tryz.underlying132 Tryz.underlying5 Tryz.underlying9 rfl (fun w hw => rd_row (i := 1) rfl hw) rfl ?_
 refine sA rfl rfl <| sA rfl rfl <| sN (hZ _ _ ?_)
 refine aF [(2, _), (3, _)] (kR rfl) ?_
 refine aE ?_
 exact jF9 rfl rfl rfl (by simp [encV, hc0])
end Go.Proofs.YtkojkeabelckjaaGreatDoor.Y
namespace Go.Proofs.YtkojkeabelckjaaGreatDoor.Y
open Go.RowKit
def atL (l : List UInt8) (i n : Nat) : Nat := numL ((l.drop i).take n)
theorem atL_lt (l : List UInt8) (i n : Nat) (hn : n ≤ 8) : atL l i n < 18446744073709551616 := by
 have h1 := numL_lt ((l.drop i).take n)
 have h2 := pow_le8 (n := ((l.drop i).take n).length) (by simp; omega)
 unfold atL
 omega
theorem hasPrefix0_fn (l p : List UInt8) : Fn Tryz.prog 184 [.string (str l), .string (str p)] [] fun v _ => v = .bool (decide (p.length ≤ l.length) && (l.take p.length == p)) := by
 refine Fn.enter (N := 18) Tryz.func184 rfl (by kernel_rfl) rfl (fun w0 => ?_)
 refine aR fun Z hZ => sA rfl rfl <| sN (hZ _ _ ?_)
 refine aF [(0, _), (1, _)] (kR rfl) ?_
 refine jA7 [(4, .bool (decide (p.length ≤ l.length) && (l.take p.length == p)))] [] (fun Z hZ => ?_) ?_
 ·refine sM rfl rfl ?_
  refine jF0 Tryz.underlying9 rfl rfl ?_
  refine sM rfl rfl ?_
  refine jF0 Tryz.underlying9 rfl rfl ?_
  refine sx_geq rfl rfl rfl ?_
  refine sM rfl rfl ?_
  refine jG0 10 rfl (fun hb5 => ?_) (fun hb5 => ?_)
  ·refine sOn rfl rfl rfl ?_
   refine sM rfl rfl ?_
   refine sOn rfl rfl rfl ?_
   refine sM rfl rfl ?_
   refine sOn rfl rfl rfl ?_
   refine jF0 Tryz.underlying9 rfl rfl ?_
   refine sOn rfl rfl rfl ?_
   refine sx_sliceS (l.take p.length) Tryz.underlying9 rfl rfl rfl (by omega) (by omega) (by simp at hb5; omega) (by simp) rfl ?_
   refine sOn rfl rfl rfl ?_
   refine sM rfl rfl ?_
   refine sOn rfl rfl rfl ?_
   refine sx_seql rfl rfl rfl ?_
   refine sP rfl rfl rfl <| sA rfl rfl ?_
   refine sN (hZ _ _ ?_ ?_)
   ·exact Kn.cons (congrArg some (congrArg Value.bool (by simp at hb5; first | (simp [hb5]; done) | (simp; intro; omega)))) Kn.nil
   ·exact HLe.refl _
  ·refine sO rfl rfl rfl rfl rfl ?_
   refine sO rfl rfl rfl rfl rfl ?_
   refine sO rfl rfl rfl rfl rfl ?_
   refine sO rfl rfl rfl rfl rfl ?_
   refine sO rfl rfl rfl rfl rfl ?_
   refine sO rfl rfl rfl rfl rfl ?_
   refine sP rfl rfl rfl <| sA rfl rfl ?_
   refine sN (hZ _ _ ?_ ?_)
   ·exact Kn.cons (congrArg some (congrArg Value.bool (by simp at hb5; first | (simp []; done) | (simp; intro; omega)))) Kn.nil
   ·exact HLe.refl _
 refine aE ?_
 exact nR1 rfl rfl rfl
theorem hasPrefix_fn (l p : List UInt8) : Fn Tryz.prog 152 [.string (str l), .string (str p)] [] fun v _ => v = .bool (decide (p.length ≤ l.length) && (l.take p.length == p)) := by
 refine Fn.enter (N := 8) Tryz.func152 rfl (by kernel_rfl) rfl (fun w0 => ?_)
 refine aR fun Z hZ => sA rfl rfl <| sN (hZ _ _ ?_)
 refine aF [(0, _), (1, _)] (kR rfl) ?_
 refine aR fun Z hZ => sM rfl rfl <| sM rfl rfl ?_
 refine sCP (hasPrefix0_fn l p) rfl rfl ?_
 refine sA rfl rfl <| sN (hZ _ _ ?_)
 refine aF [(4, _)] (Kn.cons rfl (Kn.nil)) ?_
 refine aE ?_
 exact nR1 rfl rfl rfl
theorem enter_num : Enters Tryz.prog 185 := Enters.mk Tryz.func185 (by kernel_rfl) (by kernel_rfl)
abbrev scanC (l : List UInt8) (p : Nat) : List Value := [.string (str l), .int .i64 (p : Int), .int .i64 0]
theorem snum_fn (l : List UInt8) (p n : Nat) (hn : 1 ≤ n ∧ n ≤ 8) (hp : p + n ≤ l.length) (hl : l.length ≤ 9223372036854775807) :
  Fn Tryz.prog 185 [.agg (scanC l p).toArray, .int .i64 (n : Int)] [] fun v _ => v = .tuple #[uq (atL l p n), .agg (scanC l (p + n)).toArray] := by
 refine Fn.of_bel enter_num fun w => ?_
 have h := num_any (str l) (p : Int) 0 (n : Int) w (by rw [str_size]; unfold maxLen; omega)
 have hf : fitsB (n : Int) = true := by simp [fitsB]; omega
 have hst : stands (str l) (p : Int) = true := by simp [stands, str_size]; omega
 have hE : takeE (str l) (p : Int) 0 (n : Int) true = 0 := by
  unfold takeE
  rw [if_neg (by simp), if_neg (by simp [hst]), if_neg (by rw [str_size]; omega)]
 rw [hf] at h
 have hT : takeT (str l) (p : Int) 0 (n : Int) true = str ((l.drop p).take n) := by
  unfold takeT
  rw [if_pos hE, show ((p : Int)).toNat = p by omega, show ((p : Int) + (n : Int)).toNat = p + n by omega, str_cut]
  congr 2
  omega
 have hP : takeP (str l) (p : Int) 0 (n : Int) true = ((p + n : Nat) : Int) := by unfold takeP; rw [if_pos hE]; omega
 rw [hT, hP, hE, str_data] at h
 exact h
abbrev takeC (g : Nat) (l : List UInt8) (p : Nat) : Ent := .own g 259 (scanC l p)
theorem tnum_fn (g : Nat) (l : List UInt8) (p n : Nat) (hn : 1 ≤ n ∧ n ≤ 8) (hp : p + n ≤ l.length) (hl : l.length ≤ 9223372036854775807) :
  Fn Tryz.prog 154 [ptr g 0, .int .i64 (n : Int)] [takeC g l p] fun v H' => v = uq (atL l p n) ∧ H' = [takeC g l (p + n)] := by
 refine Fn.enter (N := 19) Tryz.func154 rfl (by kernel_rfl) rfl (fun w0 => ?_)
 refine aR fun Z hZ => sA rfl rfl <| sN (hZ _ _ ?_)
 refine aF [(0, _), (1, _)] (kR rfl) ?_
 refine aR fun Z hZ => sA rfl rfl <| sN (hZ _ _ ?_)
 refine aF [(0, _), (1, _)] (kR rfl) ?_
 refine aR fun Z hZ => sM rfl rfl <| sM rfl rfl ?_
 refine jA5 rfl rfl ?_
 refine sFA rfl tyF259_0 (by simp only [Nat.add_zero]; rfl) rfl ?_
 first | refine sLA 0 rfl rfl tyA220 tyS220 rfl (by simp only [qS]; rfl) rfl ?_
 refine sM rfl rfl ?_
 refine sCP (snum_fn l p n hn hp hl) rfl rfl ?_
 refine sM rfl rfl <| sX rfl rfl rfl <| sX rfl rfl rfl <| sA rfl rfl ?_
 refine jA5 rfl rfl ?_
 refine sFA rfl tyF259_0 (by simp only [Nat.add_zero]; rfl) rfl ?_
 first | refine sS 0 rfl rfl rfl tyS220 (by simp only [Value.cells]; rfl) rfl rfl rfl (by simp only [qS, Nat.reduceAdd, wrV]; rfl) (by simp only [List.set_cons_zero]; rfl) ?_
 refine sN (hZ _ _ ?_)
 refine aF [(5, _)] (Kn.cons rfl (Kn.nil)) ?_
 refine aR fun Z hZ => sM rfl rfl <| sA rfl rfl <| sN (hZ _ _ ?_)
 refine aF [(4, _)] (Kn.cons rfl (Kn.nil)) ?_
 refine aE ?_
 exact nR1 rfl rfl ⟨rfl, rfl⟩
theorem tsection_fn (g : Nat) (l : List UInt8) (p : Nat) (hp : p + 16 ≤ l.length) (hl : l.length ≤ 9223372036854775807) :
  Fn Tryz.prog 153 [ptr g 0] [takeC g l p] fun v H' => v = .agg #[uq (atL l p 8), uq (atL l (p + 8) 8)] ∧ H' = [takeC g l (p + 16)] := by
 refine Fn.enter (N := 10) Tryz.func153 rfl (by kernel_rfl) rfl (fun w0 => ?_)
 refine aR (fun Z hZ => ?_)
 refine sAl tyZ76 rfl (fun g1 => ?_)
 refine sN (hZ _ _ ?_)
 refine aF [(0, _), (2, _)] (kR rfl) ?_
 refine aR fun Z hZ => sM rfl rfl ?_
 refine jB0 [1] [0] (tnum_fn g l p 8 (by omega) (by omega) hl) rfl rfl (by simp) rfl ?_
 rintro v H' ⟨rfl, rfl⟩
 refine jC0 (by simp only [List.filter_cons, List.filter_nil, Ent.wr, if_true, qS, pick, List.filterMap_cons]; first | done | rfl) ?_
 refine sA rfl rfl <| sN (hZ _ _ ?_)
 refine aF [(0, _), (2, _), (3, _)] (kR rfl) ?_
 refine aR fun Z hZ => sM rfl rfl <| sM rfl rfl ?_
 refine jB0 [0] [1] (tnum_fn g l (p + 8) 8 (by omega) (by omega) hl) rfl rfl (by simp) rfl ?_
 rintro v H' ⟨rfl, rfl⟩
 refine jC0 (by simp only [List.filter_cons, List.filter_nil, Ent.wr, if_true, qS, pick, List.filterMap_cons]; first | done | rfl) ?_
 refine jD1 tyZ76 tyP76 rfl rfl (by simp only [qS, Nat.reduceAdd, Value.cells, wrV]; rfl) rfl ?_
 refine sS 1 rfl rfl rfl tyS76 (by simp only [Value.cells]; rfl) rfl rfl rfl (by simp only [qS, Nat.reduceAdd, wrV]; rfl) (by simp only [qS]; rfl) ?_
 refine sN (hZ _ _ ?_)
 refine aE ?_
 exact jD4 [takeC g l (p + 16)] rfl (ResOk.cell 1 rfl rfl tyA76 tyS76 rfl) (HLe.pick [0] (by simp) rfl) ⟨rfl, rfl⟩
theorem enter_sgn : Enters Tryz.prog 186 := Enters.mk Tryz.func186 (by kernel_rfl) (by kernel_rfl)
theorem sgn_fn (x n : Int) (hx : 0 ≤ x ∧ x < 18446744073709551616) : Fn Tryz.prog 186 [.int .u64 x, .int .i64 n] [] fun u _ => u = .tuple #[.int .i64 (sgnV x n), .int .i64 (sgnE n)] :=
 Fn.of_same enter_sgn fun w => signed_any x n w hx
def dgL (l : List UInt8) (i : Nat) : Int := sgnV (atL l i 4) 4
theorem tdegree_fn (g : Nat) (l : List UInt8) (p : Nat) (hp : p + 4 ≤ l.length) (hl : l.length ≤ 9223372036854775807) :
  Fn Tryz.prog 155 [ptr g 0] [takeC g l p] fun v H' => v = iq (dgL l p) ∧ H' = [takeC g l (p + 4)] := by
 have hb := atL_lt l p 4 (by omega)
 refine Fn.enter (N := 12) Tryz.func155 rfl (by kernel_rfl) rfl (fun w0 => ?_)
 refine aR fun Z hZ => sA rfl rfl <| sN (hZ _ _ ?_)
 refine aF [(0, _)] (Kn.cons rfl (Kn.nil)) ?_
 refine aR fun Z hZ => sM rfl rfl ?_
 refine jB0 [0] [] (tnum_fn g l p 4 (by omega) (by omega) hl) rfl rfl (by simp) rfl ?_
 rintro v H' ⟨rfl, rfl⟩
 refine jC0 (by simp only [List.filter_cons, List.filter_nil, Ent.wr, if_true, qS, pick]; first | done | rfl) ?_
 refine sCP (sgn_fn (atL l p 4) 4 (by omega)) rfl rfl ?_
 refine sM rfl rfl <| sX rfl rfl rfl <| sX rfl rfl rfl <| sA rfl rfl <| sA rfl rfl <| sN (hZ _ _ ?_)
 refine aF [(3, _)] (Kn.cons rfl (Kn.nil)) ?_
 refine aR fun Z hZ => sM rfl rfl <| sA rfl rfl <| sN (hZ _ _ ?_)
 refine aF [(2, _)] (Kn.cons rfl (Kn.nil)) ?_
 refine aE ?_
 exact nR1 rfl rfl ⟨rfl, rfl⟩
end Go.Proofs.YtkojkeabelckjaaGreatDoor.Y
namespace Go.Proofs.YtkojkeabelckjaaGreatDoor.Y
open Go.RowKit
def zeroH : Hdr := ⟨0, 0, 0, 0, 0, 0, 0, 0, 0, 0, 0, false, 0, 0, 0, 0, 0, 0, 0, 0, 0, 0, 0, 0⟩
def magic7 : List UInt8 := [80, 77, 84, 105, 108, 101, 115]
def decH (l : List UInt8) : Hdr :=
  ⟨atL l 8 8, atL l 16 8, atL l 24 8, atL l 32 8, atL l 40 8, atL l 48 8, atL l 56 8, atL l 64 8, atL l 72 8, atL l 80 8, atL l 88 8, decide (atL l 96 1 = 1),
   atL l 97 1, atL l 98 1, atL l 99 1, atL l 100 1, atL l 101 1, dgL l 102, dgL l 106, dgL l 110, dgL l 114, atL l 118 1, dgL l 119, dgL l 123⟩
def decE (l : List UInt8) : Int :=
 if l.length < 127 then 3 else if l.take 7 ≠ magic7 then 12 else if l[7]? ≠ some 3 then 13 else if 1 < atL l 96 1 then 4 else jG3 (decH l)
def decV (l : List UInt8) : Hdr := if decE l = 0 then decH l else zeroH
theorem atL_byte (l : List UInt8) (i : Nat) : atL l i 1 < 256 := by
 have h1 := numL_lt ((l.drop i).take 1)
 unfold atL
 have h2 : ((l.drop i).take 1).length ≤ 1 := by simp; omega
 have : 256 ^ ((l.drop i).take 1).length ≤ 256 ^ 1 := Nat.pow_le_pow_right (by omega) h2
 omega
set_option maxHeartbeats 1000000 in
theorem hdecode_fn (l : List UInt8) (hl : l.length ≤ 9223372036854775807) : Fn Tryz.prog 111 [.string (str l)] [] fun v _ => v = .tuple #[(decV l).val, .int .i64 (decE l)] := by
 have hz : ∀ e : Int, decE l = e → e ≠ 0 → (Value.tuple #[zeroH.val, .int .i64 e] : Value) = .tuple #[(decV l).val, .int .i64 (decE l)] := fun e he h0 => by
  have : decV l = zeroH := by unfold decV; rw [if_neg (by omega)]
  rw [this, he]
 refine Fn.enter (N := 105) Tryz.func111 rfl (by kernel_rfl) rfl (fun w0 => ?_)
 refine aR (fun Z hZ => ?_)
 refine sAl tyZ78 rfl (fun g1 => ?_)
 refine sA rfl rfl <| sN (hZ _ _ ?_)
 refine aF [(0, _), (2, _)] (kR rfl) ?_
 refine aS (aB ?_)
 refine aR fun Z hZ => sM rfl rfl ?_
 refine jF0 Tryz.underlying9 rfl rfl ?_
 refine jC4 rfl rfl rfl ?_
 refine sA rfl rfl <| sN (hZ _ _ ?_)
 refine aF [(0, _), (2, _), (8, _)] (kR rfl) ?_
 refine aC rfl (fun h11 => ?_) (fun h11 => ?_)
 ·refine aR (fun Z hZ => ?_)
  refine jD1 tyZ78 tyP78 rfl rfl rfl rfl ?_
  first | refine sS 0 rfl rfl rfl tyS78 (by simp only [Value.cells]; rfl) rfl rfl rfl (by simp only [qS, Nat.reduceAdd, wrV]; rfl) (by simp only [List.set_cons_zero]; rfl) ?_
  refine sA rfl rfl <| sN (hZ _ _ ?_)
  refine aE ?_
  repeat (with_reducible (first | refine nTR ?_ | refine nBR ?_))
  exact jF9 rfl (ResOk.cell 0 rfl rfl tyA78 tyS78 rfl) rfl (hz 3 (by simp at h11; unfold decE; rw [if_pos (by omega)]) (by omega))
 have h127 : 127 ≤ l.length := by simp at h11; omega
 refine aR fun Z hZ => sM rfl rfl ?_
 refine sCP (hasPrefix_fn l magic7) rfl rfl ?_
 refine sx_not rfl rfl ?_
 refine sA rfl rfl <| sN (hZ _ _ ?_)
 refine aF [(0, _), (2, _), (13, _)] (kR rfl) ?_
 refine aC rfl (fun h16 => ?_) (fun h16 => ?_)
 ·refine aR (fun Z hZ => ?_)
  refine jD1 tyZ78 tyP78 rfl rfl rfl rfl ?_
  first | refine sS 0 rfl rfl rfl tyS78 (by simp only [Value.cells]; rfl) rfl rfl rfl (by simp only [qS, Nat.reduceAdd, wrV]; rfl) (by simp only [List.set_cons_zero]; rfl) ?_
  refine sA rfl rfl <| sN (hZ _ _ ?_)
  refine aE ?_
  repeat (with_reducible (first | refine nTR ?_ | refine nBR ?_))
  exact jF9 rfl (ResOk.cell 0 rfl rfl tyA78 tyS78 rfl) rfl (hz 12 (by
   have h7 : l.take 7 ≠ magic7 := by intro e; simp [magic7] at h16 e; rcases h16 with h16 | h16; omega; exact h16 e
   unfold decE; rw [if_neg (by omega), if_pos h7]) (by omega))
 have h7 : l.take 7 = magic7 := by simp [magic7] at h16 ⊢; exact h16.2
 obtain ⟨c7, hc7⟩ : ∃ c, l[7]? = some c := ⟨l[7]'(by omega), by simp [show 7 < l.length by omega]⟩
 refine aR fun Z hZ => sM rfl rfl ?_
 refine sx_indexS Tryz.underlying9 rfl rfl (by omega) hc7 rfl ?_
 refine jE5 rfl rfl rfl ?_
 refine sA rfl rfl <| sN (hZ _ _ ?_)
 refine aF [(0, _), (2, _), (18, _)] (kR rfl) ?_
 refine aC rfl (fun h20 => ?_) (fun h20 => ?_)
 ·refine aR (fun Z hZ => ?_)
  refine jD1 tyZ78 tyP78 rfl rfl rfl rfl ?_
  first | refine sS 0 rfl rfl rfl tyS78 (by simp only [Value.cells]; rfl) rfl rfl rfl (by simp only [qS, Nat.reduceAdd, wrV]; rfl) (by simp only [List.set_cons_zero]; rfl) ?_
  refine sA rfl rfl <| sN (hZ _ _ ?_)
  refine aE ?_
  repeat (with_reducible (first | refine nTR ?_ | refine nBR ?_))
  exact jF9 rfl (ResOk.cell 0 rfl rfl tyA78 tyS78 rfl) rfl (hz 13 (by
   have h3 : l[7]? ≠ some 3 := by rw [hc7]; intro e; obtain rfl := Option.some.inj e; simp at h20
   unfold decE; rw [if_neg (by omega), if_neg (by simp [h7]), if_pos h3]) (by omega))
 have h3 : l[7]? = some 3 := by
  rw [hc7]
  have : (c7.toNat : Int) = 3 := by simpa using h20
  exact congrArg some (UInt8.toNat_inj.1 (by simp; omega))
 refine aK ?_
 repeat (with_reducible refine nBN ?_)
 with_reducible refine nN ?_
 refine aR fun Z hZ => sM rfl rfl ?_
 refine jD1 tyZ220 tyP220 rfl rfl (by simp only [qS, Nat.reduceAdd, Value.cells, wrV]; rfl) rfl ?_
 refine jD1 tyZ259 tyP259 rfl rfl (by simp only [qS, Nat.reduceAdd, Value.cells, wrV]; rfl) rfl ?_
 refine jC3 rfl rfl rfl (fun g2 => ?_)
 refine sA rfl rfl <| sN (hZ _ _ ?_)
 refine aF [(2, _), (4, _)] (kR rfl) ?_
 refine aR (fun Z hZ => ?_)
 refine sAl tyZ78 rfl (fun g3 => ?_)
 refine sN (hZ _ _ ?_)
 refine aF [(2, _), (4, _), (5, _)] (kR rfl) ?_
 refine jA8 [takeC _ l 8, .own _ 78 zeroH.cells, .own _ 78 zeroH.cells] (HLe.pick [1, 0, 2] (by simp) rfl) ?_
 refine aR fun Z hZ => sM rfl rfl ?_
 refine jB0 [0] [1, 2] (tsection_fn _ l 8 (by omega) hl) rfl rfl (by simp) rfl ?_
 rintro v H' ⟨rfl, rfl⟩
 refine jC0 (by simp only [List.filter_cons, List.filter_nil, Ent.wr, if_true, qS, pick, List.filterMap_cons]; first | done | rfl) ?_
 refine sM rfl rfl ?_
 refine jB0 [0] [1, 2] (tsection_fn _ l 24 (by omega) hl) rfl rfl (by simp) rfl ?_
 rintro v H' ⟨rfl, rfl⟩
 refine jC0 (by simp only [List.filter_cons, List.filter_nil, Ent.wr, if_true, qS, pick, List.filterMap_cons]; first | done | rfl) ?_
 refine sM rfl rfl ?_
 refine jB0 [0] [1, 2] (tsection_fn _ l 40 (by omega) hl) rfl rfl (by simp) rfl ?_
 rintro v H' ⟨rfl, rfl⟩
 refine jC0 (by simp only [List.filter_cons, List.filter_nil, Ent.wr, if_true, qS, pick, List.filterMap_cons]; first | done | rfl) ?_
 refine sM rfl rfl ?_
 refine jB0 [0] [1, 2] (tsection_fn _ l 56 (by omega) hl) rfl rfl (by simp) rfl ?_
 rintro v H' ⟨rfl, rfl⟩
 refine jC0 (by simp only [List.filter_cons, List.filter_nil, Ent.wr, if_true, qS, pick, List.filterMap_cons]; first | done | rfl) ?_
 refine sFA rfl tyF78_0 (by simp only [Nat.add_zero]; rfl) rfl ?_
 refine sS 1 rfl rfl rfl tyS76 (by simp only [Value.cells]; rfl) rfl rfl rfl (by simp only [qS, Nat.reduceAdd, wrV]; rfl) (by simp only [qS]; rfl) ?_
 refine sFA rfl tyF78_1 (by simp only [Nat.zero_add]; rfl) rfl ?_
 refine sS 1 rfl rfl rfl tyS76 (by simp only [Value.cells]; rfl) rfl rfl rfl (by simp only [qS, Nat.reduceAdd, wrV]; rfl) (by simp only [qS]; rfl) ?_
 refine sFA rfl tyF78_2 (by simp only [Nat.zero_add]; rfl) rfl ?_
 refine sS 1 rfl rfl rfl tyS76 (by simp only [Value.cells]; rfl) rfl rfl rfl (by simp only [qS, Nat.reduceAdd, wrV]; rfl) (by simp only [qS]; rfl) ?_
 refine sFA rfl tyF78_3 (by simp only [Nat.zero_add]; rfl) rfl ?_
 refine sS 1 rfl rfl rfl tyS76 (by simp only [Value.cells]; rfl) rfl rfl rfl (by simp only [qS, Nat.reduceAdd, wrV]; rfl) (by simp only [qS]; rfl) ?_
 refine sN (hZ _ _ ?_)
 refine aF [(2, _), (4, _), (5, _)] (kR rfl) ?_
 refine aR fun Z hZ => sM rfl rfl ?_
 refine jB0 [0] [1, 2] (tnum_fn _ l 72 8 (by omega) (by omega) hl) rfl rfl (by simp) rfl ?_
 rintro v H' ⟨rfl, rfl⟩
 refine jC0 (by simp only [List.filter_cons, List.filter_nil, Ent.wr, if_true, qS, pick, List.filterMap_cons]; first | done | rfl) ?_
 refine sM rfl rfl ?_
 refine jB0 [0] [1, 2] (tnum_fn _ l 80 8 (by omega) (by omega) hl) rfl rfl (by simp) rfl ?_
 rintro v H' ⟨rfl, rfl⟩
 refine jC0 (by simp only [List.filter_cons, List.filter_nil, Ent.wr, if_true, qS, pick, List.filterMap_cons]; first | done | rfl) ?_
 refine sM rfl rfl ?_
 refine jB0 [0] [1, 2] (tnum_fn _ l 88 8 (by omega) (by omega) hl) rfl rfl (by simp) rfl ?_
 rintro v H' ⟨rfl, rfl⟩
 refine jC0 (by simp only [List.filter_cons, List.filter_nil, Ent.wr, if_true, qS, pick, List.filterMap_cons]; first | done | rfl) ?_
 refine sFA rfl tyF78_4 (by simp only [Nat.zero_add]; rfl) rfl ?_
 refine sS1 1 rfl rfl rfl tyS45 rfl rfl (by simp only [qS]; rfl) (by simp only [qS]; rfl) ?_
 refine sFA rfl tyF78_5 (by simp only [Nat.zero_add]; rfl) rfl ?_
 refine sS1 1 rfl rfl rfl tyS45 rfl rfl (by simp only [qS]; rfl) (by simp only [qS]; rfl) ?_
 refine sFA rfl tyF78_6 (by simp only [Nat.zero_add]; rfl) rfl ?_
 refine sS1 1 rfl rfl rfl tyS45 rfl rfl (by simp only [qS]; rfl) (by simp only [qS]; rfl) ?_
 refine sN (hZ _ _ ?_)
 refine aF [(2, _), (4, _), (5, _)] (kR rfl) ?_
 refine aR fun Z hZ => sM rfl rfl ?_
 refine jB0 [0] [1, 2] (tnum_fn _ l 96 1 (by omega) (by omega) hl) rfl rfl (by simp) rfl ?_
 rintro v H' ⟨rfl, rfl⟩
 refine jC0 (by simp only [List.filter_cons, List.filter_nil, Ent.wr, if_true, qS, pick, List.filterMap_cons]; first | done | rfl) ?_
 refine sA rfl rfl <| sN (hZ _ _ ?_)
 refine aF [(2, _), (4, _), (5, _), (6, _)] (kR rfl) ?_
 refine aS ?_
 refine aR fun Z hZ => sM rfl rfl ?_
 refine jF3 rfl rfl rfl ?_
 refine sN (hZ _ _ ?_)
 refine aF [(2, _), (4, _), (5, _), (6, _), (51, _)] (kR rfl) ?_
 refine aC rfl (fun h51 => ?_) (fun h51 => ?_)
 ·refine aR (fun Z hZ => ?_)
  refine jD1 tyZ78 tyP78 rfl rfl rfl rfl ?_
  refine sS 2 rfl rfl rfl tyS78 (by simp only [Value.cells]; rfl) rfl rfl rfl (by simp only [qS, Nat.reduceAdd, wrV]; rfl) (by simp only [qS]; rfl) ?_
  refine sA rfl rfl <| sN (hZ _ _ ?_)
  refine aE ?_
  repeat (with_reducible refine nTR ?_)
  exact jF9 rfl (ResOk.cell 2 rfl rfl tyA78 tyS78 rfl) rfl (hz 4 (by
   have : 1 < atL l 96 1 := by simp at h51; omega
   unfold decE; rw [if_neg (by omega), if_neg (by simp [h7]), if_neg (by simp [h3]), if_pos this]) (by omega))
 refine aK ?_
 with_reducible refine nN ?_
 have h96 : ¬ 1 < atL l 96 1 := by simp at h51; omega
 have hcl : ((atL l 96 1 : Int) == 1) = (decH l).cl := by rw [Bool.eq_iff_iff]; simp [decH]; omega
 have hu : ∀ i, IntKind.u8.wrap ((atL l i 1 : Nat) : Int) = ((atL l i 1 : Nat) : Int) := fun i => IntWalk.u8_in _ (by have := atL_byte l i; omega)
 have hi : ∀ i, IntKind.i64.wrap ((atL l i 1 : Nat) : Int) = ((atL l i 1 : Nat) : Int) := fun i => IntWalk.i64_in _ (by have := atL_byte l i; omega)
 refine aR fun Z hZ => sM rfl rfl ?_
 refine jC8 rfl rfl rfl ?_
 rw [hcl]
 refine sFA rfl tyF78_7 (by simp only [Nat.zero_add]; rfl) rfl ?_
 refine sS1 1 rfl rfl rfl tyS4 rfl rfl (by simp only [qS]; rfl) (by simp only [qS]; rfl) ?_
 refine sN (hZ _ _ ?_)
 refine aF [(2, _), (4, _), (5, _)] (kR rfl) ?_
 refine aR fun Z hZ => sM rfl rfl ?_
 refine jB0 [0] [1, 2] (tnum_fn _ l 97 1 (by omega) (by omega) hl) rfl rfl (by simp) rfl ?_
 rintro v H' ⟨rfl, rfl⟩
 refine jC0 (by simp only [List.filter_cons, List.filter_nil, Ent.wr, if_true, qS, pick, List.filterMap_cons]; first | done | rfl) ?_
 refine jC2 Tryz.underlying45 Tryz.underlying5 rfl _ (hu 97) rfl ?_
 refine sM rfl rfl ?_
 refine jB0 [0] [1, 2] (tnum_fn _ l 98 1 (by omega) (by omega) hl) rfl rfl (by simp) rfl ?_
 rintro v H' ⟨rfl, rfl⟩
 refine jC0 (by simp only [List.filter_cons, List.filter_nil, Ent.wr, if_true, qS, pick, List.filterMap_cons]; first | done | rfl) ?_
 refine jC2 Tryz.underlying45 Tryz.underlying5 rfl _ (hu 98) rfl ?_
 refine sM rfl rfl ?_
 refine jB0 [0] [1, 2] (tnum_fn _ l 99 1 (by omega) (by omega) hl) rfl rfl (by simp) rfl ?_
 rintro v H' ⟨rfl, rfl⟩
 refine jC0 (by simp only [List.filter_cons, List.filter_nil, Ent.wr, if_true, qS, pick, List.filterMap_cons]; first | done | rfl) ?_
 refine jC2 Tryz.underlying45 Tryz.underlying5 rfl _ (hu 99) rfl ?_
 refine sFA rfl tyF78_8 (by simp only [Nat.zero_add]; rfl) rfl ?_
 refine sS1 1 rfl rfl rfl tyS5 rfl rfl (by simp only [qS]; rfl) (by simp only [qS]; rfl) ?_
 refine sFA rfl tyF78_9 (by simp only [Nat.zero_add]; rfl) rfl ?_
 refine sS1 1 rfl rfl rfl tyS5 rfl rfl (by simp only [qS]; rfl) (by simp only [qS]; rfl) ?_
 refine sFA rfl tyF78_10 (by simp only [Nat.zero_add]; rfl) rfl ?_
 refine sS1 1 rfl rfl rfl tyS5 rfl rfl (by simp only [qS]; rfl) (by simp only [qS]; rfl) ?_
 refine sN (hZ _ _ ?_)
 refine aF [(2, _), (4, _), (5, _)] (kR rfl) ?_
 refine aR fun Z hZ => sM rfl rfl ?_
 refine jB0 [0] [1, 2] (tnum_fn _ l 100 1 (by omega) (by omega) hl) rfl rfl (by simp) rfl ?_
 rintro v H' ⟨rfl, rfl⟩
 refine jC0 (by simp only [List.filter_cons, List.filter_nil, Ent.wr, if_true, qS, pick, List.filterMap_cons]; first | done | rfl) ?_
 refine jC2 Tryz.underlying45 Tryz.underlying3 rfl _ (hi 100) rfl ?_
 refine sM rfl rfl ?_
 refine jB0 [0] [1, 2] (tnum_fn _ l 101 1 (by omega) (by omega) hl) rfl rfl (by simp) rfl ?_
 rintro v H' ⟨rfl, rfl⟩
 refine jC0 (by simp only [List.filter_cons, List.filter_nil, Ent.wr, if_true, qS, pick, List.filterMap_cons]; first | done | rfl) ?_
 refine jC2 Tryz.underlying45 Tryz.underlying3 rfl _ (hi 101) rfl ?_
 refine sFA rfl tyF78_11 (by simp only [Nat.zero_add]; rfl) rfl ?_
 refine sS1 1 rfl rfl rfl tyS3 rfl (by simp only [qS, Nat.reduceAdd]; rfl) (by simp only [qS]; rfl) (by simp only [qS]; rfl) ?_
 refine sFA rfl tyF78_12 (by simp only [Nat.zero_add]; rfl) rfl ?_
 refine sS1 1 rfl rfl rfl tyS3 rfl (by simp only [qS, Nat.reduceAdd]; rfl) (by simp only [qS]; rfl) (by simp only [qS]; rfl) ?_
 refine sN (hZ _ _ ?_)
 refine aF [(2, _), (4, _), (5, _)] (kR rfl) ?_
 refine aR fun Z hZ => sM rfl rfl ?_
 refine jB0 [0] [1, 2] (tdegree_fn _ l 102 (by omega) hl) rfl rfl (by simp) rfl ?_
 rintro v H' ⟨rfl, rfl⟩
 refine jC0 (by simp only [List.filter_cons, List.filter_nil, Ent.wr, if_true, qS, pick, List.filterMap_cons]; first | done | rfl) ?_
 refine sM rfl rfl ?_
 refine jB0 [0] [1, 2] (tdegree_fn _ l 106 (by omega) hl) rfl rfl (by simp) rfl ?_
 rintro v H' ⟨rfl, rfl⟩
 refine jC0 (by simp only [List.filter_cons, List.filter_nil, Ent.wr, if_true, qS, pick, List.filterMap_cons]; first | done | rfl) ?_
 refine sM rfl rfl ?_
 refine jB0 [0] [1, 2] (tdegree_fn _ l 110 (by omega) hl) rfl rfl (by simp) rfl ?_
 rintro v H' ⟨rfl, rfl⟩
 refine jC0 (by simp only [List.filter_cons, List.filter_nil, Ent.wr, if_true, qS, pick, List.filterMap_cons]; first | done | rfl) ?_
 refine sM rfl rfl ?_
 refine jB0 [0] [1, 2] (tdegree_fn _ l 114 (by omega) hl) rfl rfl (by simp) rfl ?_
 rintro v H' ⟨rfl, rfl⟩
 refine jC0 (by simp only [List.filter_cons, List.filter_nil, Ent.wr, if_true, qS, pick, List.filterMap_cons]; first | done | rfl) ?_
 refine sFA rfl tyF78_13 (by simp only [Nat.zero_add]; rfl) rfl ?_
 refine sS1 1 rfl rfl rfl tyS3 rfl (by simp only [qS, Nat.reduceAdd]; rfl) (by simp only [qS]; rfl) (by simp only [qS]; rfl) ?_
 refine sFA rfl tyF78_14 (by simp only [Nat.zero_add]; rfl) rfl ?_
 refine sS1 1 rfl rfl rfl tyS3 rfl (by simp only [qS, Nat.reduceAdd]; rfl) (by simp only [qS]; rfl) (by simp only [qS]; rfl) ?_
 refine sFA rfl tyF78_15 (by simp only [Nat.zero_add]; rfl) rfl ?_
 refine sS1 1 rfl rfl rfl tyS3 rfl (by simp only [qS, Nat.reduceAdd]; rfl) (by simp only [qS]; rfl) (by simp only [qS]; rfl) ?_
 refine sFA rfl tyF78_16 (by simp only [Nat.zero_add]; rfl) rfl ?_
 refine sS1 1 rfl rfl rfl tyS3 rfl (by simp only [qS, Nat.reduceAdd]; rfl) (by simp only [qS]; rfl) (by simp only [qS]; rfl) ?_
 refine sN (hZ _ _ ?_)
 refine aF [(2, _), (4, _), (5, _)] (kR rfl) ?_
 refine aR fun Z hZ => sM rfl rfl ?_
 refine jB0 [0] [1, 2] (tnum_fn _ l 118 1 (by omega) (by omega) hl) rfl rfl (by simp) rfl ?_
 rintro v H' ⟨rfl, rfl⟩
 refine jC0 (by simp only [List.filter_cons, List.filter_nil, Ent.wr, if_true, qS, pick, List.filterMap_cons]; first | done | rfl) ?_
 refine jC2 Tryz.underlying45 Tryz.underlying3 rfl _ (hi 118) rfl ?_
 refine sM rfl rfl ?_
 refine jB0 [0] [1, 2] (tdegree_fn _ l 119 (by omega) hl) rfl rfl (by simp) rfl ?_
 rintro v H' ⟨rfl, rfl⟩
 refine jC0 (by simp only [List.filter_cons, List.filter_nil, Ent.wr, if_true, qS, pick, List.filterMap_cons]; first | done | rfl) ?_
 refine sM rfl rfl ?_
 refine jB0 [0] [1, 2] (tdegree_fn _ l 123 (by omega) hl) rfl rfl (by simp) rfl ?_
 rintro v H' ⟨rfl, rfl⟩
 refine jC0 (by simp only [List.filter_cons, List.filter_nil, Ent.wr, if_true, qS, pick, List.filterMap_cons]; first | done | rfl) ?_
 refine sFA rfl tyF78_17 (by simp only [Nat.zero_add]; rfl) rfl ?_
 refine sS1 1 rfl rfl rfl tyS3 rfl (by simp only [qS, Nat.reduceAdd]; rfl) (by simp only [qS]; rfl) (by simp only [qS]; rfl) ?_
 refine sFA rfl tyF78_18 (by simp only [Nat.zero_add]; rfl) rfl ?_
 refine sS1 1 rfl rfl rfl tyS3 rfl (by simp only [qS, Nat.reduceAdd]; rfl) (by simp only [qS]; rfl) (by simp only [qS]; rfl) ?_
 refine sFA rfl tyF78_19 (by simp only [Nat.zero_add]; rfl) rfl ?_
 refine sS1 1 rfl rfl rfl tyS3 rfl (by simp only [qS, Nat.reduceAdd]; rfl) (by simp only [qS]; rfl) (by simp only [qS]; rfl) ?_
 refine sN (hZ _ _ ?_)
 refine aF [(2, _), (5, _)] (kR rfl) ?_
 refine jA8 [.own g3 78 (decH l).cells, .own g1 78 zeroH.cells] (HLe.pick [1, 2] (by simp) rfl) ?_
 refine aS ?_
 refine aR (fun Z hZ => ?_)
 refine sLA 0 rfl rfl tyA78 tyS78 (by simp only [qS, Nat.reduceAdd]; rfl) (by simp only [qS]; rfl) rfl ?_
 refine sCP (hcheck_fn (decH l)) rfl rfl ?_
 refine sA rfl rfl <| sN (hZ _ _ ?_)
 refine aF [(2, _), (5, _), (7, _)] (kR rfl) ?_
 refine aR fun Z hZ => sM rfl rfl ?_
 refine jE5 rfl rfl rfl ?_
 refine sN (hZ _ _ ?_)
 refine aF [(2, _), (5, _), (7, _), (101, _)] (kR rfl) ?_
 have hE : decE l = jG3 (decH l) := by unfold decE; rw [if_neg (by omega), if_neg (by simp [h7]), if_neg (by simp [h3]), if_neg h96]
 refine aC rfl (fun h101 => ?_) (fun h101 => ?_)
 ·refine aR (fun Z hZ => ?_)
  refine jD1 tyZ78 tyP78 rfl rfl rfl rfl ?_
  refine sM rfl rfl ?_
  refine sS 1 rfl rfl rfl tyS78 (by simp only [Value.cells]; rfl) rfl rfl (by simp only [qS, Nat.reduceAdd]; rfl) (by simp only [qS, Nat.reduceAdd, wrV]; rfl) (by simp only [qS]; rfl) ?_
  refine sA rfl rfl <| sN (hZ _ _ ?_)
  refine aE ?_
  repeat (with_reducible refine nTR ?_)
  have hne : ¬ jG3 (decH l) = 0 := by simpa using h101
  exact jF9 rfl (ResOk.cell 1 rfl rfl tyA78 tyS78 rfl) rfl (hz _ hE hne)
 refine aK ?_
 with_reducible refine nN ?_
 have hc0 : jG3 (decH l) = 0 := by simpa using h101
 refine aR (fun Z hZ => ?_)
 refine sLA 0 rfl rfl tyA78 tyS78 (by simp only [qS, Nat.reduceAdd]; rfl) (by simp only [qS]; rfl) rfl ?_
 refine sS 1 rfl rfl rfl tyS78 (by simp only [Value.cells]; rfl) rfl rfl (by simp only [qS, Nat.reduceAdd]; rfl) (by simp only [qS, Nat.reduceAdd, wrV]; rfl) (by simp only [qS]; rfl) ?_
 refine sA rfl rfl <| sN (hZ _ _ ?_)
 refine aE ?_
 refine jF9 rfl (ResOk.cell 1 rfl rfl tyA78 tyS78 rfl) rfl ?_
 have : decV l = decH l := by unfold decV; rw [hE, if_pos hc0]
 rw [this, hE, hc0]
 rfl
end Go.Proofs.YtkojkeabelckjaaGreatDoor.Y
namespace Go.Proofs.YtkojkeabelckjaaGreatDoor.Y
open Go.RowKit
end Go.Proofs.YtkojkeabelckjaaGreatDoor.Y
namespace Go.Proofs.YtkojkeabelckjaaGreatDoor.Y
open Go.RowKit
end Go.Proofs.YtkojkeabelckjaaGreatDoor.Y
namespace Go.Proofs.YtkojkeabelckjaaGreatDoor.Y
open Go.RowKit
end Go.Proofs.YtkojkeabelckjaaGreatDoor.Y
namespace Go.Proofs.YtkojkeabelckjaaGreatDoor.Y
open Go.RowKit
theorem numL_leB : ∀ n x, numL (leB n x) = x % 256 ^ n
 | 0, x => by simp [leB, numL, Nat.mod_one]
 | n + 1, x => by
  have h : (UInt8.ofNat (x % 256)).toNat = x % 256 := by simp
  rw [leB, numL, h, numL_leB n, Nat.pow_succ, Nat.mul_comm (256 ^ n) 256, Nat.mod_mul]
def flat : List (Nat × Nat) → List UInt8
 | [] => []
 | (n, x) :: r => leB n x ++ flat r
theorem atL_here (p t : List UInt8) (n x : Nat) : atL (p ++ (leB n x ++ t)) p.length n = x % 256 ^ n := by
 unfold atL
 rw [List.drop_left, List.take_append_of_le_length (by rw [jG7]; omega), List.take_of_length_le (by rw [jG7]; omega), numL_leB]
theorem atL_flat (t : List UInt8) : ∀ (fs : List (Nat × Nat)) (p : List UInt8) (k n x : Nat), fs[k]? = some (n, x) → atL (p ++ (flat fs ++ t)) (p.length + ((fs.take k).map Prod.fst).sum) n = x % 256 ^ n
 | [], _, _, _, _, h => by simp at h
 | (m, y) :: r, p, 0, n, x, h => by
  simp at h
  obtain ⟨rfl, rfl⟩ := h
  simp only [qS, List.map_nil, List.sum_nil, flat, List.append_assoc]
  exact atL_here _ _ _ _
 | (m, y) :: r, p, k + 1, n, x, h => by
  have := atL_flat t r (p ++ leB m y) k n x (by simpa using h)
  rw [List.length_append, jG7] at this
  rw [List.take_succ_cons, List.map_cons, List.sum_cons, ← Nat.add_assoc]
  simpa [flat, List.append_assoc] using this
def uv4 (v : Int) : Nat := (unsV v 4).toNat
def fld (h : Hdr) : List (Nat × Nat) :=
 [(8, h.r0), (8, h.r1), (8, h.m0), (8, h.m1), (8, h.l0), (8, h.l1), (8, h.d0), (8, h.d1), (8, h.ad), (8, h.en), (8, h.co), (1, clN h), (1, h.ic), (1, h.oc), (1, h.ki), (1, h.z0.toNat), (1, h.z1.toNat),
  (4, uv4 h.lo0), (4, uv4 h.la0), (4, uv4 h.lo1), (4, uv4 h.la1), (1, h.zo.toNat), (4, uv4 h.lon), (4, uv4 h.lat)]
def mag8 : List UInt8 := [80, 77, 84, 105, 108, 101, 115, 3]
theorem enc_flat (h : Hdr) : enc5 h = mag8 ++ flat (fld h) := by
 simp only [enc5, enc4, enc3, enc2, enc1, secB, sgB, flat, fld, mag8, uv4, List.append_assoc, List.append_nil]
theorem jG5 (h : Hdr) (t : List UInt8) (k : Nat) {n x i : Nat} (hk : (fld h)[k]? = some (n, x)) (hi : 8 + (((fld h).take k).map Prod.fst).sum = i) (hx : x < 256 ^ n) : atL (enc5 h ++ t) i n = x := by
 rw [enc_flat, List.append_assoc, ← hi]
 exact (atL_flat t (fld h) mag8 k n x hk).trans (Nat.mod_eq_of_lt hx)
theorem uns_small {v : Int} (hv : -1800000000 ≤ v ∧ v ≤ 1800000000) : unsV v 4 = v % 4294967296 := by
 have h1 : unsE v 4 = 0 := by
  unfold unsE
  rw [if_pos (by omega), if_pos (by simp only [show (8 * (4 : Int) - 1).toNat = 31 from rfl]; omega)]
 unfold unsV
 rw [if_pos h1]
 rfl
theorem uv_lt (v : Int) : uv4 v < 256 ^ 4 := by have := unsV4 v; unfold uv4; omega
theorem sgn_uv {v : Int} (hv : -1800000000 ≤ v ∧ v ≤ 1800000000) : sgnV (uv4 v : Int) 4 = v := by
 unfold uv4 sgnV
 rw [uns_small hv, if_pos (by omega)]
 simp only [show (8 * (4 : Int) - 1).toNat = 31 from rfl, show (8 * (4 : Int)).toNat = 32 from rfl]
 omega
theorem dec_enc {h : Hdr} (hk : h.Ok) (hc : jG3 h = 0) (t : List UInt8) : decH (enc5 h ++ t) = h ∧ decE (enc5 h ++ t) = 0 := by
 obtain ⟨_, ⟨c1, c2, c3⟩, ⟨⟨z0a, z0b⟩, ⟨z1a, z1b⟩, ⟨zoa, zob⟩, _⟩, ⟨lo0, lo1, lon, _⟩, ⟨la0, la1, lat, _⟩⟩ := check_ok hc
 have hcl : clN h ≤ 1 := by unfold clN; split <;> omega
 have e96 : atL (enc5 h ++ t) 96 1 = clN h := jG5 h t 11 (by kernel_rfl) (by kernel_rfl) (by omega)
 have hH : decH (enc5 h ++ t) = h := by
  have q1 := hk.r0
  have q2 := hk.r1
  have q3 := hk.m0
  have q4 := hk.m1
  have q5 := hk.l0
  have q6 := hk.l1
  have q7 := hk.d0
  have q8 := hk.d1
  have q9 := hk.ad
  have q10 := hk.en
  have q11 := hk.co
  have e8 : atL (enc5 h ++ t) 8 8 = h.r0 := jG5 h t 0 (by kernel_rfl) (by kernel_rfl) (by omega)
  have e16 : atL (enc5 h ++ t) 16 8 = h.r1 := jG5 h t 1 (by kernel_rfl) (by kernel_rfl) (by omega)
  have e24 : atL (enc5 h ++ t) 24 8 = h.m0 := jG5 h t 2 (by kernel_rfl) (by kernel_rfl) (by omega)
  have e32 : atL (enc5 h ++ t) 32 8 = h.m1 := jG5 h t 3 (by kernel_rfl) (by kernel_rfl) (by omega)
  have e40 : atL (enc5 h ++ t) 40 8 = h.l0 := jG5 h t 4 (by kernel_rfl) (by kernel_rfl) (by omega)
  have e48 : atL (enc5 h ++ t) 48 8 = h.l1 := jG5 h t 5 (by kernel_rfl) (by kernel_rfl) (by omega)
  have e56 : atL (enc5 h ++ t) 56 8 = h.d0 := jG5 h t 6 (by kernel_rfl) (by kernel_rfl) (by omega)
  have e64 : atL (enc5 h ++ t) 64 8 = h.d1 := jG5 h t 7 (by kernel_rfl) (by kernel_rfl) (by omega)
  have e72 : atL (enc5 h ++ t) 72 8 = h.ad := jG5 h t 8 (by kernel_rfl) (by kernel_rfl) (by omega)
  have e80 : atL (enc5 h ++ t) 80 8 = h.en := jG5 h t 9 (by kernel_rfl) (by kernel_rfl) (by omega)
  have e88 : atL (enc5 h ++ t) 88 8 = h.co := jG5 h t 10 (by kernel_rfl) (by kernel_rfl) (by omega)
  have e97 : atL (enc5 h ++ t) 97 1 = h.ic := jG5 h t 12 (by kernel_rfl) (by kernel_rfl) (by omega)
  have e98 : atL (enc5 h ++ t) 98 1 = h.oc := jG5 h t 13 (by kernel_rfl) (by kernel_rfl) (by omega)
  have e99 : atL (enc5 h ++ t) 99 1 = h.ki := jG5 h t 14 (by kernel_rfl) (by kernel_rfl) (by omega)
  have e100 : atL (enc5 h ++ t) 100 1 = h.z0.toNat := jG5 h t 15 (by kernel_rfl) (by kernel_rfl) (by omega)
  have e101 : atL (enc5 h ++ t) 101 1 = h.z1.toNat := jG5 h t 16 (by kernel_rfl) (by kernel_rfl) (by omega)
  have e102 : atL (enc5 h ++ t) 102 4 = uv4 h.lo0 := jG5 h t 17 (by kernel_rfl) (by kernel_rfl) (uv_lt _)
  have e106 : atL (enc5 h ++ t) 106 4 = uv4 h.la0 := jG5 h t 18 (by kernel_rfl) (by kernel_rfl) (uv_lt _)
  have e110 : atL (enc5 h ++ t) 110 4 = uv4 h.lo1 := jG5 h t 19 (by kernel_rfl) (by kernel_rfl) (uv_lt _)
  have e114 : atL (enc5 h ++ t) 114 4 = uv4 h.la1 := jG5 h t 20 (by kernel_rfl) (by kernel_rfl) (uv_lt _)
  have e118 : atL (enc5 h ++ t) 118 1 = h.zo.toNat := jG5 h t 21 (by kernel_rfl) (by kernel_rfl) (by omega)
  have e119 : atL (enc5 h ++ t) 119 4 = uv4 h.lon := jG5 h t 22 (by kernel_rfl) (by kernel_rfl) (uv_lt _)
  have e123 : atL (enc5 h ++ t) 123 4 = uv4 h.lat := jG5 h t 23 (by kernel_rfl) (by kernel_rfl) (uv_lt _)
  unfold decH dgL
  rw [e8, e16, e24, e32, e40, e48, e56, e64, e72, e80, e88, e96, e97, e98, e99, e100, e101, e102, e106, e110, e114, e118, e119, e123, sgn_uv (by omega), sgn_uv (by omega), sgn_uv (by omega), sgn_uv (by omega), sgn_uv (by omega), sgn_uv (by omega), Int.toNat_of_nonneg z0a, Int.toNat_of_nonneg z1a, Int.toNat_of_nonneg zoa]
  have : decide (clN h = 1) = h.cl := by unfold clN; cases h.cl <;> simp
  rw [this]
 refine ⟨hH, ?_⟩
 have hl := enc5_length h
 unfold decE
 rw [hH, e96, if_neg (by rw [List.length_append]; omega), if_neg, if_neg, if_neg (by omega), hc]
 ·rw [enc_flat]; simp [mag8]
 ·rw [enc_flat]; simp [mag8, magic7]
theorem decV_enc {h : Hdr} (hk : h.Ok) (hc : jG3 h = 0) (t : List UInt8) : decV (encV h ++ t) = h ∧ decE (encV h ++ t) = 0 := by
 unfold encV decV
 rw [if_pos hc, (dec_enc hk hc t).2, if_pos rfl, (dec_enc hk hc t).1]
 exact ⟨rfl, rfl⟩
theorem decE_ok {l : List UInt8} (h : decE l = 0) : 127 ≤ l.length ∧ l.take 7 = magic7 ∧ l[7]? = some 3 ∧ atL l 96 1 ≤ 1 ∧ jG3 (decH l) = 0 := by
 unfold decE at h
 by_cases h1 : l.length < 127
 ·simp [h1] at h
 by_cases h2 : l.take 7 ≠ magic7
 ·simp [h1, h2] at h
 by_cases h3 : l[7]? ≠ some 3
 ·simp [h1, h2, h3] at h
 by_cases h4 : 1 < atL l 96 1
 ·simp [h1, h2, h3, h4] at h
 rw [if_neg h1, if_neg h2, if_neg h3, if_neg h4] at h
 exact ⟨by omega, Classical.byContradiction h2, Classical.byContradiction h3, by omega, h⟩
end Go.Proofs.YtkojkeabelckjaaGreatDoor.Y
end

section
set_option linter.all false
namespace Go.Proofs.YtkojkeabelckjaaGreatDoor
open Go.RowKit
def join_rho : Go.Shelf.Ren := ⟨fun n => match n with | 0 => 0 | 1 => 1 | 2 => 2 | 99 => 152 | 103 => 173 | 119 => 225 | 120 => 224 | 125 => 81 | 128 => 129 | 129 => 130 | 137 => 131 | 150 => 175 | 151 => 211 | 152 => 213 | 153 => 203 | 156 => 62 | 160 => 174 | 161 => 172 | 165 => 104 | 166 => 105 | 168 => 190 | 169 => 106 | 171 => 230 | 172 => 176 | 197 => 191 | 205 => 229 | 206 => 184 | 210 => 199 | 217 => 164 | 224 => 226 | 225 => 227 | 226 => 214 | 227 => 196 | 228 => 210 | 231 => 195 | 232 => 200 | 233 => 197 | 234 => 201 | 235 => 198 | 236 => 202 | 240 => 149 | 241 => 150 | 242 => 208 | 243 => 234 | 244 => 204 | 245 => 205 | 246 => 235 | 247 => 215 | 260 => 209 | 266 => 188 | 271 => 212 | 276 => 182 | 277 => 183 | 278 => 223 | 279 => 216 | 280 => 217 | 281 => 218 | 282 => 219 | 283 => 236 | 284 => 237 | 285 => 238 | 286 => 239 | 287 => 228 | 316 => 141 | 317 => 240 | 318 => 241 | 319 => 242 | 320 => 243 | 321 => 232 | 322 => 233 | 329 => 160 | 330 => 161 | 337 => 244 | 338 => 245 | 347 => 246 | 348 => 247 | 349 => 248 | 350 => 249 | 351 => 250 | 352 => 251 | 353 => 252 | 354 => 253 | 355 => 254 | 356 => 255 | 357 => 256 | 358 => 257 | 359 => 258 | 360 => 259 | 361 => 260 | 362 => 265 | 363 => 269 | 364 => 267 | 365 => 268 | 366 => 270 | 367 => 280 | _ => 0, fun n => match n with | 0 => 0 | 1 => 1 | 2 => 2 | 3 => 3 | 4 => 4 | 5 => 5 | 6 => 6 | 7 => 7 | 8 => 8 | 9 => 9 | 10 => 10 | 11 => 11 | 12 => 12 | 13 => 13 | 14 => 14 | 15 => 15 | 16 => 16 | 17 => 17 | 18 => 18 | 19 => 19 | 20 => 20 | 21 => 21 | 22 => 256 | 23 => 283 | 24 => 103 | 25 => 284 | 27 => 312 | 28 => 247 | 31 => 147 | 37 => 132 | 40 => 332 | 41 => 282 | 46 => 48 | 47 => 172 | 51 => 112 | 52 => 243 | 53 => 45 | 54 => 193 | 55 => 244 | 63 => 317 | 64 => 318 | 67 => 146 | 69 => 190 | 70 => 203 | 71 => 204 | 72 => 205 | 73 => 206 | 74 => 207 | 75 => 208 | 76 => 209 | 77 => 210 | 79 => 301 | 80 => 126 | 81 => 148 | 83 => 338 | 84 => 346 | 85 => 320 | 86 => 321 | 99 => 288 | 104 => 342 | 105 => 302 | 106 => 303 | 108 => 337 | 111 => 289 | 114 => 164 | 115 => 306 | 116 => 307 | 117 => 308 | 118 => 309 | 119 => 328 | 122 => 305 | 123 => 310 | 124 => 311 | 126 => 316 | 127 => 254 | 128 => 313 | 131 => 101 | 137 => 329 | 138 => 330 | 139 => 331 | 143 => 343 | 144 => 344 | 145 => 345 | 148 => 232 | 164 => 290 | 165 => 291 | 166 => 292 | 167 => 319 | 168 => 322 | 169 => 323 | 170 => 324 | 171 => 347 | 172 => 348 | 173 => 349 | 174 => 350 | 175 => 333 | 176 => 334 | 182 => 237 | 183 => 238 | 203 => 339 | 209 => 335 | 210 => 336 | 211 => 351 | 212 => 352 | 213 => 353 | 214 => 341 | 218 => 268 | 219 => 269 | 220 => 218 | 222 => 271 | 228 => 296 | 229 => 297 | 232 => 354 | 233 => 355 | 238 => 356 | 239 => 357 | 240 => 358 | 241 => 359 | 242 => 360 | 243 => 361 | 244 => 362 | 245 => 363 | 246 => 364 | 247 => 365 | 248 => 366 | 249 => 367 | _ => 0, fun n => match n with | 1 => 0 | 3 => 1 | 4 => 2 | 15 => 3 | 16 => 4 | 17 => 5 | 18 => 6 | 19 => 7 | _ => 0⟩
theorem join0 : Lays.n156 Tryz.prog join_rho where
 mixed := by kernel_rfl
 f156 := by kernel_rfl
 f165 := by kernel_rfl
 f166 := by kernel_rfl
 f169 := by kernel_rfl
 f240 := by kernel_rfl
 f241 := by kernel_rfl
 f276 := by kernel_rfl
 f277 := by kernel_rfl
 t0 := by kernel_rfl
 a0 := fun w => by kernel_rfl
 z0 := fun w => by kernel_rfl
 v0 := fun w => by kernel_rfl
 t3 := by kernel_rfl
 a3 := fun w => by kernel_rfl
 z3 := fun w => by kernel_rfl
 v3 := fun w => by kernel_rfl
 t4 := by kernel_rfl
 a4 := fun w => by kernel_rfl
 z4 := fun w => by kernel_rfl
 v4 := fun w => by kernel_rfl
 t9 := by kernel_rfl
 a9 := fun w => by kernel_rfl
 z9 := fun w => by kernel_rfl
 v9 := fun w => by kernel_rfl
 t20 := by kernel_rfl
 a20 := fun w => by kernel_rfl
 z20 := fun w => by kernel_rfl
 v20 := fun w => by kernel_rfl
 t31 := by kernel_rfl
 a31 := fun w => by kernel_rfl
 z31 := fun w => by kernel_rfl
 v31 := fun w => by kernel_rfl
 t37 := by kernel_rfl
 a37 := fun w => by kernel_rfl
 z37 := fun w => by kernel_rfl
 v37 := fun w => by kernel_rfl
 t70 := by kernel_rfl
 a70 := fun w => by kernel_rfl
 z70 := fun w => by kernel_rfl
 v70 := fun w => by kernel_rfl
 t72 := by kernel_rfl
 a72 := fun w => by kernel_rfl
 z72 := fun w => by kernel_rfl
 v72 := fun w => by kernel_rfl
 t75 := by kernel_rfl
 a75 := fun w => by kernel_rfl
 z75 := fun w => by kernel_rfl
 v75 := fun w => by kernel_rfl
 t76 := by kernel_rfl
 a76 := fun w => by kernel_rfl
 z76 := fun w => by kernel_rfl
 v76 := fun w => by kernel_rfl
 t127 := by kernel_rfl
 a127 := fun w => by kernel_rfl
 z127 := fun w => by kernel_rfl
 v127 := fun w => by kernel_rfl
 t164 := by kernel_rfl
 a164 := fun w => by kernel_rfl
 z164 := fun w => by kernel_rfl
 v164 := fun w => by kernel_rfl
theorem join1 : Builder.Extra Tryz.prog join_rho where
 sizeBuilder := by kernel_rfl
 liesBuilder := by kernel_rfl
 t5 := by kernel_rfl
 a5 := fun w => by kernel_rfl
 z5 := fun w => by kernel_rfl
 v5 := fun w => by kernel_rfl
 infoByte := by kernel_rfl
 cellsByte := by kernel_rfl
 sizeByte := by kernel_rfl
 neB5 := by decide
theorem enter_join : Enters Tryz.prog 62 := Enters.mk Tryz.func62 (by kernel_rfl) (by kernel_rfl)
theorem join_any (bk o c : Nat) (xs : List (List UInt8)) (sep : List UInt8) (w : World)
  (hcells : ∀ (j : Nat) x, xs[j]? = some x → w.cell? ⟨bk, o + j, none⟩ = some (.string (str x)))
  (hbk : bk < w.heap.size) (hN : xs.length ≤ 140737488355328) (hcap : xs.length ≤ c) (hlen : (Lib.join xs sep).length ≤ 140737488355328) :
  Calls Tryz.prog 62 #[.slice (some ⟨bk, o, none⟩) xs.length c, .string (str sep)] w fun e w' => e = .returned (.string (str (Lib.join xs sep))) ∧ Bel w w' := by
 have e : (xs.map str).map (fun (x : ByteArray) => x.data.toList) = xs := by
  rw [List.map_map]
  conv => rhs; rw [← List.map_id xs]
  exact List.map_congr_left fun l _ => by simp [str]
 have h := Any.strings_Join join0 join1 bk o c (xs.map str) (str sep) w (fun j x hx => by
  rw [List.getElem?_map] at hx
  cases hj : xs[j]? with
  | none => rw [hj] at hx; cases hx
  | some y => rw [hj] at hx; rw [← Option.some.inj hx]; exact hcells j y hj) hbk (by simpa using hN) (by simpa using hcap) (by rw [e]; simpa [str] using hlen)
 rw [e, List.length_map] at h
 exact h
end Go.Proofs.YtkojkeabelckjaaGreatDoor
end
