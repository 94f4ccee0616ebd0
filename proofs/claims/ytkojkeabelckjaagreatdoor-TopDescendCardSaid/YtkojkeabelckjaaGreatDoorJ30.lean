/- TopDescend: what lies in a tile, some zooms below it, is one interval of identifiers, just that of the rectangle of its tiles. No conditions. -/
import Derived.Test.YtkojkeabelckjaaGreatDoorJ26
import Derived.Test.YtkojkeabelckjaaGreatDoorJ29
import Derived.Test.YtkojkeabelckjaaGreatDoorJ11
import Derived.Test.YtkojkeabelckjaaGreatDoorCards
import Derived.Test.YtkojkeabelckjaaGreatDoorTie
import Derived.ProofKit
import Derived.Lay
import Derived.SevenTiedAt

set_option linter.all false
namespace Go.Proofs.YtkojkeabelckjaaGreatDoor
open Go.RowKit
set_option maxRecDepth 100000
theorem tRange_e1 (z x y q : Int) (hE : jH8 z x y ≠ 0) : Fn Tryz.prog 12 [tval z x y, iq q] [] fun v _ => v = .tuple #[uq 0, uq 0, iq (jH8 z x y)] := by
  have hid := tID_fn z x y
  obtain ⟨h, hh⟩ : ∃ e, idV z x y = e := ⟨_, rfl⟩
  obtain ⟨e, he⟩ : ∃ e, jH8 z x y = e := ⟨_, rfl⟩
  rw [hh] at hid
  rw [he] at hid hE ⊢
  refine Fn.enter (N := 50) Tryz.func12 rfl (by kernel_rfl) rfl (fun w0 => ?_)
  refine aR (fun Z hZ => ?_)
  refine jA5 rfl rfl rfl (fun g1 => ?_)
  refine sA rfl rfl <| sA rfl rfl <| sA rfl rfl <| sN (hZ _ _ ?_)
  refine aF [(1, _), (2, _)] (Kn.cons rfl (Kn.cons rfl (Kn.nil))) ?_
  refine aR (fun Z hZ => ?_)
  first | refine sLA 0 rfl rfl tyA44 tyS44 rfl (by simp only [List.take_succ_cons, List.take_zero, List.drop_zero, Value.cells]; rfl) rfl ?_
  refine sCP (hid) rfl rfl ?_
  refine sM rfl rfl <| sX rfl rfl rfl <| sX rfl rfl rfl <| sA rfl rfl <| sA rfl rfl <| sN (hZ _ _ ?_)
  refine aF [(1, _), (2, _), (7, _), (8, _)] (Kn.cons rfl (Kn.cons rfl (Kn.cons rfl (Kn.cons rfl (Kn.nil))))) ?_
  refine aS (aB ?_)
  refine aR fun Z hZ => sM rfl rfl ?_
  refine jC9 rfl rfl rfl ?_
  refine sA rfl rfl <| sN (hZ _ _ ?_)
  refine aF [(1, _), (2, _), (7, _), (8, _), (16, _)] (Kn.cons rfl (Kn.cons rfl (Kn.cons rfl (Kn.cons rfl (Kn.cons rfl (Kn.nil)))))) ?_
  refine aC rfl (fun h1 => ?_) (fun h1 => ?_)
  · refine aR (fun Z hZ => ?_)
    refine sM rfl rfl <| sA rfl rfl <| sA rfl rfl <| sA rfl rfl <| sN (hZ _ _ ?_)
    refine aF [(4, _), (5, _), (6, _)] (Kn.cons rfl (Kn.cons rfl (Kn.cons rfl (Kn.nil)))) ?_
    refine aE ?_
    repeat (with_reducible (first | refine nTR ?_ | refine nBR ?_))
    exact nx_ret3 rfl rfl rfl rfl rfl
  · simp at h1; omega
theorem tRange_e2 (z x y q : Int) (hE : jH8 z x y = 0) (hq : q < z ∨ 26 < q) : Fn Tryz.prog 12 [tval z x y, iq q] [] fun v _ => v = .tuple #[uq 0, uq 0, iq (8 : Int)] := by
  have hid := tID_fn z x y
  rw [hE] at hid
  obtain ⟨h, hh⟩ : ∃ e, idV z x y = e := ⟨_, rfl⟩
  rw [hh] at hid
  refine Fn.enter (N := 50) Tryz.func12 rfl (by kernel_rfl) rfl (fun w0 => ?_)
  refine aR (fun Z hZ => ?_)
  refine jA5 rfl rfl rfl (fun g1 => ?_)
  refine sA rfl rfl <| sA rfl rfl <| sA rfl rfl <| sN (hZ _ _ ?_)
  refine aF [(1, _), (2, _)] (Kn.cons rfl (Kn.cons rfl (Kn.nil))) ?_
  refine aR (fun Z hZ => ?_)
  first | refine sLA 0 rfl rfl tyA44 tyS44 rfl (by simp only [List.take_succ_cons, List.take_zero, List.drop_zero, Value.cells]; rfl) rfl ?_
  refine sCP (hid) rfl rfl ?_
  refine sM rfl rfl <| sX rfl rfl rfl <| sX rfl rfl rfl <| sA rfl rfl <| sA rfl rfl <| sN (hZ _ _ ?_)
  refine aF [(1, _), (2, _), (7, _), (8, _)] (Kn.cons rfl (Kn.cons rfl (Kn.cons rfl (Kn.cons rfl (Kn.nil))))) ?_
  refine aS (aB ?_)
  refine aR fun Z hZ => sM rfl rfl ?_
  refine jC9 rfl rfl rfl ?_
  refine sA rfl rfl <| sN (hZ _ _ ?_)
  refine aF [(1, _), (2, _), (7, _), (8, _), (16, _)] (Kn.cons rfl (Kn.cons rfl (Kn.cons rfl (Kn.cons rfl (Kn.cons rfl (Kn.nil)))))) ?_
  refine aC rfl (fun h1 => ?_) (fun h1 => ?_)
  · cases h1
  refine jA1 [(20, .bool true)] [] (fun Z hZ => ?_) ?_
  · refine sM rfl rfl ?_
    refine sFA rfl tyF44_0 (by simp only [Nat.add_zero]; rfl) rfl ?_
    first | refine sL 0 rfl rfl tyA3 tyS3 rfl rfl ?_
    refine jC3 rfl rfl rfl ?_
    refine sM rfl rfl ?_
    refine jB6 25 rfl (fun hb4 => ?_) (fun hb4 => ?_)
    · refine sO rfl rfl rfl rfl rfl ?_
      refine sO rfl rfl rfl rfl rfl ?_
      refine sP rfl rfl rfl <| sA rfl rfl ?_
      refine sN (hZ _ _ ?_ ?_)
      · exact Kn.cons (congrArg some (congrArg Value.bool (by first | rfl | (simp at *; done) | (simp at *; omega)))) Kn.nil
      · exact HLe.sub (List.nil_sublist _)
    · refine sOn rfl rfl rfl ?_
      refine sM rfl rfl ?_
      refine sOn rfl rfl rfl ?_
      refine jE3 rfl rfl rfl ?_
      refine sP rfl rfl rfl <| sA rfl rfl ?_
      refine sN (hZ _ _ ?_ ?_)
      · exact Kn.cons (congrArg some (congrArg Value.bool (by first | rfl | (simp at *; done) | (simp at *; omega)))) Kn.nil
      · exact HLe.sub (List.nil_sublist _)
  refine aC rfl (fun h2 => ?_) (fun h2 => ?_)
  · refine aR (fun Z hZ => ?_)
    refine sA rfl rfl <| sA rfl rfl <| sA rfl rfl <| sN (hZ _ _ ?_)
    refine aF [(4, _), (5, _), (6, _)] (Kn.cons rfl (Kn.cons rfl (Kn.cons rfl (Kn.nil)))) ?_
    refine aE ?_
    repeat (with_reducible (first | refine nTR ?_ | refine nBR ?_))
    exact nx_ret3 rfl rfl rfl rfl rfl
  cases h2
theorem place_ok {z x y : Int} (h : jH8 z x y = 0) : ∃ Z X Y : Nat, z = Z ∧ x = X ∧ y = Y ∧ Z ≤ 26 ∧ X < 2 ^ Z ∧ Y < 2 ^ Z := by
  unfold jH8 at h
  by_cases h1 : z < 0 ∨ 26 < z
  · rw [if_pos h1] at h; cases h
  rw [if_neg h1] at h
  split at h
  · cases h
  · rename_i h2
    exact ⟨z.toNat, x.toNat, y.toNat, by omega, by omega, by omega, by omega, by omega, by omega⟩
theorem place_3 (z x y : Int) : jH8 z x y = 0 ∨ jH8 z x y = 2 ∨ jH8 z x y = 8 := by
  unfold jH8
  split
  · exact .inr (.inl rfl)
  · split
    · exact .inr (.inr rfl)
    · exact .inl rfl
def sqS (z n a b : Nat) : Sp := ⟨jB8 (z + n) + hp z a b * 4 ^ n, jB8 (z + n) + hp z a b * 4 ^ n + 4 ^ n - 1⟩
theorem sq_done {z n a b : Nat} (hz : z + n ≤ 26) (ha : a < 2 ^ z) (hb : b < 2 ^ z) : DoneQ (z + n) (RIn (a * 2 ^ n) (b * 2 ^ n) ((a + 1) * 2 ^ n - 1) ((b + 1) * 2 ^ n - 1)) (4 ^ (z + n)) [sqS z n a b] := by
  have hq := pow4_pos n
  have h2 : 0 < 2 ^ n := Nat.pow_pos (by decide)
  have hhl := hp_lt z a b ha hb
  have hml : hp z a b * 4 ^ n + 4 ^ n ≤ 4 ^ (z + n) := by
    rw [Nat.pow_add, ← Nat.succ_mul]
    exact Nat.mul_le_mul_right _ hhl
  refine ⟨⟨List.pairwise_singleton _ _, fun s hs => by rw [List.mem_singleton.1 hs]; show _ ≤ _; simp only [sqS]; omega⟩, fun k => ?_⟩
  have hin : inS [sqS z n a b] k ↔ jB8 (z + n) + hp z a b * 4 ^ n ≤ k ∧ k ≤ jB8 (z + n) + hp z a b * 4 ^ n + 4 ^ n - 1 := by
    constructor
    · rintro ⟨s, hs, h⟩
      rw [List.mem_singleton.1 hs] at h
      exact h
    · exact fun h => ⟨_, List.mem_singleton.2 rfl, h⟩
  rw [hin]
  constructor
  · rintro ⟨h3, h4⟩
    have he : k - jB8 (z + n) < 4 ^ (z + n) := by omega
    obtain ⟨g1, g2⟩ := (sq_pt ha hb he).1 ⟨by omega, by omega⟩
    have r1 := sq_rng.1 g1
    have r2 := sq_rng.1 g2
    exact ⟨by omega, by omega, ⟨by omega, by omega⟩, by omega, by omega⟩
  · rintro ⟨h3, h4, ⟨h5, h6⟩, h7, h8⟩
    have he : k - jB8 (z + n) < 4 ^ (z + n) := by omega
    have p1 : 0 < (a + 1) * 2 ^ n := Nat.mul_pos (by omega) h2
    have p2 : 0 < (b + 1) * 2 ^ n := Nat.mul_pos (by omega) h2
    have g1 := sq_rng.2 (show a * 2 ^ n ≤ (pt (z + n) (k - jB8 (z + n))).1 ∧ (pt (z + n) (k - jB8 (z + n))).1 < (a + 1) * 2 ^ n by omega)
    have g2 := sq_rng.2 (show b * 2 ^ n ≤ (pt (z + n) (k - jB8 (z + n))).2 ∧ (pt (z + n) (k - jB8 (z + n))).2 < (b + 1) * 2 ^ n by omega)
    have := (sq_pt ha hb he).2 ⟨g1, g2⟩
    omega
theorem descend_fn (z x y : Int) (deep : Nat) (hd : deep < 256) : Fn Tryz.prog 4 [tval z x y, .int .u8 (deep : Nat)] [] fun v _ => v = .bool true := by
  obtain ⟨n, hn⟩ : ∃ n, deep % 27 = n := ⟨_, rfl⟩
  have hn27 : n < 27 := by omega
  by_cases hE : jH8 z x y = 0
  · obtain ⟨zz, a, b, rfl, rfl, rfl, hZ, ha, hb⟩ := place_ok hE
    by_cases hz : zz + n ≤ 26
    · have hr := tRange_fn zz n a b hz ha hb
      have h2 : 0 < 2 ^ n := Nat.pow_pos (by decide)
      have h26 : 2 ^ zz ≤ 67108864 := Nat.le_trans (Nat.pow_le_pow_right (by decide) hZ) (by decide)
      have hpz : 2 ^ zz * 2 ^ n ≤ 67108864 := by
        rw [← Nat.pow_add]
        exact Nat.le_trans (Nat.pow_le_pow_right (by decide) hz) (by decide)
      have ha2 : (a + 1) * 2 ^ n ≤ 2 ^ zz * 2 ^ n := Nat.mul_le_mul_right _ ha
      have hb2 : (b + 1) * 2 ^ n ≤ 2 ^ zz * 2 ^ n := Nat.mul_le_mul_right _ hb
      have ea : (a + 1) * 2 ^ n = a * 2 ^ n + 2 ^ n := Nat.succ_mul _ _
      have eb : (b + 1) * 2 ^ n = b * 2 ^ n + 2 ^ n := Nat.succ_mul _ _
      have s1 := shl_at .i64 a n rfl (by omega) (fun x hx => IntWalk.i64_in _ (by omega))
      have s2 := shl_at .i64 b n rfl (by omega) (fun x hx => IntWalk.i64_in _ (by omega))
      have s3 := shl_at .i64 (a + 1) n rfl (by omega) (fun x hx => IntWalk.i64_in _ (by omega))
      have s4 := shl_at .i64 (b + 1) n rfl (by omega) (fun x hx => IntWalk.i64_in _ (by omega))
      have hsub : ∀ P : Nat, 0 < P → P ≤ 67108864 → IntKind.i64.wrap (((P : Nat) : Int) - 1) = ((P - 1 : Nat) : Int) := fun P h1 h2 => by rw [IntWalk.i64_in _ (by omega)]; omega
      have hcv : IntKind.u64.wrap ((n : Nat) : Int) = ((n : Nat) : Int) := IntWalk.u64_in _ (by omega)
      have hok : (Rc.mk ((zz + n : Nat) : Int) ((a * 2 ^ n : Nat) : Int) ((b * 2 ^ n : Nat) : Int) (((a + 1) * 2 ^ n - 1 : Nat) : Int) (((b + 1) * 2 ^ n - 1 : Nat) : Int)).Ok (zz + n) (a * 2 ^ n) (b * 2 ^ n) ((a + 1) * 2 ^ n - 1) ((b + 1) * 2 ^ n - 1) := ⟨rfl, hz, by omega, by omega, by rw [Nat.pow_add]; omega, by rw [Nat.pow_add]; omega⟩
      have hsp := cspans_fn hok 1 (by decide) (by decide) _ (sq_done hz ha hb)
      have hsp1 : Fn Tryz.prog 13 [(Rc.mk ((zz + n : Nat) : Int) ((a * 2 ^ n : Nat) : Int) ((b * 2 ^ n : Nat) : Int) (((a + 1) * 2 ^ n - 1 : Nat) : Int) (((b + 1) * 2 ^ n - 1 : Nat) : Int)).val, iq (1 : Nat)] [] fun v H' => ∃ u, v = .tuple #[u, iq (0 : Int)] ∧ RowOk u 1 ∧ H' = rowE u 55 2 (jG6 [sqS zz n a b]) :=
        fn_imp hsp fun v H' hv => by
          rcases hv with ⟨_, h⟩ | ⟨h, _⟩
          · exact h
          · simp at h
      have hq0 := pow4_pos n
      have h4 : 4 ^ n ≤ 4503599627370496 := Nat.le_trans (Nat.pow_le_pow_right (by decide) (show n ≤ 26 by omega)) (by decide)
      have hto : totM [sqS zz n a b] = 4 ^ n := by
        simp only [totM, totalQ, sqS, List.map_cons, List.map_nil, List.sum_cons, List.sum_nil]
        omega
      have hid := hp_lt zz a b ha hb
      have hbd : jB8 (zz + n) + hp zz a b * 4 ^ n + 4 ^ n ≤ 6004799503160661 := by
        have h5 := base4_mono (show zz + n + 1 ≤ 27 by omega)
        rw [base4_27, base4_succ] at h5
        have h6 : hp zz a b * 4 ^ n + 4 ^ n ≤ 4 ^ (zz + n) := by
          rw [Nat.pow_add, ← Nat.succ_mul]
          exact Nat.mul_le_mul_right _ hid
        omega
      have hso : SpsOk [sqS zz n a b] := fun s hs => by rw [List.mem_singleton.1 hs]; simp only [sqS]; omega
      have hszv : ((a + 1) * 2 ^ n - 1 + 1 - a * 2 ^ n) * ((b + 1) * 2 ^ n - 1 + 1 - b * 2 ^ n) = 4 ^ n := by
        rw [show (a + 1) * 2 ^ n - 1 + 1 - a * 2 ^ n = 2 ^ n by omega, show (b + 1) * 2 ^ n - 1 + 1 - b * 2 ^ n = 2 ^ n by omega, pow4_sq]
      have hsz := cSize_fn (Rc.mk ((zz + n : Nat) : Int) ((a * 2 ^ n : Nat) : Int) ((b * 2 ^ n : Nat) : Int) (((a + 1) * 2 ^ n - 1 : Nat) : Int) (((b + 1) * 2 ^ n - 1 : Nat) : Int))
      rw [hok.size, hszv] at hsz
      have t1 := shl_at .u64 1 (2 * n) rfl (by omega) (fun x hx => IntWalk.u64_in _ (by rw [four_two, Nat.one_mul] at hx; omega))
      have t2 := shl_at .i64 1 (2 * n) rfl (by omega) (fun x hx => IntWalk.i64_in _ (by rw [four_two, Nat.one_mul] at hx; omega))
      rw [four_two, Nat.one_mul] at t1 t2
      have hcv2 : IntKind.u64.wrap ((2 * n : Nat) : Int) = ((2 * n : Nat) : Int) := IntWalk.u64_in _ (by omega)
      obtain ⟨S, hS⟩ : ∃ S, sqS zz n a b = S := ⟨_, rfl⟩
      have hSa : jB8 (zz + n) + hp zz a b * 4 ^ n = S.a := by rw [← hS]; rfl
      have hSb : jB8 (zz + n) + hp zz a b * 4 ^ n + 4 ^ n - 1 = S.b := by rw [← hS]; rfl
      rw [hSb, hSa] at hr
      rw [hS] at hsp1 hto hso
      obtain ⟨q, hq⟩ : ∃ q, 4 ^ n = q := ⟨_, rfl⟩
      rw [hq] at hsz t1 t2 hto
      refine Fn.enter (N := 109) Tryz.func4 rfl (by kernel_rfl) rfl (fun w0 => ?_)
      refine aR (fun Z hZ => ?_)
      refine jA5 rfl rfl rfl (fun g1 => ?_)
      refine sA rfl rfl <| sN (hZ _ _ ?_)
      refine aF [(1, _), (2, _)] (Kn.cons rfl (Kn.cons rfl (Kn.nil))) ?_
      refine aR (fun Z hZ => ?_)
      first | refine sLA 0 rfl rfl tyA43 tyS43 (by simp only [Nat.zero_add]; rfl) (by simp only [List.take_succ_cons, List.take_zero, List.drop_zero, Value.cells]; rfl) rfl ?_
      refine sAl tyZ44 rfl (fun g2 => ?_)
      refine sS 0 rfl rfl rfl tyS44 (by simp only [Value.cells]; rfl) rfl rfl (by simp only [List.length_cons, List.length_nil, Nat.reduceAdd, Nat.zero_add]; rfl) (by simp only [List.take_zero, List.drop_succ_cons, List.drop_zero, List.nil_append, List.append_nil, List.length_cons, List.length_nil, Nat.reduceAdd, Nat.zero_add, wrV]; rfl) (by simp only [List.set_cons_zero]; rfl) ?_
      refine sN (hZ _ _ ?_)
      refine aF [(1, _), (2, _), (5, _)] (Kn.cons rfl (Kn.cons rfl (Kn.cons rfl (Kn.nil)))) ?_
      refine aR fun Z hZ => sM rfl rfl ?_
      refine jA6 Tryz.underlying5 Tryz.underlying3 rfl ((deep : Nat) : Int) (IntWalk.i64_in _ (by omega)) rfl ?_
      refine sx_rem rfl rfl (by decide) ((n : Nat) : Int) (by rw [Int.tmod_eq_emod_of_nonneg (by omega)]; omega) rfl ?_
      refine sA rfl rfl <| sN (hZ _ _ ?_)
      refine aF [(2, _), (5, _), (6, _)] (Kn.cons rfl (Kn.cons rfl (Kn.cons rfl (Kn.nil)))) ?_
      refine aR (fun Z hZ => ?_)
      refine sLA 0 rfl rfl tyA44 tyS44 (by simp only [List.length_cons, List.length_nil, Nat.reduceAdd, Nat.zero_add]; rfl) (by simp only [List.take_succ_cons, List.take_zero, List.drop_zero]; rfl) rfl ?_
      refine sFA rfl tyF43_0 (by simp only [Nat.add_zero]; rfl) rfl ?_
      refine sL 1 rfl rfl tyA3 tyS3 rfl rfl ?_
      refine sM rfl rfl ?_
      refine jA7 rfl rfl ((zz + n : Nat) : Int) (by rw [IntWalk.i64_in _ (by omega)]; omega) rfl ?_
      refine sCP hr rfl rfl ?_
      refine sM rfl rfl <| sX rfl rfl rfl <| sX rfl rfl rfl <| sX rfl rfl rfl <| sA rfl rfl <| sA rfl rfl <| sA rfl rfl <| sN (hZ _ _ ?_)
      refine aF [(2, _), (6, _), (7, _), (8, _), (9, _)] (Kn.cons rfl (Kn.cons rfl (Kn.cons rfl (Kn.cons rfl (Kn.cons rfl (Kn.nil)))))) ?_
      refine aS ?_
      refine aR fun Z hZ => sM rfl rfl ?_
      refine jC9 rfl rfl rfl ?_
      refine sN (hZ _ _ ?_)
      refine aF [(2, _), (6, _), (7, _), (8, _), (9, _), (28, _)] (Kn.cons rfl (Kn.cons rfl (Kn.cons rfl (Kn.cons rfl (Kn.cons rfl (Kn.cons rfl (Kn.nil))))))) ?_
      refine aC rfl (fun h => ?_) (fun h => ?_)
      · cases h
      refine aK ?_
      with_reducible refine nN ?_
      refine aR (fun Z hZ => ?_)
      refine sFA rfl tyF43_0 (by simp only [Nat.add_zero]; rfl) rfl ?_
      refine sL 1 rfl rfl tyA3 tyS3 rfl rfl ?_
      refine sM rfl rfl ?_
      refine jA7 rfl rfl ((zz + n : Nat) : Int) (by rw [IntWalk.i64_in _ (by omega)]; omega) rfl ?_
      refine sFA rfl tyF43_1 (by simp only [Nat.zero_add]; rfl) rfl ?_
      refine sL 1 rfl rfl tyA3 tyS3 rfl rfl ?_
      refine sM rfl rfl ?_
      refine jA6 Tryz.underlying3 Tryz.underlying48 rfl ((n : Nat) : Int) hcv rfl ?_
      refine sx_shl rfl rfl (by omega) _ s1 rfl ?_
      refine sFA rfl tyF43_2 (by simp only [Nat.zero_add]; rfl) rfl ?_
      refine sL 1 rfl rfl tyA3 tyS3 rfl rfl ?_
      refine sM rfl rfl ?_
      refine jA6 Tryz.underlying3 Tryz.underlying48 rfl ((n : Nat) : Int) hcv rfl ?_
      refine sx_shl rfl rfl (by omega) _ s2 rfl ?_
      refine sFA rfl tyF43_1 (by simp only [Nat.zero_add]; rfl) rfl ?_
      refine sL 1 rfl rfl tyA3 tyS3 rfl rfl ?_
      refine jA7 rfl rfl ((a + 1 : Nat) : Int) (by rw [IntWalk.i64_in _ (by omega)]; omega) rfl ?_
      refine sM rfl rfl ?_
      refine jA6 Tryz.underlying3 Tryz.underlying48 rfl ((n : Nat) : Int) hcv rfl ?_
      refine sx_shl rfl rfl (by omega) _ s3 rfl ?_
      refine jG4 rfl rfl (((a + 1) * 2 ^ n - 1 : Nat) : Int) (hsub _ (by omega) (by omega)) rfl ?_
      refine sFA rfl tyF43_2 (by simp only [Nat.zero_add]; rfl) rfl ?_
      refine sL 1 rfl rfl tyA3 tyS3 rfl rfl ?_
      refine jA7 rfl rfl ((b + 1 : Nat) : Int) (by rw [IntWalk.i64_in _ (by omega)]; omega) rfl ?_
      refine sM rfl rfl ?_
      refine jA6 Tryz.underlying3 Tryz.underlying48 rfl ((n : Nat) : Int) hcv rfl ?_
      refine sx_shl rfl rfl (by omega) _ s4 rfl ?_
      refine jG4 rfl rfl (((b + 1) * 2 ^ n - 1 : Nat) : Int) (hsub _ (by omega) (by omega)) rfl ?_
      refine jB3 tyZ50 tyP50 rfl rfl (by simp only [List.take_succ_cons, List.take_zero, List.drop_succ_cons, List.drop_zero, List.cons_append, List.nil_append, List.append_nil, List.length_cons, List.length_nil, Nat.reduceAdd, Nat.zero_add, Value.cells, wrV]; rfl) rfl ?_
      refine sAl tyZ50 rfl (fun g3 => ?_)
      refine sS 0 rfl rfl rfl tyS50 (by simp only [Value.cells]; rfl) rfl rfl (by simp only [List.length_cons, List.length_nil, Nat.reduceAdd, Nat.zero_add]; rfl) (by simp only [List.take_zero, List.drop_succ_cons, List.drop_zero, List.nil_append, List.append_nil, List.length_cons, List.length_nil, Nat.reduceAdd, Nat.zero_add, wrV]; rfl) (by simp only [List.set_cons_zero]; rfl) ?_
      refine sN (hZ _ _ ?_)
      refine aF [(6, _), (7, _), (8, _), (10, _)] (Kn.cons rfl (Kn.cons rfl (Kn.cons rfl (Kn.cons rfl (Kn.nil))))) ?_
      refine aR (fun Z hZ => ?_)
      refine sLA 0 rfl rfl tyA50 tyS50 (by simp only [List.length_cons, List.length_nil, Nat.reduceAdd, Nat.zero_add]; rfl) (by simp only [List.take_succ_cons, List.take_zero, List.drop_zero]; rfl) rfl ?_
      refine jD9 [] _ hsp1 rfl (HLe.refl _) rfl ?_
      rintro v H' ⟨u, rfl, hu, rfl⟩
      rw [jF8]
      obtain ⟨gs, cs, rfl⟩ := hu.some (by decide)
      refine sM rfl rfl <| sX rfl rfl rfl <| sX rfl rfl rfl <| sA rfl rfl <| sA rfl rfl <| sN (hZ _ _ ?_)
      refine aF [(6, _), (7, _), (8, _), (10, _), (11, _), (12, _)] (Kn.cons rfl (Kn.cons rfl (Kn.cons rfl (Kn.cons rfl (Kn.cons rfl (Kn.cons rfl (Kn.nil))))))) ?_
      refine jB5 [.ro gs 0 (jG6 [S]), .own g3 50 (Rc.mk ((zz + n : Nat) : Int) ((a * 2 ^ n : Nat) : Int) ((b * 2 ^ n : Nat) : Int) (((a + 1) * 2 ^ n - 1 : Nat) : Int) (((b + 1) * 2 ^ n - 1 : Nat) : Int)).cells] ((HLe.sub (List.Sublist.cons_cons _ (List.Sublist.cons_cons _ (List.nil_sublist _)))).trans (HLe.rowRo [] _)) ?_
      have htot := stotal_fn (some ⟨gs, 0, none⟩) cs [S] (roE (some ⟨gs, 0, none⟩) (jG6 [S])) (fun _ => ⟨_, _, rfl⟩) (fun _ => rfl) (Ro.roE _ _) (by simp) hso
      rw [hto] at htot
      refine jA1 [(4, .bool true)] [] (fun Z hZ => ?_) ?_
      · refine sM rfl rfl ?_
        refine jD7 rfl rfl rfl ?_
        refine sM rfl rfl ?_
        refine sx_force 74 rfl true (by first | rfl | (simp; done) | (simp [spq]; done)) ?_
        refine sOn rfl rfl rfl ?_
        refine sM rfl rfl ?_
        refine sOn rfl rfl rfl ?_
        refine jE7 Tryz.underlying51 rfl rfl ?_
        refine sOn rfl rfl rfl ?_
        refine jD7 rfl rfl rfl ?_
        refine sP rfl rfl rfl <| sM rfl rfl ?_
        refine sx_force 79 rfl true (by first | rfl | (simp; done) | (simp [spq]; done)) ?_
        refine sOn rfl rfl rfl ?_
        refine sM rfl rfl ?_
        refine sOn rfl rfl rfl ?_
        refine jB9 (0 + 0) Tryz.underlying51 tyS55 rfl rfl (by decide) (by simp) rfl ?_
        refine sOn rfl rfl rfl ?_
        refine jF0 0 rfl rfl 0 rfl tyA55 tyS55 rfl rfl ?_
        refine sOn rfl rfl rfl ?_
        refine sM rfl rfl ?_
        refine sOn rfl rfl rfl ?_
        refine sM rfl rfl ?_
        refine sOn rfl rfl rfl ?_
        refine jB3 tyZ55 tyP55 rfl rfl (by simp only [List.take_succ_cons, List.take_zero, List.drop_succ_cons, List.drop_zero, List.cons_append, List.nil_append, List.append_nil, List.length_cons, List.length_nil, Nat.reduceAdd, Nat.zero_add, Value.cells, wrV]; rfl) rfl ?_
        refine sOn rfl rfl rfl ?_
        refine sx_aeql (sp_eqC S S) guard_spC rfl rfl rfl ?_
        refine sP rfl rfl rfl <| sM rfl rfl ?_
        refine sx_force 88 rfl true (by first | rfl | (simp; done) | (simp [spq]; done)) ?_
        refine sOn rfl rfl rfl ?_
        refine sM rfl rfl ?_
        refine sOn rfl rfl rfl ?_
        refine jF4 [.ro gs 0 (jG6 [S])] htot rfl (List.Sublist.cons_cons _ (List.nil_sublist _)) (Ro.roE (some ⟨gs, 0, none⟩) (jG6 [S])) rfl ?_
        refine sOn rfl rfl rfl ?_
        refine sM rfl rfl ?_
        refine sOn rfl rfl rfl ?_
        refine sx_mul rfl rfl ((2 * n : Nat) : Int) (by rw [IntWalk.i64_in _ (by omega)]; omega) rfl ?_
        refine sOn rfl rfl rfl ?_
        refine jA6 Tryz.underlying3 Tryz.underlying48 rfl ((2 * n : Nat) : Int) hcv2 rfl ?_
        refine sOn rfl rfl rfl ?_
        refine sx_shl rfl rfl (by omega) _ t1 rfl ?_
        refine sOn rfl rfl rfl ?_
        refine jD7 rfl rfl rfl ?_
        refine sP rfl rfl rfl <| sM rfl rfl ?_
        refine sx_force 97 rfl true (by first | rfl | (simp; done) | (simp [spq]; done)) ?_
        refine sOn rfl rfl rfl ?_
        refine sLA 1 rfl rfl tyA50 tyS50 (by simp only [List.length_cons, List.length_nil, Nat.reduceAdd, Nat.zero_add]; rfl) (by simp only [List.take_succ_cons, List.take_zero, List.drop_zero]; rfl) rfl ?_
        refine sOn rfl rfl rfl ?_
        refine sCP hsz rfl rfl ?_
        refine sOn rfl rfl rfl ?_
        refine sM rfl rfl ?_
        refine sOn rfl rfl rfl ?_
        refine sx_mul rfl rfl ((2 * n : Nat) : Int) (by rw [IntWalk.i64_in _ (by omega)]; omega) rfl ?_
        refine sOn rfl rfl rfl ?_
        refine jA6 Tryz.underlying3 Tryz.underlying48 rfl ((2 * n : Nat) : Int) hcv2 rfl ?_
        refine sOn rfl rfl rfl ?_
        refine sx_shl rfl rfl (by omega) _ t2 rfl ?_
        refine sOn rfl rfl rfl ?_
        refine jD7 rfl rfl rfl ?_
        refine sP rfl rfl rfl <| sM rfl rfl ?_
        refine sx_force 106 rfl true (by first | rfl | (simp; done) | (simp [spq]; done)) ?_
        refine sOn rfl rfl rfl ?_
        refine sCP tawake_fn rfl rfl ?_
        refine sP rfl rfl rfl <| sA rfl rfl ?_
        refine sN (hZ _ _ ?_ ?_)
        · exact Kn.cons rfl Kn.nil
        · exact HLe.sub (List.nil_sublist _)
      refine aE ?_
      exact nR1 rfl rfl rfl
    · have hr := tRange_e2 (zz : Nat) a b ((zz + n : Nat) : Int) hE (by omega)
      refine Fn.enter (N := 109) Tryz.func4 rfl (by kernel_rfl) rfl (fun w0 => ?_)
      refine aR (fun Z hZ => ?_)
      refine jA5 rfl rfl rfl (fun g1 => ?_)
      refine sA rfl rfl <| sN (hZ _ _ ?_)
      refine aF [(1, _), (2, _)] (Kn.cons rfl (Kn.cons rfl (Kn.nil))) ?_
      refine aR (fun Z hZ => ?_)
      first | refine sLA 0 rfl rfl tyA43 tyS43 (by simp only [Nat.zero_add]; rfl) (by simp only [List.take_succ_cons, List.take_zero, List.drop_zero, Value.cells]; rfl) rfl ?_
      refine sAl tyZ44 rfl (fun g2 => ?_)
      refine sS 0 rfl rfl rfl tyS44 (by simp only [Value.cells]; rfl) rfl rfl (by simp only [List.length_cons, List.length_nil, Nat.reduceAdd, Nat.zero_add]; rfl) (by simp only [List.take_zero, List.drop_succ_cons, List.drop_zero, List.nil_append, List.append_nil, List.length_cons, List.length_nil, Nat.reduceAdd, Nat.zero_add, wrV]; rfl) (by simp only [List.set_cons_zero]; rfl) ?_
      refine sN (hZ _ _ ?_)
      refine aF [(1, _), (2, _), (5, _)] (Kn.cons rfl (Kn.cons rfl (Kn.cons rfl (Kn.nil)))) ?_
      refine aR fun Z hZ => sM rfl rfl ?_
      refine jA6 Tryz.underlying5 Tryz.underlying3 rfl ((deep : Nat) : Int) (IntWalk.i64_in _ (by omega)) rfl ?_
      refine sx_rem rfl rfl (by decide) ((n : Nat) : Int) (by rw [Int.tmod_eq_emod_of_nonneg (by omega)]; omega) rfl ?_
      refine sA rfl rfl <| sN (hZ _ _ ?_)
      refine aF [(2, _), (5, _), (6, _)] (Kn.cons rfl (Kn.cons rfl (Kn.cons rfl (Kn.nil)))) ?_
      refine aR (fun Z hZ => ?_)
      refine sLA 0 rfl rfl tyA44 tyS44 (by simp only [List.length_cons, List.length_nil, Nat.reduceAdd, Nat.zero_add]; rfl) (by simp only [List.take_succ_cons, List.take_zero, List.drop_zero]; rfl) rfl ?_
      refine sFA rfl tyF43_0 (by simp only [Nat.add_zero]; rfl) rfl ?_
      refine sL 1 rfl rfl tyA3 tyS3 rfl rfl ?_
      refine sM rfl rfl ?_
      refine jA7 rfl rfl ((zz + n : Nat) : Int) (by rw [IntWalk.i64_in _ (by omega)]; omega) rfl ?_
      refine sCP hr rfl rfl ?_
      refine sM rfl rfl <| sX rfl rfl rfl <| sX rfl rfl rfl <| sX rfl rfl rfl <| sA rfl rfl <| sA rfl rfl <| sA rfl rfl <| sN (hZ _ _ ?_)
      refine aF [(2, _), (6, _), (7, _), (8, _), (9, _)] (Kn.cons rfl (Kn.cons rfl (Kn.cons rfl (Kn.cons rfl (Kn.cons rfl (Kn.nil)))))) ?_
      refine aS ?_
      refine aR fun Z hZ => sM rfl rfl ?_
      refine jC9 rfl rfl rfl ?_
      refine sN (hZ _ _ ?_)
      refine aF [(2, _), (6, _), (7, _), (8, _), (9, _), (28, _)] (Kn.cons rfl (Kn.cons rfl (Kn.cons rfl (Kn.cons rfl (Kn.cons rfl (Kn.cons rfl (Kn.nil))))))) ?_
      refine aC rfl (fun h => ?_) (fun h => ?_)
      · refine jA1 [(4, .bool true)] [] (fun Z hZ => ?_) ?_
        · refine sM rfl rfl ?_
          refine jD7 rfl rfl rfl ?_
          refine sM rfl rfl ?_
          refine sx_force 31 rfl true (by simp) ?_
          refine sO rfl rfl rfl rfl rfl ?_
          refine sO rfl rfl rfl rfl rfl ?_
          refine sP rfl rfl rfl <| sM rfl rfl ?_
          refine sOn rfl rfl rfl ?_
          refine sCP tawake_fn rfl rfl ?_
          refine sP rfl rfl rfl <| sA rfl rfl ?_
          refine sN (hZ _ _ ?_ ?_)
          · exact Kn.cons rfl Kn.nil
          · exact HLe.sub (List.nil_sublist _)
        refine aE ?_
        repeat (with_reducible refine nTR ?_)
        exact nR1 rfl rfl rfl
      · cases h
  · have hr := tRange_e1 z x y (IntKind.i64.wrap (z + (n : Nat))) hE
    have hw := place_3 z x y
    refine Fn.enter (N := 109) Tryz.func4 rfl (by kernel_rfl) rfl (fun w0 => ?_)
    refine aR (fun Z hZ => ?_)
    refine jA5 rfl rfl rfl (fun g1 => ?_)
    refine sA rfl rfl <| sN (hZ _ _ ?_)
    refine aF [(1, _), (2, _)] (Kn.cons rfl (Kn.cons rfl (Kn.nil))) ?_
    refine aR (fun Z hZ => ?_)
    first | refine sLA 0 rfl rfl tyA43 tyS43 (by simp only [Nat.zero_add]; rfl) (by simp only [List.take_succ_cons, List.take_zero, List.drop_zero, Value.cells]; rfl) rfl ?_
    refine sAl tyZ44 rfl (fun g2 => ?_)
    refine sS 0 rfl rfl rfl tyS44 (by simp only [Value.cells]; rfl) rfl rfl (by simp only [List.length_cons, List.length_nil, Nat.reduceAdd, Nat.zero_add]; rfl) (by simp only [List.take_zero, List.drop_succ_cons, List.drop_zero, List.nil_append, List.append_nil, List.length_cons, List.length_nil, Nat.reduceAdd, Nat.zero_add, wrV]; rfl) (by simp only [List.set_cons_zero]; rfl) ?_
    refine sN (hZ _ _ ?_)
    refine aF [(1, _), (2, _), (5, _)] (Kn.cons rfl (Kn.cons rfl (Kn.cons rfl (Kn.nil)))) ?_
    refine aR fun Z hZ => sM rfl rfl ?_
    refine jA6 Tryz.underlying5 Tryz.underlying3 rfl ((deep : Nat) : Int) (IntWalk.i64_in _ (by omega)) rfl ?_
    refine sx_rem rfl rfl (by decide) ((n : Nat) : Int) (by rw [Int.tmod_eq_emod_of_nonneg (by omega)]; omega) rfl ?_
    refine sA rfl rfl <| sN (hZ _ _ ?_)
    refine aF [(2, _), (5, _), (6, _)] (Kn.cons rfl (Kn.cons rfl (Kn.cons rfl (Kn.nil)))) ?_
    refine aR (fun Z hZ => ?_)
    refine sLA 0 rfl rfl tyA44 tyS44 (by simp only [List.length_cons, List.length_nil, Nat.reduceAdd, Nat.zero_add]; rfl) (by simp only [List.take_succ_cons, List.take_zero, List.drop_zero]; rfl) rfl ?_
    refine sFA rfl tyF43_0 (by simp only [Nat.add_zero]; rfl) rfl ?_
    refine sL 1 rfl rfl tyA3 tyS3 rfl rfl ?_
    refine sM rfl rfl ?_
    refine jA7 rfl rfl _ rfl rfl ?_
    refine sCP hr rfl rfl ?_
    refine sM rfl rfl <| sX rfl rfl rfl <| sX rfl rfl rfl <| sX rfl rfl rfl <| sA rfl rfl <| sA rfl rfl <| sA rfl rfl <| sN (hZ _ _ ?_)
    refine aF [(2, _), (6, _), (7, _), (8, _), (9, _)] (Kn.cons rfl (Kn.cons rfl (Kn.cons rfl (Kn.cons rfl (Kn.cons rfl (Kn.nil)))))) ?_
    refine aS ?_
    refine aR fun Z hZ => sM rfl rfl ?_
    refine jC9 rfl rfl rfl ?_
    refine sN (hZ _ _ ?_)
    refine aF [(2, _), (6, _), (7, _), (8, _), (9, _), (28, _)] (Kn.cons rfl (Kn.cons rfl (Kn.cons rfl (Kn.cons rfl (Kn.cons rfl (Kn.cons rfl (Kn.nil))))))) ?_
    refine aC rfl (fun h => ?_) (fun h => ?_)
    · refine jA1 [(4, .bool true)] [] (fun Z hZ => ?_) ?_
      · refine sM rfl rfl ?_
        refine jD7 rfl rfl rfl ?_
        refine sM rfl rfl ?_
        refine jB6 31 rfl (fun hb2 => ?_) (fun hb2 => ?_)
        · refine sO rfl rfl rfl rfl rfl ?_
          refine sO rfl rfl rfl rfl rfl ?_
          refine sP rfl rfl rfl <| sM rfl rfl ?_
          refine sOn rfl rfl rfl ?_
          refine sCP tawake_fn rfl rfl ?_
          refine sP rfl rfl rfl <| sA rfl rfl ?_
          refine sN (hZ _ _ ?_ ?_)
          · exact Kn.cons (congrArg some (congrArg Value.bool (by first | rfl | (simp at *; omega)))) Kn.nil
          · exact HLe.sub (List.nil_sublist _)
        · refine sOn rfl rfl rfl ?_
          refine sM rfl rfl ?_
          refine sOn rfl rfl rfl ?_
          refine jD7 rfl rfl rfl ?_
          refine sP rfl rfl rfl <| sM rfl rfl ?_
          refine jB6 35 rfl (fun hb6 => ?_) (fun hb6 => ?_)
          · refine sOn rfl rfl rfl ?_
            refine sCP tawake_fn rfl rfl ?_
            refine sP rfl rfl rfl <| sA rfl rfl ?_
            refine sN (hZ _ _ ?_ ?_)
            · exact Kn.cons (congrArg some (congrArg Value.bool (by first | rfl | (simp at *; omega)))) Kn.nil
            · exact HLe.sub (List.nil_sublist _)
          · refine sO rfl rfl rfl rfl rfl ?_
            refine sP rfl rfl rfl <| sA rfl rfl ?_
            refine sN (hZ _ _ ?_ ?_)
            · exact Kn.cons (congrArg some (congrArg Value.bool (by first | rfl | (simp at *; omega)))) Kn.nil
            · exact HLe.sub (List.nil_sublist _)
      refine aE ?_
      repeat (with_reducible refine nTR ?_)
      exact nR1 rfl rfl rfl
    · simp at h; omega
theorem leaves_tiT : leaves Tryz.prog 5 43 = some [.int .i64, .int .i64, .int .i64] := by kernel_rfl
theorem TopDescend_read {H : Type} {enc : TypeId × Value → H} (w : World) {base : Nat} {v0 v1 : Value} {d0 d1 : DataW H} {p0 p1 : List MemPlace}
    (k0 : Value.okWide Tryz.prog w .any base 43 v0) (h0 : DataW.Trod enc Tryz.prog w 0 (fun _ => true) true 43 v0 d0 p0)
    (k1 : Value.okWide Tryz.prog w .any base 5 v1) (h1 : DataW.Trod enc Tryz.prog w 0 (fun _ => true) true 5 v1 d1 p1) :
    Calls Tryz.prog 4 #[v0, v1] w fun e w' => e = .returned (.bool true) ∧ Bel w w' := by
  obtain ⟨cs, rfl, b⟩ := open_struct 5 Tryz.underlying43 leaves_tiT k0 h0
  obtain ⟨t1, e1, rfl, _, b1⟩ := alike_i64 b
  obtain ⟨t2, e2, rfl, _, b2⟩ := alike_i64 b1
  obtain ⟨t3, e3, rfl, _, b3⟩ := alike_i64 b2
  cases b3
  obtain ⟨m, rfl, _, _, hm⟩ := ChangeShapes.open_int Tryz.underlying5 k1 h1
  have hm' : 0 ≤ m ∧ m ≤ 255 := by simpa [Lit.wf, IntKind.min, IntKind.max, IntKind.signed, IntKind.bits] using hm
  obtain ⟨n, rfl⟩ : ∃ n : Nat, m = n := ⟨m.toNat, by omega⟩
  exact Fn.bel (descend_fn t1 t2 t3 n (by omega)) w
namespace topDescend
open Go.ChangeShapes Go.WideShapes Go.ChangeAt Go.RowKit
theorem own : ownKnob Tryz.prog.godebug = none := by kernel_rfl
theorem laidOut : laidOutB Tryz.prog = true := by kernel_rfl
set_option maxRecDepth 100000 in
theorem lifted (os : Os) (started : os.Started) (H : Type) (enc : TypeId × Value → H) :
    ReturnsInHanded {} Tryz.checked os 4 .any (fun w args => (Rows.topDescendSpec.pre enc Tryz.prog Tryz.f4 [] false w args ∧ laidMetH Tryz.prog Rows.topDescendRow.laid w) ∧ sizedMet enc Tryz.prog Tryz.f4 (OpenSpec.ofChange Rows.topDescendSpec) false w args)
      (Rows.topDescendSpec.post enc Tryz.prog Tryz.f4 false true false false) := by
  refine returnsInHanded_of_change_and (C := Tryz.checked) (X := fun w _ => laidMetH Tryz.prog Rows.topDescendRow.laid w) (fun _ _ _ hh h => h.of_heap hh) own started (by kernel_rfl) Tryz.func4
    (ChangeSpec.witness_shaped (enc := enc) (C := Tryz.checked) (os := os) (X := fun w _ => laidMetH Tryz.prog Rows.topDescendRow.laid w) false (World.laidAll Tryz.prog os Rows.topDescendRow.laid) #[.agg #[.int .i64 0, .int .i64 0, .int .i64 0], .int .u8 0] 8 (World.laidAll_os _ _ _)
      (World.shaped_of_ZipB (by kernel_rfl) (by kernel_rfl)) (by kernel_rfl) (by kernel_rfl) (by kernel_rfl)
      (by rw [MakeChecks.laidMetH_plain _ _ _ (by kernel_rfl)]; exact laidMet_laidAll _ (by kernel_rfl) (by kernel_rfl))) ?_
  intro W base args ds gs before hval0 hW _ _ hL _
  have hval : ∀ (j : Nat) t v, Tryz.f4.params[j]? = some t → args[j]? = some v → Value.okWide Tryz.prog W .any base t v := hval0
  have hW' := hW
  obtain ⟨p, q, hA0, hV, rfl, hfz, hnd⟩ := hW
  have hA : DataW.TrodAll enc Tryz.prog W 0 (fun _ => true) true Tryz.f4.params.toList args.toList ds p := hA0
  rw [Tryz.params4] at hA hval
  obtain ⟨v0, vs0, d0, ds0, p0, q0, hargs, rfl, rfl, h0, r0⟩ := trodAll_cons hA
  obtain ⟨v1, vs1, d1, ds1, p1, q1, rfl, rfl, rfl, h1, r1⟩ := trodAll_cons r0
  obtain ⟨rfl, rfl, rfl⟩ := trodAll_nil r1
  obtain rfl : args = #[v0, v1] := by cases args; simp_all
  obtain ⟨rfl, rfl⟩ := trodVars_none hV
  have lt0 : ∀ x ∈ p0, x.block < W.heap.size := by obtain ⟨m, hm⟩ := h0; exact DataW.trod_lt m _ _ _ hm
  have lt1 : ∀ x ∈ p1, x.block < W.heap.size := by obtain ⟨m, hm⟩ := h1; exact DataW.trod_lt m _ _ _ hm
  refine (TopDescend_read W (hval 0 43 v0 rfl rfl) h0 (hval 1 5 v1 rfl rfl) h1).mono fun e W' ⟨he, bel0⟩ => ?_
  have bel : Below W.heap.size W W' := bel0
  subst he
  exact ⟨_, rfl, _, _, _, [], _, [], hW', trodAll_mk1 (shut_bool Tryz.underlying4 _), (trodAll_cons_mk (Below.trod laidOut (by kernel_rfl) (of_decide_eq_true (by kernel_rfl)) h0 bel lt0) (trodAll_cons_mk (Below.trod laidOut (by kernel_rfl) (of_decide_eq_true (by kernel_rfl)) h1 bel lt1) trodAll_mk0)), rfl, bel.frame _, fun h => by cases h⟩
theorem over : Rows.topDescendRow.holds Tryz.pinned (OpenSpec.ofChange Rows.topDescendSpec) :=
  OpenClaim.holds_of_wide 4 Tryz.f4 rfl rfl rfl rfl rfl rfl rfl ⟨rfl, rfl, rfl, rfl, rfl⟩ rfl rfl rfl rfl rfl (by kernel_rfl) Tryz.func4 (by kernel_rfl)
    (of_decide_eq_true (by kernel_rfl)) (by unfold Func.isWrapper; first | (rw [if_pos (by decide +kernel)]; kernel_rfl) | (rw [if_neg (by decide +kernel)]; exact ⟨rfl, rfl⟩))
    (fun os started H enc _ => lifted os started H enc)
theorem proved : Rows.TopDescendCardSaid :=
  Claim7.holds_tied_plain_at .later [] [.data, .data, .data, .data, .sentinel, .sentinel, .pinned] true (true, "f734b2585bb2c688d76b7159ae58455cf1d6421c88760c03f332d604594a78e2") true over (fun _ h => by cases h) (by kernel_rfl) (fun _ h => by cases h) topDescend_row_tie rfl ⟨rfl, rfl⟩ (by kernel_rfl) rfl
    (fun f fn hf hfn => by
      obtain rfl : f = 4 := Option.some.inj ((show Tryz.prog.funcNamed "gazetteer/gazetteertop.TopDescend" = some 4 by kernel_rfl).symm.trans hf) |>.symm
      obtain rfl : fn = Tryz.f4 := (Option.some.inj (Tryz.func4.symm.trans hfn)).symm
      exact ⟨by kernel_rfl, fun j t ht => by
        rw [Tryz.params4] at ht
        have hm : t ∈ [43, 5] := by simpa using Array.mem_of_getElem? ht
        have hall : ([43, 5].all fun u => !Tryz.prog.wantsStandIn u) = true := by kernel_rfl
        exact (show Tryz.prog.wantsStandIn t = false by simpa using List.all_eq_true.1 hall t hm)⟩)
    (by kernel_rfl)
#print axioms proved
end topDescend
end Go.Proofs.YtkojkeabelckjaaGreatDoor
