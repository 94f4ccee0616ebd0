/- Walks and plain laws for this claim (texts Gcu2, Cw3, Kv4, joined). Each theorem states its own conditions. -/
import Derived.Test.YtkojkeabelckjaaGreatDoorJ26
import Derived.Test.YtkojkeabelckjaaGreatDoorJ28
import Derived.Test.YtkojkeabelckjaaGreatDoorJ27

set_option linter.all false
namespace Go.Proofs.YtkojkeabelckjaaGreatDoor
open Go.RowKit
set_option maxRecDepth 100000
abbrev Ti.cells (z : Nat) (p : Nat × Nat) : List Value := tcells z p.1 p.2
abbrev tlc (z : Nat) (L : List (Nat × Nat)) : List Value := L.flatMap (Ti.cells z)
theorem ti_len (z : Nat) (p : Nat × Nat) : (Ti.cells z p).length = 3 := rfl
theorem tlc_len (z : Nat) (L : List (Nat × Nat)) : (tlc z L).length = L.length * 3 := fm_len (ti_len z) L
theorem tlc_all {z : Nat} {L : List (Nat × Nat)} {i : Nat} {x : Nat × Nat} (h : L[i]? = some x) : rdV true 3 (tlc z L) (i * 3) = some (tval z x.1 x.2) := fm_rd (ti_len z) h
theorem tlc_app (z : Nat) (a b : List (Nat × Nat)) : tlc z (a ++ b) = tlc z a ++ tlc z b := List.flatMap_append
end Go.Proofs.YtkojkeabelckjaaGreatDoor
namespace Go.Proofs.YtkojkeabelckjaaGreatDoor
open Go.RowKit
structure Tgts (z : Nat) (L : List (Nat × Nat)) (R : Nat → Prop) : Prop where
  zo : z ≤ 26
  ok : ∀ p ∈ L, p.1 < 2 ^ z ∧ p.2 < 2 ^ z
  len : L.length ≤ 4
  is_ : ∀ k, (∃ p ∈ L, jB8 z + hp z p.1 p.2 = k) ↔ R k
end Go.Proofs.YtkojkeabelckjaaGreatDoor
namespace Go.Proofs.YtkojkeabelckjaaGreatDoor
open Go.RowKit
set_option maxRecDepth 100000
theorem tID_fn (z x y : Int) : Fn Tryz.prog 31 [tval z x y] [] fun v _ => v = .tuple #[uq (idV z x y), iq (jH8 z x y)] := by
  have hpl := cPlace_fn z x y
  rcases place_ways z x y with h | ⟨n, rfl, hn, h⟩ | ⟨n, a, b, rfl, rfl, rfl, hn, ha, hb⟩
  · obtain ⟨e, _⟩ := place_e2 h x y
    rw [id_no (by rw [e]; decide)]
    rw [e] at hpl ⊢
    refine Fn.enter (N := 24) Tryz.func31 rfl (by kernel_rfl) rfl (fun w0 => ?_)
    refine aR (fun Z hZ => ?_)
    refine jA5 rfl rfl rfl (fun g1 => ?_)
    refine sA rfl rfl <| sA rfl rfl <| sN (hZ _ _ ?_)
    refine aF [(1, _)] (Kn.cons rfl (Kn.nil)) ?_
    refine aR (fun Z hZ => ?_)
    refine sFA rfl tyF44_0 (by simp only [Nat.add_zero]; rfl) rfl ?_
    first | refine sL 0 rfl rfl tyA3 tyS3 rfl rfl ?_
    refine sFA rfl tyF44_1 (by simp only [Nat.zero_add]; rfl) rfl ?_
    first | refine sL 0 rfl rfl tyA3 tyS3 rfl rfl ?_
    refine sFA rfl tyF44_2 (by simp only [Nat.zero_add]; rfl) rfl ?_
    first | refine sL 0 rfl rfl tyA3 tyS3 rfl rfl ?_
    refine sCP (hpl) rfl rfl ?_
    refine sM rfl rfl <| sX rfl rfl rfl <| sX rfl rfl rfl <| sA rfl rfl <| sA rfl rfl <| sN (hZ _ _ ?_)
    refine aF [(1, _), (4, _), (5, _)] (Kn.cons rfl (Kn.cons rfl (Kn.cons rfl (Kn.nil)))) ?_
    refine aS ?_
    refine aR fun Z hZ => sM rfl rfl ?_
    refine jC9 rfl rfl rfl ?_
    refine sN (hZ _ _ ?_)
    refine aF [(1, _), (4, _), (5, _), (17, _)] (Kn.cons rfl (Kn.cons rfl (Kn.cons rfl (Kn.cons rfl (Kn.nil))))) ?_
    refine aC rfl (fun h1 => ?_) (fun h1 => ?_)
    · refine aR (fun Z hZ => ?_)
      refine sM rfl rfl <| sA rfl rfl <| sA rfl rfl <| sN (hZ _ _ ?_)
      refine aF [(2, _), (3, _)] (Kn.cons rfl (Kn.cons rfl (Kn.nil))) ?_
      refine aE ?_
      repeat (with_reducible refine nTR ?_)
      exact jE1 rfl rfl rfl rfl
    cases h1
  · obtain ⟨e, _⟩ := place_e8 hn h
    rw [id_no (by rw [e]; decide)]
    rw [e] at hpl ⊢
    refine Fn.enter (N := 24) Tryz.func31 rfl (by kernel_rfl) rfl (fun w0 => ?_)
    refine aR (fun Z hZ => ?_)
    refine jA5 rfl rfl rfl (fun g1 => ?_)
    refine sA rfl rfl <| sA rfl rfl <| sN (hZ _ _ ?_)
    refine aF [(1, _)] (Kn.cons rfl (Kn.nil)) ?_
    refine aR (fun Z hZ => ?_)
    refine sFA rfl tyF44_0 (by simp only [Nat.add_zero]; rfl) rfl ?_
    first | refine sL 0 rfl rfl tyA3 tyS3 rfl rfl ?_
    refine sFA rfl tyF44_1 (by simp only [Nat.zero_add]; rfl) rfl ?_
    first | refine sL 0 rfl rfl tyA3 tyS3 rfl rfl ?_
    refine sFA rfl tyF44_2 (by simp only [Nat.zero_add]; rfl) rfl ?_
    first | refine sL 0 rfl rfl tyA3 tyS3 rfl rfl ?_
    refine sCP (hpl) rfl rfl ?_
    refine sM rfl rfl <| sX rfl rfl rfl <| sX rfl rfl rfl <| sA rfl rfl <| sA rfl rfl <| sN (hZ _ _ ?_)
    refine aF [(1, _), (4, _), (5, _)] (Kn.cons rfl (Kn.cons rfl (Kn.cons rfl (Kn.nil)))) ?_
    refine aS ?_
    refine aR fun Z hZ => sM rfl rfl ?_
    refine jC9 rfl rfl rfl ?_
    refine sN (hZ _ _ ?_)
    refine aF [(1, _), (4, _), (5, _), (17, _)] (Kn.cons rfl (Kn.cons rfl (Kn.cons rfl (Kn.cons rfl (Kn.nil))))) ?_
    refine aC rfl (fun h1 => ?_) (fun h1 => ?_)
    · refine aR (fun Z hZ => ?_)
      refine sM rfl rfl <| sA rfl rfl <| sA rfl rfl <| sN (hZ _ _ ?_)
      refine aF [(2, _), (3, _)] (Kn.cons rfl (Kn.cons rfl (Kn.nil))) ?_
      refine aE ?_
      repeat (with_reducible refine nTR ?_)
      exact jE1 rfl rfl rfl rfl
    cases h1
  · obtain ⟨e, ev⟩ := place_e0 hn ha hb
    have hlt := id_lt hn ha hb
    have hbs := tbase_fn n (by omega)
    rw [id_0 hn ha hb]
    rw [e, ev] at hpl
    rw [e]
    refine Fn.enter (N := 24) Tryz.func31 rfl (by kernel_rfl) rfl (fun w0 => ?_)
    refine aR (fun Z hZ => ?_)
    refine jA5 rfl rfl rfl (fun g1 => ?_)
    refine sA rfl rfl <| sA rfl rfl <| sN (hZ _ _ ?_)
    refine aF [(1, _)] (Kn.cons rfl (Kn.nil)) ?_
    refine aR (fun Z hZ => ?_)
    refine sFA rfl tyF44_0 (by simp only [Nat.add_zero]; rfl) rfl ?_
    first | refine sL 0 rfl rfl tyA3 tyS3 rfl rfl ?_
    refine sFA rfl tyF44_1 (by simp only [Nat.zero_add]; rfl) rfl ?_
    first | refine sL 0 rfl rfl tyA3 tyS3 rfl rfl ?_
    refine sFA rfl tyF44_2 (by simp only [Nat.zero_add]; rfl) rfl ?_
    first | refine sL 0 rfl rfl tyA3 tyS3 rfl rfl ?_
    refine sCP (hpl) rfl rfl ?_
    refine sM rfl rfl <| sX rfl rfl rfl <| sX rfl rfl rfl <| sA rfl rfl <| sA rfl rfl <| sN (hZ _ _ ?_)
    refine aF [(1, _), (4, _), (5, _)] (Kn.cons rfl (Kn.cons rfl (Kn.cons rfl (Kn.nil)))) ?_
    refine aS ?_
    refine aR fun Z hZ => sM rfl rfl ?_
    refine jC9 rfl rfl rfl ?_
    refine sN (hZ _ _ ?_)
    refine aF [(1, _), (4, _), (5, _), (17, _)] (Kn.cons rfl (Kn.cons rfl (Kn.cons rfl (Kn.cons rfl (Kn.nil))))) ?_
    refine aC rfl (fun h1 => ?_) (fun h1 => ?_)
    · cases h1
    refine aK ?_
    with_reducible refine nN ?_
    refine aR (fun Z hZ => ?_)
    refine sFA rfl tyF44_0 (by simp only [Nat.add_zero]; rfl) rfl ?_
    first | refine sL 0 rfl rfl tyA3 tyS3 rfl rfl ?_
    refine sCP (hbs) rfl rfl ?_
    refine sM rfl rfl ?_
    refine jA7 rfl rfl ((jB8 n + hp n a b : Nat) : Int) (by rw [IntWalk.u64_in _ (by omega)]; omega) rfl ?_
    refine sA rfl rfl <| sA rfl rfl <| sN (hZ _ _ ?_)
    refine aF [(2, _), (3, _)] (Kn.cons rfl (Kn.cons rfl (Kn.nil))) ?_
    refine aE ?_
    exact jE1 rfl rfl rfl rfl
theorem tOf_fn (n d : Nat) (hn : n ≤ 26) (hd : d < 4 ^ n) : Fn Tryz.prog 120 [uq (jB8 n + d)] [] fun v _ => v = .tuple #[tval (n : Nat) ((pt n d).1 : Nat) ((pt n d).2 : Nat), iq (0 : Int)] := by
  have hk := base4_lt hn hd
  have hz := zoom_fn (jB8 n + d) (by omega)
  have hzq : zoomQ (jB8 n + d) = (n : Int) := by
    obtain ⟨_, h2, _⟩ := zN_ex hk
    rw [h2, zN_is hn hd]
  rw [hzq] at hz
  have hbs := tbase_fn n (by omega)
  have hpt := cPoint_fn n d hn hd
  obtain ⟨b, hb⟩ : ∃ b, jB8 n = b := ⟨_, rfl⟩
  rw [hb] at hk hz hbs ⊢
  refine Fn.enter (N := 28) Tryz.func120 rfl (by kernel_rfl) rfl (fun w0 => ?_)
  refine aR (fun Z hZ => ?_)
  refine sAl tyZ44 rfl (fun g1 => ?_)
  refine sA rfl rfl <| sN (hZ _ _ ?_)
  refine aF [(0, _), (2, _)] (Kn.cons rfl (Kn.cons rfl (Kn.nil))) ?_
  refine aR fun Z hZ => sM rfl rfl ?_
  refine sCP (hz) rfl rfl ?_
  refine sA rfl rfl <| sN (hZ _ _ ?_)
  refine aF [(0, _), (2, _), (4, _)] (Kn.cons rfl (Kn.cons rfl (Kn.cons rfl (Kn.nil)))) ?_
  refine aS ?_
  refine aR fun Z hZ => sM rfl rfl ?_
  refine jC3 rfl rfl rfl ?_
  refine sN (hZ _ _ ?_)
  refine aF [(0, _), (2, _), (4, _), (11, _)] (Kn.cons rfl (Kn.cons rfl (Kn.cons rfl (Kn.cons rfl (Kn.nil))))) ?_
  refine aC rfl (fun h1 => ?_) (fun h1 => ?_)
  · exfalso
    simp at h1
    omega
  refine aK ?_
  with_reducible refine nN ?_
  refine aR fun Z hZ => sM rfl rfl <| sM rfl rfl <| sM rfl rfl ?_
  refine sCP (hbs) rfl rfl ?_
  refine jG4 rfl rfl ((d : Nat) : Int) (by rw [IntWalk.u64_in _ (by omega)]; omega) rfl ?_
  refine sCP (hpt) rfl rfl ?_
  refine sM rfl rfl <| sX rfl rfl rfl <| sX rfl rfl rfl <| sX rfl rfl rfl <| sA rfl rfl <| sA rfl rfl <| sA rfl rfl <| sN (hZ _ _ ?_)
  refine aF [(2, _), (4, _), (5, _), (6, _), (7, _)] (Kn.cons rfl (Kn.cons rfl (Kn.cons rfl (Kn.cons rfl (Kn.cons rfl (Kn.nil)))))) ?_
  refine aR fun Z hZ => sM rfl rfl <| sM rfl rfl <| sM rfl rfl ?_
  refine jB3 tyZ44 tyP44 rfl rfl (by simp only [List.take_succ_cons, List.take_zero, List.drop_succ_cons, List.drop_zero, List.cons_append, List.nil_append, List.append_nil, List.length_cons, List.length_nil, Nat.reduceAdd, Nat.zero_add, Value.cells, wrV]; rfl) rfl ?_
  refine sM rfl rfl ?_
  first | refine sS 0 rfl rfl rfl tyS44 (by simp only [Value.cells]; rfl) rfl rfl rfl (by simp only [List.take_zero, List.drop_succ_cons, List.drop_zero, List.nil_append, List.append_nil, List.length_cons, List.length_nil, Nat.reduceAdd, Nat.zero_add, wrV]; rfl) (by simp only [List.set_cons_zero]; rfl) ?_
  refine sA rfl rfl <| sN (hZ _ _ ?_)
  refine aF [(2, _), (3, _)] (Kn.cons rfl (Kn.cons rfl (Kn.nil))) ?_
  refine aE ?_
  exact jE1 rfl (ResOk.cell 0 rfl rfl tyA44 tyS44 rfl) rfl rfl
end Go.Proofs.YtkojkeabelckjaaGreatDoor
namespace Go.Proofs.YtkojkeabelckjaaGreatDoor
open Go.RowKit
set_option maxRecDepth 100000
theorem tRange_fn (z n a b : Nat) (hz : z + n ≤ 26) (ha : a < 2 ^ z) (hb : b < 2 ^ z) : Fn Tryz.prog 12 [tval (z : Nat) a b, iq (z + n : Nat)] [] fun v _ => v = .tuple #[uq (jB8 (z + n) + hp z a b * 4 ^ n), uq (jB8 (z + n) + hp z a b * 4 ^ n + 4 ^ n - 1), iq (0 : Int)] := by
  have hid := tID_fn (z : Nat) a b
  rw [(place_e0 (by omega) ha hb).1, id_0 (by omega) ha hb] at hid
  have hhl := hp_lt z a b ha hb
  have hlt := id_lt (show z ≤ 26 by omega) ha hb
  have hb1 := tbase_fn z (by omega)
  have hb2 := tbase_fn (z + n) (by omega)
  have hbn : jB8 (z + n + 1) ≤ jB8 27 := base4_mono (by omega)
  rw [base4_27, show jB8 (z + n + 1) = jB8 (z + n) + 4 ^ (z + n) from rfl, Nat.pow_add] at hbn
  have hml : hp z a b * 4 ^ n + 4 ^ n ≤ 4 ^ z * 4 ^ n := by
    rw [← Nat.succ_mul]
    exact Nat.mul_le_mul_right _ hhl
  have hq0 := pow4_pos n
  have hs1 := shl_at .u64 (hp z a b) (2 * n) rfl (by omega) (fun x hx => IntWalk.u64_in _ (by rw [four_two] at hx; omega))
  have hs2 := shl_at .u64 1 (2 * n) rfl (by omega) (fun x hx => IntWalk.u64_in _ (by rw [four_two, Nat.one_mul] at hx; omega))
  rw [four_two] at hs1 hs2
  rw [Nat.one_mul] at hs2
  obtain ⟨h, hh⟩ : ∃ x, hp z a b = x := ⟨_, rfl⟩
  rw [hh] at hid hhl hlt hml hs1 ⊢
  obtain ⟨m, hm⟩ : ∃ x, h * 4 ^ n = x := ⟨_, rfl⟩
  rw [hm] at hml hs1 ⊢
  obtain ⟨q, hq⟩ : ∃ x, 4 ^ n = x := ⟨_, rfl⟩
  rw [hq] at hq0 hs2 hml hbn ⊢
  obtain ⟨B, hB⟩ : ∃ x, jB8 (z + n) = x := ⟨_, rfl⟩
  rw [hB] at hb2 hbn ⊢
  obtain ⟨C, hC⟩ : ∃ x, jB8 z = x := ⟨_, rfl⟩
  rw [hC] at hb1 hid hlt
  refine Fn.enter (N := 50) Tryz.func12 rfl (by kernel_rfl) rfl (fun w0 => ?_)
  refine aR (fun Z hZ => ?_)
  refine jA5 rfl rfl rfl (fun g1 => ?_)
  refine sA rfl rfl <| sA rfl rfl <| sA rfl rfl <| sN (hZ _ _ ?_)
  refine aF [(1, _), (2, _)] (Kn.cons rfl (Kn.cons rfl (Kn.nil))) ?_
  refine aR (fun Z hZ => ?_)
  first | refine sLA 0 rfl rfl tyA44 tyS44 rfl (by simp only [List.take_succ_cons, List.take_zero, List.drop_zero, Value.cells]; rfl) rfl ?_
  refine sCP (hid) rfl rfl ?_
  refine sM rfl rfl <| sX rfl rfl rfl <| sX rfl rfl rfl <| sA rfl rfl <| sA rfl rfl <| sN (hZ _ _ ?_)
  refine aF [(1, _), (2, _), (7, _), (8, _)] (Kn.cons rfl (Kn.cons rfl (Kn.cons rfl (Kn.cons rfl (Kn.nil))))) ?_
  refine aS (aB ?_)
  refine aR fun Z hZ => sM rfl rfl ?_
  refine jC9 rfl rfl rfl ?_
  refine sA rfl rfl <| sN (hZ _ _ ?_)
  refine aF [(1, _), (2, _), (7, _), (8, _), (16, _)] (Kn.cons rfl (Kn.cons rfl (Kn.cons rfl (Kn.cons rfl (Kn.cons rfl (Kn.nil)))))) ?_
  refine aC rfl (fun h1 => ?_) (fun h1 => ?_)
  · cases h1
  refine jA1 [(1, iq (z + n : Nat)), (2, ptr g1 0), (7, uq (C + h)), (20, .bool false)] [.own g1 44 (tcells (z : Nat) a b)] (fun Z hZ => ?_) ?_
  · refine sM rfl rfl ?_
    refine sFA rfl tyF44_0 (by simp only [Nat.add_zero]; rfl) rfl ?_
    first | refine sL 0 rfl rfl tyA3 tyS3 rfl rfl ?_
    refine jC3 rfl rfl rfl ?_
    refine sM rfl rfl ?_
    refine jB6 25 rfl (fun hb4 => ?_) (fun hb4 => ?_)
    · refine sO rfl rfl rfl rfl rfl ?_
      refine sO rfl rfl rfl rfl rfl ?_
      refine sP rfl rfl rfl <| sA rfl rfl ?_
      refine sN (hZ _ _ ?_ ?_)
      · exact Kn.cons rfl (Kn.cons rfl (Kn.cons rfl (Kn.cons (congrArg some (congrArg Value.bool (by first | rfl | (simp at *; done) | (simp at *; omega)))) Kn.nil)))
      · exact HLe.refl _
    · refine sOn rfl rfl rfl ?_
      refine sM rfl rfl ?_
      refine sOn rfl rfl rfl ?_
      refine jE3 rfl rfl rfl ?_
      refine sP rfl rfl rfl <| sA rfl rfl ?_
      refine sN (hZ _ _ ?_ ?_)
      · exact Kn.cons rfl (Kn.cons rfl (Kn.cons rfl (Kn.cons (congrArg some (congrArg Value.bool (by first | rfl | (simp at *; done) | (simp at *; omega)))) Kn.nil)))
      · exact HLe.refl _
  refine aC rfl (fun h2 => ?_) (fun h2 => ?_)
  · cases h2
  refine aK ?_
  repeat (with_reducible refine nBN ?_)
  with_reducible refine nN ?_
  refine aR fun Z hZ => sM rfl rfl ?_
  refine sFA rfl tyF44_0 (by simp only [Nat.add_zero]; rfl) rfl ?_
  first | refine sL 0 rfl rfl tyA3 tyS3 rfl rfl ?_
  refine jG4 rfl rfl ((n : Nat) : Int) (by rw [IntWalk.i64_in _ (by omega)]; omega) rfl ?_
  refine sx_mul rfl rfl ((2 * n : Nat) : Int) (by rw [IntWalk.i64_in _ (by omega)]; omega) rfl ?_
  refine sA rfl rfl <| sN (hZ _ _ ?_)
  refine aF [(1, _), (2, _), (7, _), (9, _)] (Kn.cons rfl (Kn.cons rfl (Kn.cons rfl (Kn.cons rfl (Kn.nil))))) ?_
  refine jC1 mixed (by kernel_rfl) (fun Z hZ => ?_)
  refine qM rfl rfl ?_
  refine jH7 (hb2) rfl rfl ?_
  refine qM rfl rfl ?_
  refine qFA rfl tyF44_0 (by simp only [Nat.add_zero]; rfl) rfl ?_
  first | refine jA2 0 rfl rfl tyA3 tyS3 rfl rfl ?_
  refine jH7 (hb1) rfl rfl ?_
  refine sq_sub rfl rfl ((h : Nat) : Int) (by rw [IntWalk.u64_in _ (by omega)]; omega) rfl ?_
  refine qM rfl rfl ?_
  refine sq_shl rfl rfl (by omega) ((m : Nat) : Int) hs1 rfl ?_
  refine sq_add rfl rfl ((B + m : Nat) : Int) (by rw [IntWalk.u64_in _ (by omega)]; omega) rfl ?_
  refine jA3 rfl rfl ?_
  refine jD0 (hZ _ _ ?_)
  refine aF [(9, _), (10, _)] (Kn.cons rfl (Kn.cons rfl (Kn.nil))) ?_
  refine jC1 mixed (by kernel_rfl) (fun Z hZ => ?_)
  refine qM rfl rfl ?_
  refine qM rfl rfl ?_
  refine qM rfl rfl ?_
  refine sq_shl rfl rfl (by omega) ((q : Nat) : Int) (by exact hs2) rfl ?_
  refine sq_add rfl rfl ((B + m + q : Nat) : Int) (by rw [IntWalk.u64_in _ (by omega)]; omega) rfl ?_
  refine sq_sub rfl rfl ((B + m + q - 1 : Nat) : Int) (by rw [IntWalk.u64_in _ (by omega)]; omega) rfl ?_
  refine jA3 rfl rfl ?_
  refine jA3 rfl rfl ?_
  refine jA3 rfl rfl ?_
  refine jD0 (hZ _ _ ?_)
  refine aF [(4, _), (5, _), (6, _)] (Kn.cons rfl (Kn.cons rfl (Kn.cons rfl (Kn.nil)))) ?_
  refine aE ?_
  exact nx_ret3 rfl rfl rfl rfl rfl
theorem elemTT : ElemOk Tryz.prog 168 44 3 24 := ElemOk.mk_ (z := .agg #[iq 0, iq 0, iq 0]) Tryz.underlying168 (by kernel_rfl) rfl (by omega)
def ptsL (z d n : Nat) : List (Nat × Nat) := (List.range n).map fun j => pt z (d + j)
theorem ptsL_succ (z d n : Nat) : ptsL z d (n + 1) = ptsL z d n ++ [pt z (d + n)] := by
  unfold ptsL
  rw [List.range_succ, List.map_append]
  rfl
theorem ptsL_len (z d n : Nat) : (ptsL z d n).length = n := by rw [ptsL, List.length_map, List.length_range]
theorem tDown_fn (z a b : Nat) (hz : z + 1 ≤ 26) (ha : a < 2 ^ z) (hb : b < 2 ^ z) : Fn Tryz.prog 79 [tval (z : Nat) a b] [] fun v H' => ∃ u, v = .tuple #[u, iq (0 : Int)] ∧ RowOk u 4 ∧ H' = rowE u 44 3 (tlc (z + 1) (ptsL (z + 1) (4 * hp z a b) 4)) := by
  have hr := tRange_fn z 1 a b hz ha hb
  have hhl := hp_lt z a b ha hb
  rw [Nat.pow_one] at hr
  obtain ⟨h, hh⟩ : ∃ x, hp z a b = x := ⟨_, rfl⟩
  rw [hh] at hr hhl ⊢
  have hbl := base4_lt hz (show 4 * h + 3 < 4 ^ (z + 1) by rw [Nat.pow_succ]; omega)
  have e1 : jB8 (z + 1) + h * 4 = jB8 (z + 1) + 4 * h := by omega
  have e2 : jB8 (z + 1) + h * 4 + 4 - 1 = jB8 (z + 1) + (4 * h + 3) := by omega
  rw [e2, e1] at hr
  refine Fn.enter (N := 48) Tryz.func79 rfl (by kernel_rfl) rfl (fun w0 => ?_)
  refine aR (fun Z hZ => ?_)
  refine jA5 rfl rfl rfl (fun g1 => ?_)
  refine sA rfl rfl <| sA rfl rfl <| sN (hZ _ _ ?_)
  refine aF [(1, _)] (Kn.cons rfl (Kn.nil)) ?_
  refine aR (fun Z hZ => ?_)
  first | refine sLA 0 rfl rfl tyA44 tyS44 rfl (by simp only [List.take_succ_cons, List.take_zero, List.drop_zero, Value.cells]; rfl) rfl ?_
  refine sFA rfl tyF44_0 (by simp only [Nat.add_zero]; rfl) rfl ?_
  first | refine sL 0 rfl rfl tyA3 tyS3 rfl rfl ?_
  refine jA7 rfl rfl ((z + 1 : Nat) : Int) (by rw [IntWalk.i64_in _ (by omega)]; omega) rfl ?_
  refine sCP (hr) rfl rfl ?_
  refine sM rfl rfl <| sX rfl rfl rfl <| sX rfl rfl rfl <| sX rfl rfl rfl <| sA rfl rfl <| sA rfl rfl <| sA rfl rfl <| sN (hZ _ _ ?_)
  refine aF [(1, _), (4, _), (5, _), (6, _)] (Kn.cons rfl (Kn.cons rfl (Kn.cons rfl (Kn.cons rfl (Kn.nil))))) ?_
  refine aS ?_
  refine aR fun Z hZ => sM rfl rfl ?_
  refine jC9 rfl rfl rfl ?_
  refine sN (hZ _ _ ?_)
  refine aF [(1, _), (4, _), (5, _), (6, _), (23, _)] (Kn.cons rfl (Kn.cons rfl (Kn.cons rfl (Kn.cons rfl (Kn.cons rfl (Kn.nil)))))) ?_
  refine aC rfl (fun h1 => ?_) (fun h1 => ?_)
  · cases h1
  refine aK ?_
  with_reducible refine nN ?_
  refine aR fun Z hZ => sA rfl rfl <| sN (hZ _ _ ?_)
  refine aF [(4, _), (5, _), (9, _)] (Kn.cons rfl (Kn.cons rfl (Kn.cons rfl (Kn.nil)))) ?_
  refine aS ?_
  refine aR fun Z hZ => sM rfl rfl <| sA rfl rfl <| sN (hZ _ _ ?_)
  refine aF [(5, _), (9, _), (10, _)] (Kn.cons rfl (Kn.cons rfl (Kn.cons rfl (Kn.nil)))) ?_
  refine aB ?_
  refine jC2 (ι := Value × Nat) (fun s => [(5, uq (jB8 (z + 1) + (4 * h + 3))), (9, s.1), (10, uq (jB8 (z + 1) + (4 * h + s.2)))]) (fun s => rowE s.1 44 3 (tlc (z + 1) (ptsL (z + 1) (4 * h) s.2))) (fun s => s.2 ≤ 4 ∧ RowOk s.1 s.2) (fun s => 4 - s.2) (.slice none 0 0, 0) ⟨Nat.zero_le _, RowOk.nil⟩ (Kn.cons rfl (Kn.cons rfl (Kn.cons rfl Kn.nil))) (HLe.sub (List.nil_sublist _)) ?_
  rintro ⟨u, j⟩ ⟨hj, hu⟩
  replace hj : j ≤ 4 := hj
  replace hu : RowOk u j := hu
  refine aF [(5, uq (jB8 (z + 1) + (4 * h + 3))), (9, u), (10, uq (jB8 (z + 1) + (4 * h + j)))] (Kn.cons rfl (Kn.cons rfl (Kn.cons rfl Kn.nil))) ?_
  refine jB5 (rowE u 44 3 (tlc (z + 1) (ptsL (z + 1) (4 * h) j))) (HLe.refl _) ?_
  refine aS ?_
  refine aR fun Z hZ => sM rfl rfl <| sM rfl rfl ?_
  refine sx_leq rfl rfl rfl ?_
  refine sN (hZ _ _ ?_)
  refine aF [(5, _), (9, _), (10, _), (35, _)] (Kn.cons rfl (Kn.cons rfl (Kn.cons rfl (Kn.cons rfl (Kn.nil))))) ?_
  refine aC rfl (fun h9 => ?_) (fun h9 => ?_)
  · have hlt : j < 4 := by simp at h9; omega
    have hof := tOf_fn (z + 1) (4 * h + j) hz (by rw [Nat.pow_succ]; omega)
    obtain ⟨xy, hxy⟩ : ∃ x, pt (z + 1) (4 * h + j) = x := ⟨_, rfl⟩
    obtain ⟨x, y⟩ := xy
    rw [hxy] at hof
    obtain ⟨Au, cu, rfl, hAu⟩ := hu.form
    refine aK ?_
    with_reducible refine nN ?_
    refine aS (aB ?_)
    refine aR fun Z hZ => sM rfl rfl ?_
    refine sCP (hof) rfl rfl ?_
    refine sM rfl rfl <| sX rfl rfl rfl <| sX rfl rfl rfl ?_
    refine sAl tyZ44 rfl (fun g2 => ?_)
    first | refine sS 0 rfl rfl rfl tyS44 (by simp only [Value.cells]; rfl) rfl rfl rfl (by simp only [List.take_zero, List.drop_succ_cons, List.drop_zero, List.nil_append, List.append_nil, List.length_cons, List.length_nil, Nat.reduceAdd, Nat.zero_add, wrV]; rfl) (by simp only [List.set_cons_zero]; rfl) ?_
    refine sA rfl rfl <| sN (hZ _ _ ?_)
    refine aF [(5, _), (9, _), (10, _), (11, _)] (Kn.cons rfl (Kn.cons rfl (Kn.cons rfl (Kn.cons rfl (Kn.nil))))) ?_
    refine aG (fun Z hZ => ?_)
    refine sM rfl rfl ?_
    first | refine sLA 0 rfl rfl tyA44 tyS44 rfl (by simp only [List.take_succ_cons, List.take_zero, List.drop_zero]; rfl) rfl ?_
    refine sBS Tryz.underlying168 tyS44 tyZ44 rfl rfl rfl rfl (by simp only [List.take_zero, List.cons_append, List.nil_append, List.length_cons, List.length_nil, Nat.reduceAdd, Nat.zero_add, Value.cells, wrV, Nat.reduceMul, Nat.zero_mul]; rfl) rfl (fun g3 => ?_)
    refine jD8 (m := 1) (n := j) (xs := tlc (z + 1) (ptsL (z + 1) (4 * h) j)) [_, _] elemTT rfl hu (by rw [tlc_len, ptsL_len]) rfl (fun w hw => rd_own (i := 0) (xs := tcells (z + 1 : Nat) x y) rfl rfl hw) rfl (by show j + 1 ≤ 9223372036854775807; omega) (by omega) (HLe.refl _) rfl (fun v2 hv2 => ?_)
    refine sA rfl rfl <| sN (hZ _ _ ?_)
    refine nF [(5, _), (9, _), (10, _)] (Kn.cons rfl (Kn.cons rfl (Kn.cons rfl (Kn.nil)))) ?_
    repeat (with_reducible refine nBN ?_)
    with_reducible refine nN ?_
    refine aG (fun Z hZ => ?_)
    refine sM rfl rfl ?_
    refine jA7 rfl rfl ((jB8 (z + 1) + (4 * h + (j + 1)) : Nat) : Int) (by rw [IntWalk.u64_in _ (by omega)]; omega) rfl ?_
    refine sA rfl rfl <| sN (hZ _ _ ?_)
    refine nF [(5, _), (9, _), (10, _)] (Kn.cons rfl (Kn.cons rfl (Kn.cons rfl (Kn.nil)))) ?_
    refine jB4 (v2, j + 1) ⟨hlt, hv2⟩ (show 4 - (j + 1) < 4 - j by omega) (Kn.cons rfl (Kn.cons rfl (Kn.cons rfl Kn.nil))) ?_
    show HLe (rowE v2 _ 3 (tlc (z + 1) (ptsL (z + 1) (4 * h) (j + 1)))) _
    rw [ptsL_succ, tlc_app, hxy]
    exact HLe.drop 2 rfl
  · refine jA8 ?_
    repeat (with_reducible refine nTE ?_)
    with_reducible refine nBE ?_
    with_reducible refine nN ?_
    obtain rfl : j = 4 := by simp at h9; omega
    refine aR fun Z hZ => sM rfl rfl <| sA rfl rfl <| sA rfl rfl <| sN (hZ _ _ ?_)
    refine aF [(2, _), (3, _)] (Kn.cons rfl (Kn.cons rfl (Kn.nil))) ?_
    refine aE ?_
    exact jD2 _ rfl rfl rfl (HLe.refl _) ⟨u, rfl, hu, rfl⟩
abbrev HW (go gm : Nat) (u : Value) (L : List Sp) (most : Nat) : Heap := .own go 51 [u] :: .own gm 3 [iq (most : Nat)] :: rowE u 55 2 (jG6 L)
theorem hw_flt (go gm : Nat) (u : Value) (L : List Sp) (most : Nat) : (HW go gm u L most).filter Ent.wr = HW go gm u L most := (Wrs.cons rfl (Wrs.cons rfl (rowE_wrs _ _ _ _))).filter
theorem cput_fn (go gm : Nat) (u : Value) (L : List Sp) (s : Sp) (most : Nat) (hu : RowOk u L.length) (hL : L.length ≤ 1000000) (ho : SpsOk (s :: L)) :
    Fn Tryz.prog 34 ([s.val] ++ [ptr go 0, ptr gm 0]) (HW go gm u L most) fun v H' => ∃ u', v = .bool (decide ((jH4 L s).length ≤ most)) ∧ RowOk u' (jH4 L s).length ∧ H' = HW go gm u' (jH4 L s) most := by
  rw [show [s.val] ++ [ptr go 0, ptr gm 0] = [s.val, ptr go 0, ptr gm 0] from rfl]
  refine Fn.enter (N := 12) Tryz.func34 rfl (by kernel_rfl) rfl (fun w0 => ?_)
  refine aR (fun Z hZ => ?_)
  refine jA5 rfl rfl rfl (fun g1 => ?_)
  refine sA rfl rfl <| sN (hZ _ _ ?_)
  refine aF [(1, _), (2, _), (3, _)] (Kn.cons rfl (Kn.cons rfl (Kn.cons rfl (Kn.nil)))) ?_
  refine aR (fun Z hZ => ?_)
  refine sL 1 rfl rfl tyA51 tyS51 rfl rfl ?_
  refine sLA 0 rfl rfl tyA55 tyS55 rfl (by simp only [List.take_succ_cons, List.take_zero, List.drop_zero, Value.cells]; rfl) rfl ?_
  refine jD9 (rowE u 55 2 (jG6 L)) [.own g1 55 s.cells, .own go 51 [u], .own gm 3 [iq (most : Nat)]] (join_fn u L s hu hL ho) rfl (HLe.swap [_, _, _] _) rfl ?_
  rintro v' H' ⟨hv', rfl⟩
  rw [jF8]
  obtain ⟨A, c, rfl, hA⟩ := hv'.form
  refine jE0 (.own g1 55 s.cells :: .own go 51 [u] :: .own gm 3 [iq (most : Nat)] :: rowE (.slice A (jH4 L s).length c) 55 2 (jG6 (jH4 L s))) (HLe.swap _ [_, _, _]) ?_
  refine sS1 1 rfl rfl rfl tyS51 rfl rfl (by simp only [List.set_cons_zero]; rfl) (by simp only [List.set_cons_succ, List.set_cons_zero]; rfl) ?_
  refine sN (hZ _ _ ?_)
  refine aF [(1, _), (2, _)] (Kn.cons rfl (Kn.cons rfl (Kn.nil))) ?_
  refine aR (fun Z hZ => ?_)
  refine sL 1 rfl rfl tyA51 tyS51 rfl rfl ?_
  refine jE7 Tryz.underlying51 rfl rfl ?_
  refine sL 2 rfl rfl tyA3 tyS3 rfl rfl ?_
  refine sx_leq rfl rfl rfl ?_
  refine sA rfl rfl <| sN (hZ _ _ ?_)
  refine aF [(4, _)] (Kn.cons rfl (Kn.nil)) ?_
  refine aE ?_
  exact jD4 _ rfl rfl (HLe.drop 1 rfl) ⟨_, congrArg Value.bool (by rw [Bool.eq_iff_iff]; simp), hv', rfl⟩
theorem sq_none {z n a b A B C D : Nat} (ha : a < 2 ^ z) (hb : b < 2 ^ z) (h : C < a * 2 ^ n ∨ (a + 1) * 2 ^ n - 1 < A ∨ D < b * 2 ^ n ∨ (b + 1) * 2 ^ n - 1 < B) :
    ∀ e, hp z a b * 4 ^ n ≤ e → e < hp z a b * 4 ^ n + 4 ^ n → ¬ RIn A B C D (pt (z + n) e).1 (pt (z + n) e).2 := fun e h1 h2 hr => by
  have hl := hp_lt z a b ha hb
  have hq : hp z a b * 4 ^ n + 4 ^ n ≤ 4 ^ (z + n) := by
    rw [Nat.pow_add, ← Nat.succ_mul]
    exact Nat.mul_le_mul_right _ hl
  obtain ⟨h3, h4⟩ := (sq_pt ha hb (by omega)).1 ⟨h1, h2⟩
  rw [sq_rng] at h3 h4
  obtain ⟨⟨r1, r2⟩, r3, r4⟩ := hr
  omega
theorem sq_all {z n a b A B C D : Nat} (ha : a < 2 ^ z) (hb : b < 2 ^ z) (h : A ≤ a * 2 ^ n ∧ (a + 1) * 2 ^ n - 1 ≤ C ∧ B ≤ b * 2 ^ n ∧ (b + 1) * 2 ^ n - 1 ≤ D) :
    ∀ e, hp z a b * 4 ^ n ≤ e → e < hp z a b * 4 ^ n + 4 ^ n → RIn A B C D (pt (z + n) e).1 (pt (z + n) e).2 := fun e h1 h2 => by
  have hl := hp_lt z a b ha hb
  have hq : hp z a b * 4 ^ n + 4 ^ n ≤ 4 ^ (z + n) := by
    rw [Nat.pow_add, ← Nat.succ_mul]
    exact Nat.mul_le_mul_right _ hl
  obtain ⟨h3, h4⟩ := (sq_pt ha hb (by omega)).1 ⟨h1, h2⟩
  rw [sq_rng] at h3 h4
  exact ⟨⟨by omega, by omega⟩, by omega, by omega⟩
def WalkR (go gm most Zm A B C D E : Nat) (v : Value) (H' : Heap) : Prop :=
  ∃ u' L' D' g, v = .bool g ∧ RowOk u' L'.length ∧ H' = HW go gm u' L' most ∧ DoneQ Zm (RIn A B C D) D' L' ∧ ((g = true ∧ L'.length ≤ most ∧ D' = E) ∨ (g = false ∧ most < L'.length ∧ D' ≤ 4 ^ Zm))
theorem walk_fn (go gm most Zm A B C D : Nat) (hZm : Zm ≤ 26) (hC : C < 2 ^ Zm) (hD : D < 2 ^ Zm) (hAC : A ≤ C) (hBD : B ≤ D) (hm : most ≤ 4096) : ∀ n z a b : Nat, z + n = Zm → a < 2 ^ z → b < 2 ^ z → ∀ (u : Value) (L : List Sp), RowOk u L.length → L.length ≤ most → DoneQ Zm (RIn A B C D) (hp z a b * 4 ^ n) L →
    Fn Tryz.prog 36 [tval (z : Nat) a b, (Rc.mk (Zm : Nat) A B C D).val, .func (.func 34) #[] #[ptr go 0, ptr gm 0]] (HW go gm u L most) (WalkR go gm most Zm A B C D (hp z a b * 4 ^ n + 4 ^ n)) := by
  intro n
  induction n using Nat.strongRecOn with
  | _ n ih =>
  intro z a b hzn ha hb u L hu hL hd
  subst hzn
  have hq := hp_lt z a b ha hb
  have h4n := pow4_pos n
  have hle : hp z a b * 4 ^ n + 4 ^ n ≤ 4 ^ (z + n) := by
    rw [Nat.pow_add, ← Nat.succ_mul]
    exact Nat.mul_le_mul_right _ hq
  have hbl : jB8 (z + n) + 4 ^ (z + n) ≤ jB8 27 := base4_mono (a := z + n + 1) (by omega)
  rw [base4_27] at hbl
  have hbelow := hd.below
  refine Fn.enter (N := 55) Tryz.func36 rfl (by kernel_rfl) rfl (fun w0 => ?_)
  refine aR (fun Z hZ => ?_)
  refine jA5 rfl rfl rfl (fun g1 => ?_)
  refine jA5 rfl rfl rfl (fun g2 => ?_)
  refine sA rfl rfl <| sN (hZ _ _ ?_)
  refine aF [(2, _), (3, _), (4, _)] (Kn.cons rfl (Kn.cons rfl (Kn.cons rfl (Kn.nil)))) ?_
  refine aR (fun Z hZ => ?_)
  refine sLA 1 rfl rfl tyA44 tyS44 rfl (by simp only [List.take_succ_cons, List.take_zero, List.drop_zero, Value.cells]; rfl) rfl ?_
  refine sFA rfl tyF50_0 (by simp only [Nat.add_zero]; rfl) rfl ?_
  refine sL 0 rfl rfl tyA3 tyS3 rfl rfl ?_
  refine sCP (square_fn z n a b hZm ha hb) rfl rfl ?_
  refine sAl tyZ50 rfl (fun g3 => ?_)
  refine sS 0 rfl rfl rfl tyS50 (by simp only [Value.cells]; rfl) rfl rfl rfl (by simp only [List.take_zero, List.drop_succ_cons, List.drop_zero, List.nil_append, List.append_nil, List.length_cons, List.length_nil, Nat.reduceAdd, Nat.zero_add, wrV]; rfl) (by simp only [List.set_cons_zero]; rfl) ?_
  refine sN (hZ _ _ ?_)
  refine aF [(2, _), (3, _), (4, _), (7, _)] (Kn.cons rfl (Kn.cons rfl (Kn.cons rfl (Kn.cons rfl (Kn.nil))))) ?_
  refine aS ?_
  refine aR (fun Z hZ => ?_)
  refine sLA 0 rfl rfl tyA50 tyS50 rfl (by simp only [List.take_succ_cons, List.take_zero, List.drop_zero]; rfl) rfl ?_
  refine sLA 1 rfl rfl tyA50 tyS50 rfl (by simp only [List.take_succ_cons, List.take_zero, List.drop_zero, Value.cells]; rfl) rfl ?_
  refine sCP (apart_fn (sqR z n a b) ⟨(z + n : Nat), A, B, C, D⟩) rfl rfl ?_
  refine sN (hZ _ _ ?_)
  refine aF [(2, _), (3, _), (4, _), (7, _), (21, _)] (Kn.cons rfl (Kn.cons rfl (Kn.cons rfl (Kn.cons rfl (Kn.cons rfl (Kn.nil)))))) ?_
  refine aC rfl (fun h1 => ?_) (fun h1 => ?_)
  · have h1' := of_decide_eq_true h1
    refine aR fun Z hZ => sA rfl rfl <| sN (hZ _ _ ?_)
    refine aF [(6, _)] (Kn.cons rfl (Kn.nil)) ?_
    refine aE ?_
    repeat (with_reducible refine nTR ?_)
    exact jD4 _ rfl rfl (HLe.drop 3 rfl) ⟨u, L, _, true, rfl, hu, rfl, hd.skip _ (sq_none ha hb (by simp only [sqR] at h1'; omega)), .inl ⟨rfl, hL, rfl⟩⟩
  have h1' := of_decide_eq_false h1
  refine aK ?_
  with_reducible refine nN ?_
  refine aS ?_
  refine aR (fun Z hZ => ?_)
  refine sLA 0 rfl rfl tyA50 tyS50 rfl (by simp only [List.take_succ_cons, List.take_zero, List.drop_zero]; rfl) rfl ?_
  refine sLA 1 rfl rfl tyA50 tyS50 rfl (by simp only [List.take_succ_cons, List.take_zero, List.drop_zero, Value.cells]; rfl) rfl ?_
  refine sCP (within_fn (sqR z n a b) ⟨(z + n : Nat), A, B, C, D⟩) rfl rfl ?_
  refine sN (hZ _ _ ?_)
  refine aF [(2, _), (3, _), (4, _), (24, _)] (Kn.cons rfl (Kn.cons rfl (Kn.cons rfl (Kn.cons rfl (Kn.nil))))) ?_
  refine aC rfl (fun h2 => ?_) (fun h2 => ?_)
  · have h2' := of_decide_eq_true h2
    have hj := hd.join h4n (sq_all ha hb (by simp only [sqR] at h2'; omega))
    have hr := tRange_fn z n a b hZm ha hb
    obtain ⟨s, hs⟩ : ∃ s : Sp, (⟨jB8 (z + n) + hp z a b * 4 ^ n, jB8 (z + n) + hp z a b * 4 ^ n + 4 ^ n - 1⟩ : Sp) = s := ⟨_, rfl⟩
    rw [hs] at hj
    have hso : SpsOk (s :: L) := fun x hx => by
      rcases List.mem_cons.1 hx with rfl | hx
      · rw [← hs]
        exact ⟨by show jB8 (z + n) + hp z a b * 4 ^ n < _; omega, by show jB8 (z + n) + hp z a b * 4 ^ n + 4 ^ n - 1 < _; omega⟩
      · have h3 := hbelow x hx
        have h4 := hd.plain.ok x hx
        exact ⟨by omega, by omega⟩
    refine aR (fun Z hZ => ?_)
    refine sLA 2 rfl rfl tyA44 tyS44 rfl (by simp only [List.take_succ_cons, List.take_zero, List.drop_zero, Value.cells]; rfl) rfl ?_
    refine sFA rfl tyF50_0 (by simp only [Nat.add_zero]; rfl) rfl ?_
    refine sL 1 rfl rfl tyA3 tyS3 rfl rfl ?_
    refine sCP (hr) rfl rfl ?_
    refine sM rfl rfl <| sX rfl rfl rfl <| sX rfl rfl rfl <| sX rfl rfl rfl <| sA rfl rfl <| sA rfl rfl <| sA rfl rfl <| sN (hZ _ _ ?_)
    refine aF [(2, _), (8, _), (9, _)] (Kn.cons rfl (Kn.cons rfl (Kn.cons rfl (Kn.nil)))) ?_
    refine aR fun Z hZ => sM rfl rfl <| sM rfl rfl <| sM rfl rfl ?_
    refine jB3 tyZ55 tyP55 rfl rfl (by simp only [List.take_succ_cons, List.take_zero, List.drop_succ_cons, List.drop_zero, List.cons_append, List.nil_append, List.append_nil, List.length_cons, List.length_nil, Nat.reduceAdd, Nat.zero_add, Value.cells, wrV]; rfl) rfl ?_
    refine sx_callFO (vs := [s.val]) (HW go gm u L most) [] (cput_fn go gm u L s most hu (by omega) hso) rfl (by rw [← hs]; rfl) (by rw [List.append_nil]; exact HLe.drop 3 rfl) rfl ?_
    rintro v' H' ⟨u', rfl, hu', rfl⟩
    rw [hw_flt, List.append_nil]
    refine sA rfl rfl <| sN (hZ _ _ ?_)
    refine aF [(6, _)] (Kn.cons rfl (Kn.nil)) ?_
    refine aE ?_
    repeat (with_reducible refine nTR ?_)
    refine jD4 _ rfl rfl (HLe.refl _) ⟨u', jH4 L s, _, _, rfl, hu', rfl, hj, ?_⟩
    by_cases h : (jH4 L s).length ≤ most
    · exact .inl ⟨decide_eq_true h, h, rfl⟩
    · exact .inr ⟨decide_eq_false h, by omega, hle⟩
  have h2' := of_decide_eq_false h2
  refine aK ?_
  with_reducible refine nN ?_
  obtain ⟨m, rfl⟩ : ∃ m, n = m + 1 := by
    refine ⟨n - 1, ?_⟩
    rcases Nat.eq_zero_or_pos n with h | h
    · subst h
      simp only [sqR, Nat.pow_zero, Nat.mul_one] at h1' h2'
      omega
    · omega
  have hdn := tDown_fn z a b (by omega) ha hb
  obtain ⟨h, hh⟩ : ∃ h, hp z a b = h := ⟨_, rfl⟩
  rw [hh] at hq hle hd hdn ⊢
  refine aR (fun Z hZ => ?_)
  refine sLA 2 rfl rfl tyA44 tyS44 rfl (by simp only [List.take_succ_cons, List.take_zero, List.drop_zero, Value.cells]; rfl) rfl ?_
  refine sx_callU [] hdn rfl (List.nil_sublist _) Ro.nil rfl ?_
  rintro v2 H2 ⟨w2, rfl, hw2, rfl⟩
  rw [jF8]
  refine sM rfl rfl <| sX rfl rfl rfl <| sX rfl rfl rfl <| sA rfl rfl <| sA rfl rfl <| sN (hZ _ _ ?_)
  refine aF [(2, _), (4, _), (11, _)] (Kn.cons rfl (Kn.cons rfl (Kn.cons rfl (Kn.nil)))) ?_
  obtain ⟨gk, ck, rfl⟩ := hw2.some (by omega)
  obtain ⟨K, hK⟩ : ∃ K, ptsL (z + 1) (4 * h) 4 = K := ⟨_, rfl⟩
  have hKl : K.length = 4 := by rw [← hK]; exact ptsL_len _ _ _
  rw [hK]
  refine jB5 (.ob gk (RowP 44 3 4 ck (tlc (z + 1) K)) :: .own g2 50 (Rc.mk (z + (m + 1) : Nat) A B C D).cells :: HW go gm u L most) (HLe.sub (List.Sublist.cons_cons _ (.cons _ (.cons_cons _ (.cons _ (List.Sublist.refl _)))))) ?_
  refine aS ?_
  refine aR fun Z hZ => sM rfl rfl ?_
  refine jE7 Tryz.underlying168 rfl rfl ?_
  refine sM rfl rfl <| sN (hZ _ _ ?_)
  refine aF [(2, _), (4, _), (43, _), (44, _), (45, _)] (Kn.cons rfl (Kn.cons rfl (Kn.cons rfl (Kn.cons rfl (Kn.cons rfl (Kn.nil)))))) ?_
  refine aB ?_
  refine jC2 (ι := Nat × Value × List Sp) (fun i => [(2, .func (.func 34) #[] #[ptr go 0, ptr gm 0]), (4, ptr g2 0), (43, .slice (some ⟨gk, 0, none⟩) 4 ck), (44, iq (4 : Nat)), (45, iq (i.1 : Nat))]) (fun i => .ob gk (RowP 44 3 4 ck (tlc (z + 1) K)) :: .own g2 50 (Rc.mk (z + (m + 1) : Nat) A B C D).cells :: HW go gm i.2.1 i.2.2 most)
    (fun i => i.1 ≤ 4 ∧ RowOk i.2.1 i.2.2.length ∧ i.2.2.length ≤ most ∧ DoneQ (z + (m + 1)) (RIn A B C D) ((4 * h + i.1) * 4 ^ m) i.2.2) (fun i => 4 - i.1) (0, u, L) ⟨Nat.zero_le _, hu, hL, by rw [show (4 * h + 0) * 4 ^ m = h * 4 ^ (m + 1) by rw [Nat.pow_succ, Nat.add_zero, Nat.mul_comm 4 h, Nat.mul_assoc, Nat.mul_comm 4]]; exact hd⟩ (Kn.cons rfl (Kn.cons rfl (Kn.cons rfl (Kn.cons rfl (Kn.cons rfl Kn.nil))))) (HLe.refl _) ?_
  rintro ⟨i, u1, L1⟩ ⟨hi, hu1, hL1, hd1⟩
  replace hi : i ≤ 4 := hi
  replace hu1 : RowOk u1 L1.length := hu1
  replace hL1 : L1.length ≤ most := hL1
  replace hd1 : DoneQ (z + (m + 1)) (RIn A B C D) ((4 * h + i) * 4 ^ m) L1 := hd1
  refine aF [(2, .func (.func 34) #[] #[ptr go 0, ptr gm 0]), (4, ptr g2 0), (43, .slice (some ⟨gk, 0, none⟩) 4 ck), (44, iq (4 : Nat)), (45, iq (i : Nat))] (Kn.cons rfl (Kn.cons rfl (Kn.cons rfl (Kn.cons rfl (Kn.cons rfl Kn.nil))))) ?_
  refine jB5 (.ob gk (RowP 44 3 4 ck (tlc (z + 1) K)) :: .own g2 50 (Rc.mk (z + (m + 1) : Nat) A B C D).cells :: HW go gm u1 L1 most) (HLe.refl _) ?_
  refine aR (fun Z hZ => ?_)
  refine jC3 rfl rfl rfl ?_
  refine sN (hZ _ _ ?_)
  refine aF [(2, _), (4, _), (43, _), (44, _), (45, _), (46, _)] (Kn.cons rfl (Kn.cons rfl (Kn.cons rfl (Kn.cons rfl (Kn.cons rfl (Kn.cons rfl (Kn.nil))))))) ?_
  refine aS (aC rfl (fun h9 => ?_) (fun h9 => ?_))
  · have hlt : i < 4 := by simp at h9; omega
    obtain ⟨p, hpk⟩ : ∃ p, K[i]? = some p := ⟨_, List.getElem?_eq_getElem (by omega)⟩
    have hdl : 4 * h + i < 4 ^ (z + 1) := by rw [Nat.pow_succ]; omega
    have hpp : p = pt (z + 1) (4 * h + i) := by
      rw [← hK] at hpk
      unfold ptsL at hpk
      rw [List.getElem?_map, List.getElem?_range hlt] at hpk
      exact (Option.some.inj hpk).symm
    obtain ⟨hp1, hp2⟩ := pt_lt _ _ hdl
    have hpp2 := hp_pt _ _ hdl
    rw [← hpp] at hp1 hp2 hpp2
    have hw := ih m (Nat.lt_succ_self m) (z + 1) p.1 p.2 (by omega) hp1 hp2 u1 L1 hu1 hL1 (by rw [hpp2]; exact hd1)
    rw [hpp2] at hw
    refine aK ?_
    with_reducible refine nN ?_
    refine aS (aB ?_)
    refine aR (fun Z hZ => ?_)
    refine jB9 (0 + i * 3) Tryz.underlying168 tyS44 rfl rfl (by omega) (by simp) rfl ?_
    refine sx_loadRd (i * 3) rfl (by omega) (fun w hw1 => rd_row (i := 0) rfl hw1) (by omega) tyA44 tyS44 (tlc_all hpk) rfl ?_
    refine sAl tyZ44 rfl (fun g4 => ?_)
    refine sS 0 rfl rfl rfl tyS44 (by simp only [Value.cells]; rfl) rfl rfl rfl (by simp only [List.take_zero, List.drop_succ_cons, List.drop_zero, List.nil_append, List.append_nil, List.length_cons, List.length_nil, Nat.reduceAdd, Nat.zero_add, wrV]; rfl) (by simp only [List.set_cons_zero]; rfl) ?_
    refine sN (hZ _ _ ?_)
    refine aF [(2, _), (4, _), (14, _), (43, _), (44, _), (45, _)] (Kn.cons rfl (Kn.cons rfl (Kn.cons rfl (Kn.cons rfl (Kn.cons rfl (Kn.cons rfl (Kn.nil))))))) ?_
    refine aR (fun Z hZ => ?_)
    refine sLA 0 rfl rfl tyA44 tyS44 rfl (by simp only [List.take_succ_cons, List.take_zero, List.drop_zero]; rfl) rfl ?_
    refine sLA 2 rfl rfl tyA50 tyS50 rfl (by simp only [List.take_succ_cons, List.take_zero, List.drop_zero]; rfl) rfl ?_
    refine sM rfl rfl ?_
    refine jD9 (HW go gm u1 L1 most) [.own g4 44 (tcells (z + 1 : Nat) p.1 p.2), .ob gk (RowP 44 3 4 ck (tlc (z + 1) K)), .own g2 50 (Rc.mk (z + (m + 1) : Nat) A B C D).cells] (hw) rfl (HLe.swap [_, _, _] _) rfl ?_
    rintro v' H' ⟨u', L', D', g, rfl, hu', rfl, hd', hg⟩
    rw [hw_flt]
    refine sx_not rfl rfl ?_
    refine sN (hZ _ _ ?_)
    refine aF [(2, _), (4, _), (43, _), (44, _), (45, _), (53, _)] (Kn.cons rfl (Kn.cons rfl (Kn.cons rfl (Kn.cons rfl (Kn.cons rfl (Kn.cons rfl (Kn.nil))))))) ?_
    refine aC rfl (fun h11 => ?_) (fun h11 => ?_)
    · obtain ⟨rfl, hg2, hg3⟩ : g = false ∧ most < L'.length ∧ D' ≤ 4 ^ (z + (m + 1)) := by
        rcases hg with ⟨rfl, _⟩ | hg
        · cases h11
        · exact hg
      refine aR fun Z hZ => sA rfl rfl <| sN (hZ _ _ ?_)
      refine aF [(6, _)] (Kn.cons rfl (Kn.nil)) ?_
      refine aE ?_
      repeat (with_reducible (first | refine nTR ?_ | refine nBR ?_))
      exact jD4 _ rfl rfl (HLe.sub (List.sublist_append_left _ _)) ⟨u', L', D', false, rfl, hu', rfl, hd', .inr ⟨rfl, hg2, hg3⟩⟩
    obtain ⟨rfl, hg2, hg3⟩ : g = true ∧ L'.length ≤ most ∧ D' = (4 * h + i) * 4 ^ m + 4 ^ m := by
      rcases hg with hg | ⟨rfl, _⟩
      · exact hg
      · cases h11
    refine aK ?_
    repeat (with_reducible refine nBN ?_)
    with_reducible refine nN ?_
    refine aG (fun Z hZ => ?_)
    refine jA7 rfl rfl ((i + 1 : Nat) : Int) (by rw [IntWalk.i64_in _ (by omega)]; omega) rfl ?_
    refine sM rfl rfl <| sN (hZ _ _ ?_)
    refine nF [(2, _), (4, _), (43, _), (44, _), (45, _)] (Kn.cons rfl (Kn.cons rfl (Kn.cons rfl (Kn.cons rfl (Kn.cons rfl (Kn.nil)))))) ?_
    refine jB4 (i + 1, u', L') ⟨hlt, hu', hg2, ?_⟩ (show 4 - (i + 1) < 4 - i by omega) (Kn.cons rfl (Kn.cons rfl (Kn.cons rfl (Kn.cons rfl (Kn.cons rfl Kn.nil))))) ((HLe.drop 1 rfl).trans (HLe.swap (HW go gm u' L' most) [_, _, _]))
    show DoneQ (z + (m + 1)) (RIn A B C D) ((4 * h + (i + 1)) * 4 ^ m) L'
    rw [show (4 * h + (i + 1)) * 4 ^ m = (4 * h + i) * 4 ^ m + 4 ^ m by rw [← Nat.add_assoc, Nat.succ_mul], ← hg3]
    exact hd'
  · refine jA8 ?_
    repeat (with_reducible refine nTE ?_)
    with_reducible refine nBE ?_
    with_reducible refine nN ?_
    obtain rfl : i = 4 := by simp at h9; omega
    refine aR fun Z hZ => sA rfl rfl <| sN (hZ _ _ ?_)
    refine aF [(6, _)] (Kn.cons rfl (Kn.nil)) ?_
    refine aE ?_
    refine jD4 _ rfl rfl (HLe.drop 2 rfl) ⟨u1, L1, _, true, rfl, hu1, rfl, hd1, .inl ⟨rfl, hL1, ?_⟩⟩
    rw [Nat.pow_succ, Nat.mul_comm (4 ^ m), ← Nat.mul_assoc, Nat.mul_comm h, Nat.add_mul]
theorem cspans_fn {r : Rc} {Zm A B C D : Nat} (hr : r.Ok Zm A B C D) (most : Nat) (h1 : 1 ≤ most) (h2 : most ≤ 4096) (L : List Sp) (hL : DoneQ Zm (RIn A B C D) (4 ^ Zm) L) :
    Fn Tryz.prog 13 [r.val, iq (most : Nat)] [] fun v H' => (L.length ≤ most ∧ ∃ u, v = .tuple #[u, iq (0 : Int)] ∧ RowOk u L.length ∧ H' = rowE u 55 2 (jG6 L)) ∨ (most < L.length ∧ v = .tuple #[.slice none 0 0, iq (21 : Int)] ∧ H' = []) := by
  have hck := cCheck_fn r
  rw [hr.chk] at hck
  obtain ⟨rfl, hZm, hx, hy, hxl, hyl⟩ := hr
  have e00 : hp 0 0 0 * 4 ^ Zm = 0 := by rw [show hp 0 0 0 = 0 from rfl, Nat.zero_mul]
  have hwk := fun go gm => walk_fn go gm most Zm A B C D hZm hxl hyl hx hy h2 Zm 0 0 0 (Nat.zero_add Zm) (by decide) (by decide) (.slice none 0 0) [] RowOk.nil (Nat.zero_le _) (by rw [e00]; exact DoneQ.nil)
  simp only [e00, Nat.zero_add] at hwk
  refine Fn.enter (N := 27) Tryz.func13 rfl (by kernel_rfl) rfl (fun w0 => ?_)
  refine aR (fun Z hZ => ?_)
  refine jA5 rfl rfl rfl (fun g1 => ?_)
  refine jA5 rfl rfl rfl (fun g2 => ?_)
  refine sA rfl rfl <| sA rfl rfl <| sN (hZ _ _ ?_)
  refine aF [(2, _), (3, _)] (Kn.cons rfl (Kn.cons rfl (Kn.nil))) ?_
  refine aS ?_
  refine jA1 [(2, ptr g1 0), (3, ptr g2 0), (14, .bool false)] [.own g2 3 [iq (most : Nat)], .own g1 50 (Rc.mk (Zm : Nat) A B C D).cells] (fun Z hZ => ?_) ?_
  · refine sL 0 rfl rfl tyA3 tyS3 rfl rfl ?_
    refine jC3 rfl rfl rfl ?_
    refine sM rfl rfl ?_
    refine jB6 11 rfl (fun hb2 => ?_) (fun hb2 => ?_)
    · refine sO rfl rfl rfl rfl rfl ?_
      refine sO rfl rfl rfl rfl rfl ?_
      refine sP rfl rfl rfl ?_
      refine sN (hZ _ _ ?_ ?_)
      · exact Kn.cons rfl (Kn.cons rfl (Kn.cons (congrArg some (congrArg Value.bool (by first | rfl | (exfalso; simp at *; omega) | (simp at *; done) | (simp at *; omega)))) Kn.nil))
      · exact HLe.refl _
    · refine sOn rfl rfl rfl ?_
      refine sL 0 rfl rfl tyA3 tyS3 rfl rfl ?_
      refine sOn rfl rfl rfl ?_
      refine jE3 rfl rfl rfl ?_
      refine sP rfl rfl rfl ?_
      refine sN (hZ _ _ ?_ ?_)
      · exact Kn.cons rfl (Kn.cons rfl (Kn.cons (congrArg some (congrArg Value.bool (by first | rfl | (exfalso; simp at *; omega) | (simp at *; done) | (simp at *; omega)))) Kn.nil))
      · exact HLe.refl _
  refine aC rfl (fun h => ?_) (fun h => ?_)
  · cases h
  refine aK ?_
  with_reducible refine nN ?_
  refine aS ?_
  refine aR (fun Z hZ => ?_)
  refine sLA 1 rfl rfl tyA50 tyS50 rfl (by simp only [List.take_succ_cons, List.take_zero, List.drop_zero]; rfl) rfl ?_
  refine sCP (hck) rfl rfl ?_
  refine sA rfl rfl <| sN (hZ _ _ ?_)
  refine aF [(2, _), (3, _), (6, _)] (Kn.cons rfl (Kn.cons rfl (Kn.cons rfl (Kn.nil)))) ?_
  refine aR fun Z hZ => sM rfl rfl ?_
  refine jC9 rfl rfl rfl ?_
  refine sN (hZ _ _ ?_)
  refine aF [(2, _), (3, _), (6, _), (18, _)] (Kn.cons rfl (Kn.cons rfl (Kn.cons rfl (Kn.cons rfl (Kn.nil))))) ?_
  refine aC rfl (fun h4 => ?_) (fun h4 => ?_)
  · cases h4
  refine aK ?_
  with_reducible refine nN ?_
  refine aR (fun Z hZ => ?_)
  refine sAl tyZ51 rfl (fun g3 => ?_)
  refine sN (hZ _ _ ?_)
  refine aF [(2, _), (3, _), (7, _)] (Kn.cons rfl (Kn.cons rfl (Kn.cons rfl (Kn.nil)))) ?_
  refine aR (fun Z hZ => ?_)
  refine sx_makeFunc rfl rfl ?_
  refine sA rfl rfl <| sN (hZ _ _ ?_)
  refine aF [(2, _), (7, _), (8, _)] (Kn.cons rfl (Kn.cons rfl (Kn.cons rfl (Kn.nil)))) ?_
  refine aS ?_
  refine aR (fun Z hZ => ?_)
  refine jB3 tyZ44 tyP44 rfl rfl rfl rfl ?_
  refine sLA 2 rfl rfl tyA50 tyS50 rfl (by simp only [List.take_succ_cons, List.take_zero, List.drop_zero]; rfl) rfl ?_
  refine sM rfl rfl ?_
  refine jD9 (HW g3 g2 (.slice none 0 0) [] most) [.own g1 50 (Rc.mk (Zm : Nat) A B C D).cells] (hwk g3 g2) rfl (HLe.refl _) rfl ?_
  rintro v' H' ⟨u', L', D', g, rfl, hu', rfl, hd', hg⟩
  rw [hw_flt]
  refine sx_not rfl rfl ?_
  refine sN (hZ _ _ ?_)
  refine aF [(7, _), (25, _)] (Kn.cons rfl (Kn.cons rfl (Kn.nil))) ?_
  refine aC rfl (fun h8 => ?_) (fun h8 => ?_)
  · obtain ⟨rfl, hg2, hg3⟩ : g = false ∧ most < L'.length ∧ D' ≤ 4 ^ Zm := by
      rcases hg with ⟨rfl, _⟩ | hg
      · cases h8
      · exact hg
    have := hd'.mono hL hg3
    refine aR fun Z hZ => sA rfl rfl <| sA rfl rfl <| sN (hZ _ _ ?_)
    refine aF [(4, _), (5, _)] (Kn.cons rfl (Kn.cons rfl (Kn.nil))) ?_
    refine aE ?_
    repeat (with_reducible refine nTR ?_)
    exact jD2 [] rfl rfl rfl (HLe.sub (List.nil_sublist _)) (.inr ⟨by omega, rfl, rfl⟩)
  obtain ⟨rfl, hg2, hg3⟩ : g = true ∧ L'.length ≤ most ∧ D' = 4 ^ Zm := by
    rcases hg with hg | ⟨rfl, _⟩
    · exact hg
    · cases h8
  rw [hg3] at hd'
  obtain rfl := hd'.uniq hL
  refine aK ?_
  with_reducible refine nN ?_
  refine aR (fun Z hZ => ?_)
  refine sL 0 rfl rfl tyA51 tyS51 rfl rfl ?_
  refine sA rfl rfl <| sA rfl rfl <| sN (hZ _ _ ?_)
  refine aF [(4, _), (5, _)] (Kn.cons rfl (Kn.cons rfl (Kn.nil))) ?_
  refine aE ?_
  exact jD2 _ rfl rfl rfl ((HLe.drop 2 rfl).trans (HLe.sub (List.sublist_append_left _ _))) (.inl ⟨hg2, u', rfl, hu', rfl⟩)
theorem sp_eqC (a b : Sp) : EqV Tryz.prog 10000 55 a.val b.val (spq a b) := by
  have h : EqV Tryz.prog 10000 55 a.val b.val _ := EqV.struct Tryz.underlying55 (by kernel_rfl) (.cons rfl tyA45 tyS45 rfl rfl (EqV.int Tryz.underlying45) (.cons rfl tyA45 tyS45 rfl rfl (EqV.int Tryz.underlying45) .nil))
  have e : spq a b = (((a.a : Int) == (b.a : Int)) && (((a.b : Int) == (b.b : Int)) && true)) := by
    rw [Bool.eq_iff_iff]
    simp [spq]
    omega
  rw [e]
  exact h
theorem guard_spC : Program.eqGuardType Tryz.prog Tryz.prog.depth 55 = false := by kernel_rfl
theorem total_take {L : List Sp} {k : Nat} {x : Sp} (h : L[k]? = some x) : totalQ (L.take (k + 1)) = totalQ (L.take k) + (x.b + 1 - x.a) := by
  obtain ⟨hlt, rfl⟩ := List.getElem?_eq_some_iff.1 h
  unfold totalQ
  rw [List.take_succ_eq_append_getElem hlt, List.map_append, List.sum_append, List.map_cons, List.map_nil, List.sum_cons, List.sum_nil, Nat.add_zero]
abbrev totM (L : List Sp) : Nat := totalQ L % 18446744073709551616
theorem stotal_fn (A : Option Addr) (c : Nat) (L : List Sp) (T : Heap) (hA : ArgOk A L.length) (hT : 0 < L.length → T = roE A (jG6 L)) (hro : Ro T) (hL : L.length ≤ 1000000) (ho : SpsOk L) :
    Fn Tryz.prog 14 [.slice A L.length c] T fun v _ => v = uq (totM L) := by
  refine Fn.enter (N := 27) Tryz.func14 rfl (by kernel_rfl) rfl (fun w0 => ?_)
  refine aR fun Z hZ => sA rfl rfl <| sN (hZ _ _ ?_)
  refine aF [(0, _)] (Kn.cons rfl (Kn.nil)) ?_
  refine aR fun Z hZ => sA rfl rfl <| sN (hZ _ _ ?_)
  refine aF [(0, _), (3, _)] (Kn.cons rfl (Kn.cons rfl (Kn.nil))) ?_
  refine aS ?_
  refine aR fun Z hZ => sM rfl rfl ?_
  refine jE7 Tryz.underlying51 rfl rfl ?_
  refine sM rfl rfl <| sN (hZ _ _ ?_)
  refine aF [(3, _), (6, _), (7, _), (8, _)] (Kn.cons rfl (Kn.cons rfl (Kn.cons rfl (Kn.cons rfl (Kn.nil))))) ?_
  refine aB ?_
  refine jC2 (ι := Nat) (fun k => [(3, uq (totM (L.take k))), (6, .slice A L.length c), (7, iq (L.length : Nat)), (8, iq (k : Nat))]) (fun _ => T)
    (fun k => k ≤ L.length) (fun k => L.length - k) 0 (by simp) (Kn.cons rfl (Kn.cons rfl (Kn.cons rfl (Kn.cons rfl Kn.nil)))) (HLe.refl _) ?_
  rintro k hk
  refine aR (fun Z hZ => ?_)
  refine jC3 rfl rfl rfl ?_
  refine sN (hZ _ _ ?_)
  refine aF [(3, _), (6, _), (7, _), (8, _), (9, _)] (Kn.cons rfl (Kn.cons rfl (Kn.cons rfl (Kn.cons rfl (Kn.cons rfl (Kn.nil)))))) ?_
  refine aS (aC rfl (fun h => ?_) (fun h => ?_))
  · have hlt : k < L.length := by simpa using h
    obtain ⟨x, hx⟩ : ∃ x, L[k]? = some x := ⟨_, List.getElem?_eq_getElem hlt⟩
    obtain ⟨x1, x2⟩ := ho x (List.mem_of_getElem? hx)
    have hs := total_take hx
    obtain ⟨n, hn⟩ : ∃ n, totM (L.take k) = n := ⟨_, rfl⟩
    have hsn : totM (L.take (k + 1)) = (n + (x.b + 1 - x.a)) % 18446744073709551616 := by rw [← hn]; unfold totM; rw [hs]; omega
    have hnl : n < 18446744073709551616 := by rw [← hn]; exact Nat.mod_lt _ (by decide)
    rw [hn]
    obtain ⟨g, o, rfl⟩ := hA (by omega)
    obtain rfl := hT (by omega)
    refine aK ?_
    with_reducible refine nN ?_
    refine aS (aB ?_)
    refine aR (fun Z hZ => ?_)
    refine jB9 (o + k * 2) Tryz.underlying51 tyS55 rfl rfl (by omega) (by simp) rfl ?_
    refine jF0 0 rfl rfl (k * 2) rfl tyA55 tyS55 (scells_all hx) rfl ?_
    refine sAl tyZ55 rfl (fun g1 => ?_)
    refine sS 0 rfl rfl rfl tyS55 (by simp only [Value.cells]; rfl) rfl rfl rfl (by simp only [List.take_zero, List.drop_succ_cons, List.drop_zero, List.nil_append, List.append_nil, List.length_cons, List.length_nil, Nat.reduceAdd, Nat.zero_add, wrV]; rfl) (by simp only [List.set_cons_zero]; rfl) ?_
    refine sN (hZ _ _ ?_)
    refine aF [(3, _), (5, _), (6, _), (7, _), (8, _)] (Kn.cons rfl (Kn.cons rfl (Kn.cons rfl (Kn.cons rfl (Kn.cons rfl (Kn.nil)))))) ?_
    refine aR (fun Z hZ => ?_)
    refine sFA rfl tyF55_0 (by simp only [Nat.add_zero]; rfl) rfl ?_
    refine sL 0 rfl rfl tyA45 tyS45 rfl rfl ?_
    refine sFA rfl tyF55_1 (by simp only [Nat.zero_add]; rfl) rfl ?_
    refine sL 0 rfl rfl tyA45 tyS45 rfl rfl ?_
    refine sx_leq rfl rfl rfl ?_
    refine sN (hZ _ _ ?_)
    refine aF [(3, _), (5, _), (6, _), (7, _), (8, _), (16, _)] (Kn.cons rfl (Kn.cons rfl (Kn.cons rfl (Kn.cons rfl (Kn.cons rfl (Kn.cons rfl (Kn.nil))))))) ?_
    refine aC rfl (fun h2 => ?_) (fun h2 => ?_)
    · have h2' : x.a ≤ x.b := by simp at h2; omega
      refine aG (fun Z hZ => ?_)
      refine sM rfl rfl ?_
      refine sFA rfl tyF55_1 (by simp only [Nat.zero_add]; rfl) rfl ?_
      refine sL 0 rfl rfl tyA45 tyS45 rfl rfl ?_
      refine sFA rfl tyF55_0 (by simp only [Nat.add_zero]; rfl) rfl ?_
      refine sL 0 rfl rfl tyA45 tyS45 rfl rfl ?_
      refine jG4 rfl rfl ((x.b - x.a : Nat) : Int) (by rw [IntWalk.u64_in _ (by omega)]; omega) rfl ?_
      refine jA7 rfl rfl (((x.b - x.a + 1) % 18446744073709551616 : Nat) : Int) (by rw [IntKind.wrap_u64]; omega) rfl ?_
      refine jA7 rfl rfl ((totM (L.take (k + 1)) : Nat) : Int) (by rw [IntKind.wrap_u64, hsn]; omega) rfl ?_
      refine sA rfl rfl <| sN (hZ _ _ ?_)
      refine nF [(3, _), (6, _), (7, _), (8, _)] (Kn.cons rfl (Kn.cons rfl (Kn.cons rfl (Kn.cons rfl (Kn.nil))))) ?_
      repeat (with_reducible refine nBN ?_)
      with_reducible refine nN ?_
      refine aG (fun Z hZ => ?_)
      refine jA7 rfl rfl ((k + 1 : Nat) : Int) (by rw [IntWalk.i64_in _ (by omega)]; omega) rfl ?_
      refine sM rfl rfl <| sN (hZ _ _ ?_)
      refine nF [(3, _), (6, _), (7, _), (8, _)] (Kn.cons rfl (Kn.cons rfl (Kn.cons rfl (Kn.cons rfl (Kn.nil))))) ?_
      exact jB4 (k + 1) (by omega) (by omega) (Kn.cons rfl (Kn.cons rfl (Kn.cons rfl (Kn.cons rfl Kn.nil)))) (HLe.drop 1 rfl)
    · have h2' : ¬ x.a ≤ x.b := by simp at h2; omega
      have e : totM (L.take (k + 1)) = n := by rw [hsn]; omega
      refine aK ?_
      repeat (with_reducible refine nBN ?_)
      with_reducible refine nN ?_
      refine aG (fun Z hZ => ?_)
      refine jA7 rfl rfl ((k + 1 : Nat) : Int) (by rw [IntWalk.i64_in _ (by omega)]; omega) rfl ?_
      refine sM rfl rfl <| sN (hZ _ _ ?_)
      refine nF [(3, _), (6, _), (7, _), (8, _)] (Kn.cons rfl (Kn.cons rfl (Kn.cons rfl (Kn.cons rfl (Kn.nil))))) ?_
      exact jB4 (k + 1) (by omega) (by omega) (Kn.cons (by rw [e]; rfl) (Kn.cons rfl (Kn.cons rfl (Kn.cons rfl Kn.nil)))) (HLe.drop 1 rfl)
  · refine jA8 ?_
    repeat (with_reducible refine nTE ?_)
    with_reducible refine nBE ?_
    with_reducible refine nN ?_
    have hke : k = L.length := by simp at h; omega
    subst hke
    rw [List.take_length]
    refine aR fun Z hZ => sM rfl rfl <| sA rfl rfl <| sN (hZ _ _ ?_)
    refine aF [(2, _)] (Kn.cons rfl (Kn.nil)) ?_
    refine aE ?_
    exact nR1 rfl rfl rfl
end Go.Proofs.YtkojkeabelckjaaGreatDoor
