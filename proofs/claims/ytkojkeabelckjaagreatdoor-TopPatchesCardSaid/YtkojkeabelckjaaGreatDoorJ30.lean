/- TopPatches: what lies between two archives makes, of what the first one tells, just the second one. No conditions. -/
import Derived.Test.YtkojkeabelckjaaGreatDoorJ28
import Derived.Test.YtkojkeabelckjaaGreatDoorJ29
import Derived.Test.YtkojkeabelckjaaGreatDoorJ24
import Derived.Test.YtkojkeabelckjaaGreatDoorJ07
import Derived.Test.YtkojkeabelckjaaGreatDoorCards
import Derived.Test.YtkojkeabelckjaaGreatDoorTie
import Derived.ProofKit
import Derived.Lay
import Derived.SevenTiedAt

section
set_option linter.all false
namespace Go.Proofs.YtkojkeabelckjaaGreatDoor
open Go.RowKit Go.Proofs.YtkojkeabelckjaaGreatDoor.V Go.Proofs.YtkojkeabelckjaaGreatDoor.Y
set_option maxRecDepth 100000
def nS : List UInt8 := [123, 34, 110, 97, 109, 101, 34, 58, 34, 120, 34, 125]
theorem plC8_of {s : List UInt8} {a n : Nat} (h : (List.range n).all (fun j => match s[a + j]? with | some c => decide (32 ≤ c.toNat) && decide (c.toNat < 128) && decide (c ≠ 34) && decide (c ≠ 92) | none => false) = true) : ∀ j, j < n → ∃ c, s[a + j]? = some c ∧ plC8 c := by
 intro j hj
 have := List.all_eq_true.1 h j (List.mem_range.2 hj)
 cases hc : s[a + j]? with
 | none => rw [hc] at this; cases this
 | some c =>
  rw [hc] at this
  simp only [Bool.and_eq_true, decide_eq_true_eq] at this
  exact ⟨c, rfl, this.1.1.1, this.1.1.2, this.1.2, this.2⟩
theorem rtext_fn (g : Nat) (s : List UInt8) (a n : Nat) (hs : s.length ≤ 1000000) (ha : s[a]? = some 34) (hp : ∀ j, j < n → ∃ c, s[a + 1 + j]? = some c ∧ plC8 c) (hb : s[a + 1 + n]? = some 34) :
  Fn Tryz.prog 134 [ptr g 0] [rdr g s a 0] fun v H' => v = .string (str ((s.drop (a + 1)).take n)) ∧ H' = [rdr g s (a + n + 2) 0] := by
 refine Fn.enter (N := 30) Tryz.func134 rfl (by kernel_rfl) rfl (fun w0 => ?_)
 refine aR fun Z hZ => sA rfl rfl <| sN (hZ _ _ ?_)
 refine aF [(0, _)] (Kn.cons rfl (Kn.nil)) ?_
 refine jD0 _ [(0, true), (1, true), (2, true), (3, true), (4, true), (5, true), (6, true), (7, true), (8, false), (9, true), (10, true), (11, true), (12, true), (13, true), (14, true), (15, true)] mixed (by kernel_rfl) (HLe.pick [0] (by simp) (by simp only [pick, List.filterMap_cons, qS]; rfl)) (fun Z hZ => ?_)
 refine tw_p rfl ?_
 refine jA3 rfl rfl ?_
 refine vN ?_
 refine tw_p rfl ?_
 refine jF6 rfl rfl ?_
 refine vN ?_
 refine tw_p rfl ?_
 refine jA2 rfl tyF178_0 (by simp only [Nat.add_zero]; rfl) rfl ?_
 refine vN ?_
 refine tw_p rfl ?_
 first | refine jE6 0 rfl rfl tyA9 tyS9 rfl rfl ?_
 refine vN ?_
 refine tw_p rfl ?_
 refine jA3 rfl rfl ?_
 refine vN ?_
 refine tw_p rfl ?_
 refine jF6 rfl rfl ?_
 refine vN ?_
 refine tw_p rfl ?_
 refine jA2 rfl jE7 (by simp only [Nat.zero_add]; rfl) rfl ?_
 refine vN ?_
 refine tw_p rfl ?_
 first | refine jE6 0 rfl rfl tyA3 tyS3 rfl rfl ?_
 refine vN ?_
 refine tw_g rfl ?_
 refine sCP (jtake_fn s a n hs ha hp hb) rfl rfl ?_
 refine sN ⟨HLe.pick [0] (by simp) rfl, ?_⟩
 refine tw_p rfl ?_
 refine jA3 rfl rfl ?_
 refine vN ?_
 refine tw_p rfl ?_
 refine jG6 rfl rfl rfl ?_
 refine vN ?_
 refine tw_p rfl ?_
 refine jG6 rfl rfl rfl ?_
 refine vN ?_
 refine tw_p rfl ?_
 refine jG6 rfl rfl rfl ?_
 refine vN ?_
 refine tw_p rfl ?_
 refine jD7 rfl rfl ?_
 refine vN ?_
 refine tw_p rfl ?_
 refine jD7 rfl rfl ?_
 refine vN ?_
 refine tw_p rfl ?_
 refine jD7 rfl rfl ?_
 refine vN ?_
 refine jH2 (hZ _ _ ?_)
 refine aF [(0, _), (3, _), (4, _), (5, _)] (kR rfl) ?_
 refine aS ?_
 refine aR fun Z hZ => sM rfl rfl ?_
 refine jE5 rfl rfl rfl ?_
 refine sN (hZ _ _ ?_)
 refine aF [(0, _), (3, _), (4, _), (5, _), (20, _)] (kR rfl) ?_
 refine aC rfl (fun h => ?_) (fun h => ?_)
 ·cases h
 refine aK ?_
 with_reducible refine nN ?_
 refine aR fun Z hZ => sM rfl rfl <| sM rfl rfl ?_
 refine jA5 rfl rfl ?_
 refine sFA rfl jE7 (by simp only [Nat.zero_add]; rfl) rfl ?_
 first | refine sS1 0 rfl rfl rfl tyS3 rfl rfl (by simp only [qS]; rfl) (by simp only [List.set_cons_zero]; rfl) ?_
 refine sN (hZ _ _ ?_)
 refine aF [(3, _)] (Kn.cons rfl (Kn.nil)) ?_
 refine aR fun Z hZ => sM rfl rfl <| sA rfl rfl <| sN (hZ _ _ ?_)
 refine aF [(2, _)] (Kn.cons rfl (Kn.nil)) ?_
 refine aE ?_
 exact nR1 rfl rfl ⟨rfl, rfl⟩
theorem tk1 : (nS.drop 2).take 4 = [110, 97, 109, 101] := rfl
theorem tk2 : (nS.drop 9).take 1 = [120] := rfl
theorem rvaluex_fn (g : Nat) (deep : Nat) (hd : deep ≤ 4) :
  Fn Tryz.prog 86 [ptr g 0, iq (deep : Nat)] [rdr g nS 8 0] fun v H' => v = .iface 9 (.string (str [120])) ∧ H' = [rdr g nS 11 0] := by
 have ht := rtext_fn g nS 8 1 (by decide) rfl (plC8_of (by decide)) rfl
 refine Fn.enter (N := 74) Tryz.func86 rfl (by kernel_rfl) rfl (fun w0 => ?_)
 refine aR fun Z hZ => sA rfl rfl <| sN (hZ _ _ ?_)
 refine aF [(0, _), (1, _)] (kR rfl) ?_
 refine aS ?_
 refine jB9 mixed (by kernel_rfl) (fun Z hZ => ?_)
 refine qM rfl rfl ?_
 refine jA9 rfl rfl ?_
 refine qFA rfl jE7 (by simp only [Nat.zero_add]; rfl) rfl ?_
 first | refine jB7 0 rfl rfl tyA3 tyS3 rfl rfl ?_
 refine qM rfl rfl ?_
 refine jA9 rfl rfl ?_
 refine qFA rfl tyF178_0 (by simp only [Nat.add_zero]; rfl) rfl ?_
 first | refine jB7 0 rfl rfl tyA9 tyS9 rfl rfl ?_
 refine sq_lenS Tryz.underlying9 rfl rfl ?_
 refine sq_eql rfl rfl rfl ?_
 refine jE0 (hZ _ _ ?_)
 refine aF [(0, _), (1, _), (15, _)] (kR rfl) ?_
 refine aC rfl (fun h => ?_) (fun h => ?_)
 ·cases h
 refine aK ?_
 with_reducible refine nN ?_
 refine aS ?_
 refine jB9 mixed (by kernel_rfl) (fun Z hZ => ?_)
 refine qM rfl rfl ?_
 refine jA9 rfl rfl ?_
 refine qFA rfl tyF178_0 (by simp only [Nat.add_zero]; rfl) rfl ?_
 first | refine jB7 0 rfl rfl tyA9 tyS9 rfl rfl ?_
 refine qM rfl rfl ?_
 refine jA9 rfl rfl ?_
 refine qFA rfl jE7 (by simp only [Nat.zero_add]; rfl) rfl ?_
 first | refine jB7 0 rfl rfl tyA3 tyS3 rfl rfl ?_
 refine sq_indexS (c := 34) Tryz.underlying9 rfl rfl (by decide) rfl rfl ?_
 refine jB3 rfl rfl ?_
 refine jE0 (hZ _ _ ?_)
 refine aF [(0, _), (1, _), (5, _)] (kR rfl) ?_
 refine aB ?_
 refine aR fun Z hZ => sM rfl rfl ?_
 refine jC8 rfl rfl rfl ?_
 refine sA rfl rfl <| sN (hZ _ _ ?_)
 refine aF [(0, _), (1, _), (5, _), (27, _)] (kR rfl) ?_
 refine aC rfl (fun h1 => ?_) (fun h1 => ?_)
 ·cases h1
 refine aR fun Z hZ => sM rfl rfl ?_
 refine jC8 rfl rfl rfl ?_
 refine sA rfl rfl <| sN (hZ _ _ ?_)
 refine aF [(0, _), (1, _), (5, _), (32, _)] (kR rfl) ?_
 refine aC rfl (fun h2 => ?_) (fun h2 => ?_)
 ·cases h2
 refine aR fun Z hZ => sM rfl rfl ?_
 refine jC8 rfl rfl rfl ?_
 refine sA rfl rfl <| sN (hZ _ _ ?_)
 refine aF [(0, _), (1, _), (5, _), (38, _)] (kR rfl) ?_
 refine aC rfl (fun h3 => ?_) (fun h3 => ?_)
 ·cases h3
 refine aR fun Z hZ => sM rfl rfl ?_
 refine jC8 rfl rfl rfl ?_
 refine sA rfl rfl <| sN (hZ _ _ ?_)
 refine aF [(0, _), (1, _), (5, _), (44, _)] (kR rfl) ?_
 refine aC rfl (fun h4 => ?_) (fun h4 => ?_)
 ·refine aR (fun Z hZ => ?_)
  refine sM rfl rfl ?_
  refine jB0 [0] [] ht rfl rfl (by simp) rfl ?_
  rintro v H' ⟨rfl, rfl⟩
  refine jC0 (by simp only [List.filter_cons, List.filter_nil, Ent.wr, if_true, qS, pick]; first | done | rfl) ?_
  rw [tk2]
  refine sx_mkIface Tryz.underlying9 rfl rfl rfl ?_
  refine sA rfl rfl <| sN (hZ _ _ ?_)
  refine aF [(4, _)] (Kn.cons rfl (Kn.nil)) ?_
  refine aE ?_
  repeat (with_reducible (first | refine nTR ?_ | refine nBR ?_))
  exact jD4 _ rfl rfl (HLe.refl _) ⟨rfl, rfl⟩
 ·cases h4
theorem elemPair : ElemOk Tryz.prog 108 279 2 32 := ElemOk.mk_ (z := .agg #[.string ⟨#[]⟩, .nilIface]) Tryz.underlying108 (by kernel_rfl) rfl (by omega)
theorem named_fn (s : List UInt8) : Fn Tryz.prog 170 [.string (str s)] [] fun _ H' => H' = [] := by
 refine Fn.enter (N := 4) Tryz.func170 rfl (by kernel_rfl) rfl (fun w0 => ?_)
 refine aR (fun Z hZ => ?_)
 refine jC3 rfl rfl rfl (fun g1 => ?_)
 refine sA rfl rfl <| sN (hZ _ _ ?_)
 refine aF [(1, _)] (Kn.cons rfl (Kn.nil)) ?_
 refine aR (fun Z hZ => ?_)
 refine sx_makeFunc rfl rfl ?_
 refine sA rfl rfl <| sN (hZ _ _ ?_)
 refine aF [(2, _)] (Kn.cons rfl (Kn.nil)) ?_
 refine aE ?_
 exact jD4 [] rfl rfl (HLe.sub (List.nil_sublist _)) rfl
theorem ixf0_fn (A : Option Addr) (c : Nat) (f : Value) : Fn Tryz.prog 193 [.slice A 0 c, f] [] fun v _ => v = iq (-1) := by
 refine Fn.enter (N := 19) Tryz.func193 rfl (by kernel_rfl) rfl (fun w0 => ?_)
 refine aR fun Z hZ => sA rfl rfl <| sN (hZ _ _ ?_)
 refine aF [(0, _), (1, _)] (kR rfl) ?_
 refine aS ?_
 refine aR fun Z hZ => sM rfl rfl ?_
 refine jD9 Tryz.underlying108 rfl rfl ?_
 refine sM rfl rfl <| sN (hZ _ _ ?_)
 refine aF [(0, _), (1, _), (7, _), (8, _)] (kR rfl) ?_
 refine aB ?_
 refine jB6 (ι := Unit) (fun _ => [(0, .slice A 0 c), (1, f), (7, iq 0), (8, iq 0)]) (fun _ => []) (fun _ => True) (fun _ => 0) () trivial (kR rfl) (HLe.sub (List.nil_sublist _)) ?_
 rintro ⟨⟩ -
 refine aR (fun Z hZ => ?_)
 refine jC4 rfl rfl rfl ?_
 refine sN (hZ _ _ ?_)
 refine aF [(0, _), (1, _), (7, _), (8, _), (9, _)] (kR rfl) ?_
 refine aS (aC rfl (fun h => ?_) (fun h => ?_))
 ·cases h
 ·refine jB1 ?_
  repeat (with_reducible refine nTE ?_)
  with_reducible refine nBE ?_
  with_reducible refine nN ?_
  refine aR fun Z hZ => sA rfl rfl <| sN (hZ _ _ ?_)
  refine aF [(4, _)] (Kn.cons rfl (Kn.nil)) ?_
  refine aE ?_
  exact nR1 rfl rfl rfl
theorem cof0_fn (A : Option Addr) (c : Nat) (f : Value) : Fn Tryz.prog 169 [.slice A 0 c, f] [] fun v _ => v = .bool false := by
 refine Fn.enter (N := 9) Tryz.func169 rfl (by kernel_rfl) rfl (fun w0 => ?_)
 refine aR fun Z hZ => sA rfl rfl <| sN (hZ _ _ ?_)
 refine aF [(0, _), (1, _)] (kR rfl) ?_
 refine aR fun Z hZ => sM rfl rfl <| sM rfl rfl ?_
 refine sCP (ixf0_fn A c f) rfl rfl ?_
 refine sx_geq rfl rfl rfl ?_
 refine sA rfl rfl <| sN (hZ _ _ ?_)
 refine aF [(4, _)] (Kn.cons rfl (Kn.nil)) ?_
 refine aE ?_
 exact nR1 rfl rfl rfl
abbrev objH (g gr gl gd deep : Nat) (l : Value) (a : Nat) : Heap := [rdr g nS a 0, .own gr 176 [ptr g 0], .own gl 108 [l], .own gd 3 [iq (deep : Nat)]]
theorem obj1_fn (g gr gl gd gs deep : Nat) (hd : deep ≤ 3) :
  Fn Tryz.prog 168 [iq 0, ptr gr 0, ptr gl 0, ptr gd 0] (objH g gr gl gd deep (.slice (some ⟨gs, 0, none⟩) 0 0) 1 ++ rowE (.slice (some ⟨gs, 0, none⟩) 0 0) 279 2 []) fun v H' => v = .tuple #[] ∧ ∃ A c, H' = objH g gr gl gd deep (.slice A 1 c) 11 := by
 have ht := rtext_fn g nS 1 4 (by decide) rfl (plC8_of (by decide)) rfl
 have hb := rblank_fn g nS 7 0 (by decide) (by decide)
 have hs := rsign_fn g nS 7 0 58 (by decide) (by decide)
 rw [show jF5 nS 7 = 7 by decide] at hb
 rw [show signB nS 7 58 = true by decide, if_pos rfl, show jF5 nS 8 = 8 by decide] at hs
 have hv := rvaluex_fn g (deep + 1) (by omega)
 refine Fn.enter (N := 48) Tryz.func168 rfl (by kernel_rfl) rfl (fun w0 => ?_)
 refine aR (fun Z hZ => ?_)
 refine sL 1 rfl rfl tyA176 tyS176 rfl rfl ?_
 refine jA5 rfl rfl ?_
 refine sFA rfl jE7 (by simp only [Nat.zero_add]; rfl) rfl ?_
 refine sL 0 rfl rfl tyA3 tyS3 rfl rfl ?_
 refine sA rfl rfl <| sN (hZ _ _ ?_)
 refine aF [(1, _), (2, _), (3, _), (5, _)] (kR rfl) ?_
 refine aR (fun Z hZ => ?_)
 refine sL 1 rfl rfl tyA176 tyS176 rfl rfl ?_
 refine jB0 [0] [1, 2, 3, 4] ht rfl rfl (by simp) rfl ?_
 rintro v H' ⟨rfl, rfl⟩
 refine jC0 (by simp only [List.filter_cons, List.filter_nil, Ent.wr, if_true, qS, pick, List.filterMap_cons]; first | done | rfl) ?_
 rw [tk1]
 refine sA rfl rfl <| sN (hZ _ _ ?_)
 refine aF [(1, _), (2, _), (3, _), (5, _), (6, _)] (kR rfl) ?_
 refine aS ?_
 refine jD0 _ [(0, true), (1, true), (2, true), (3, true), (4, true), (5, true), (6, true), (7, true), (8, false), (9, false), (10, true)] mixed (by kernel_rfl) (HLe.pick [0, 1, 2] (by simp) (by simp only [pick, List.filterMap_cons, qS]; rfl)) (fun Z hZ => ?_)
 refine tw_p rfl ?_
 refine jE6 1 rfl rfl tyA176 tyS176 rfl rfl ?_
 refine vN ?_
 refine tw_p rfl ?_
 refine jF6 rfl rfl ?_
 refine vN ?_
 refine tw_p rfl ?_
 refine jA2 rfl tyF178_2 (by simp only [Nat.zero_add]; rfl) rfl ?_
 refine vN ?_
 refine tw_p rfl ?_
 refine jE6 0 rfl rfl tyA32 tyS32 rfl rfl ?_
 refine vN ?_
 refine tw_p rfl ?_
 refine sv_eql rfl rfl rfl ?_
 refine vN ?_
 refine tw_p rfl ?_
 refine jA3 rfl rfl ?_
 refine vN ?_
 refine tw_force 18 rfl true (by first | rfl | (simp; done) | (simp; omega) | (simp [hF]; done)) ?_
 refine tw_p rfl ?_
 refine sv_on rfl rfl rfl ?_
 refine jE6 2 rfl rfl tyA108 tyS108 rfl rfl ?_
 refine vN ?_
 refine tw_p rfl ?_
 refine sv_on rfl rfl rfl ?_
 refine jA3 rfl rfl ?_
 refine vN ?_
 refine tw_g rfl ?_
 refine sOn rfl rfl rfl ?_
 refine jD3 [] _ (named_fn _) rfl (HLe.refl _) rfl ?_
 rintro v8 H' rfl
 refine sN ⟨HLe.pick [0, 1, 2] (by simp) rfl, ?_⟩
 refine tw_g rfl ?_
 refine sOn rfl rfl rfl ?_
 refine sCP (cof0_fn _ _ _) rfl rfl ?_
 refine sN ⟨HLe.pick [0, 1, 2] (by simp) rfl, ?_⟩
 refine tw_p rfl ?_
 refine sv_pick rfl rfl rfl ?_
 refine vN ?_
 refine jH2 (hZ _ _ ?_)
 refine aF [(1, _), (2, _), (3, _), (5, _), (6, _), (23, _)] (kR rfl) ?_
 refine aC rfl (fun h => ?_) (fun h => ?_)
 ·cases h
 refine aK ?_
 with_reducible refine nN ?_
 refine jA8 (objH g gr gl gd deep (.slice (some ⟨gs, 0, none⟩) 0 0) 7 ++ rowE (.slice (some ⟨gs, 0, none⟩) 0 0) 279 2 []) (HLe.refl _) ?_
 refine aS ?_
 refine aR (fun Z hZ => ?_)
 refine sL 1 rfl rfl tyA176 tyS176 rfl rfl ?_
 refine jA5 rfl rfl ?_
 refine sFA rfl tyF178_2 (by simp only [Nat.zero_add]; rfl) rfl ?_
 refine sL 0 rfl rfl tyA32 tyS32 rfl rfl ?_
 refine jE5 rfl rfl rfl ?_
 refine sN (hZ _ _ ?_)
 refine aF [(1, _), (2, _), (3, _), (6, _), (31, _)] (kR rfl) ?_
 refine aC rfl (fun h => ?_) (fun h => ?_)
 ·cases h
 refine aK ?_
 with_reducible refine nN ?_
 refine aR (fun Z hZ => ?_)
 refine sL 1 rfl rfl tyA176 tyS176 rfl rfl ?_
 refine jB0 [0] [1, 2, 3, 4] hb rfl rfl (by simp) rfl ?_
 rintro v H' ⟨rfl, rfl⟩
 refine jC0 (by simp only [List.filter_cons, List.filter_nil, Ent.wr, if_true, qS, pick, List.filterMap_cons]; first | done | rfl) ?_
 refine sN (hZ _ _ ?_)
 refine aF [(1, _), (2, _), (3, _), (6, _)] (kR rfl) ?_
 refine aS ?_
 refine aR (fun Z hZ => ?_)
 refine sL 1 rfl rfl tyA176 tyS176 rfl rfl ?_
 refine jB0 [0] [1, 2, 3, 4] hs rfl rfl (by simp) rfl ?_
 rintro v H' ⟨rfl, rfl⟩
 refine jC0 (by simp only [List.filter_cons, List.filter_nil, Ent.wr, if_true, qS, pick, List.filterMap_cons]; first | done | rfl) ?_
 refine sx_not rfl rfl ?_
 refine sN (hZ _ _ ?_)
 refine aF [(1, _), (2, _), (3, _), (6, _), (36, _)] (kR rfl) ?_
 refine aC rfl (fun h => ?_) (fun h => ?_)
 ·cases h
 refine aK ?_
 with_reducible refine nN ?_
 refine awf_region _ [(0, true), (1, true), (2, true), (3, true), (4, true), (5, false), (6, true), (7, false), (8, false)] 9 rfl mixed (by kernel_rfl) (HLe.pick [1, 2, 3] (by simp) (by simp only [pick, List.filterMap_cons, qS]; rfl)) (fun Z hZ => ?_)
 refine tw_p rfl ?_
 refine jE6 1 rfl rfl tyA108 tyS108 rfl rfl ?_
 refine vN ?_
 refine tw_p rfl ?_
 refine jA3 rfl rfl ?_
 refine vN ?_
 refine tw_p rfl ?_
 refine jE6 0 rfl rfl tyA176 tyS176 rfl rfl ?_
 refine vN ?_
 refine tw_p rfl ?_
 refine jE6 2 rfl rfl tyA3 tyS3 rfl rfl ?_
 refine vN ?_
 refine tw_p rfl ?_
 refine sv_add rfl rfl ((deep + 1 : Nat) : Int) (by rw [IntWalk.i64_in _ (by omega)]; omega) rfl ?_
 refine vN ?_
 refine tw_g rfl ?_
 refine sx_call [0] hv rfl rfl (by simp) rfl ?_
 rintro v H' ⟨rfl, rfl⟩
 refine sN ⟨HLe.pick [1, 2, 3] (by simp) rfl, ?_⟩
 refine tw_p rfl ?_
 refine sv_build tyZ279 tyP279 rfl rfl (by simp only [qS, Nat.reduceAdd, Value.cells, wrV]; rfl) rfl ?_
 refine vN ?_
 refine tw_g rfl ?_
 refine sBS Tryz.underlying108 tyS279 tyZ279 rfl rfl rfl rfl (by simp only [qS, Nat.reduceAdd, Value.cells, wrV, Nat.reduceMul, Nat.zero_mul]; rfl) rfl (fun g1 => ?_)
 refine sN ⟨HLe.pick [2, 3, 4] (by simp) rfl, ?_⟩
 refine tw_g rfl ?_
 refine jD2 [_, _, _, _, _] elemPair rfl (RowOk.mk gs 0 0) rfl rfl (fun w hw => rd_own (i := 0) (n := 1) (xs := [.string (str [110, 97, 109, 101]), .iface 9 (.string (str [120]))]) rfl rfl hw) rfl (by show _ ≤ 9223372036854775807; omega) (by omega) (HLe.refl _) rfl (fun v2 hv2 => ?_)
 obtain ⟨A2, c2, rfl, hA2⟩ := hv2.form
 refine sN ⟨HLe.pick [2, 3, 4] (by simp) rfl, ?_⟩
 refine jH2 ?_
 refine sS1 3 rfl rfl rfl tyS108 rfl rfl (by simp only [qS]; rfl) (by simp only []; rfl) ?_
 refine sN (hZ _ _ ?_)
 refine nF [] (Kn.nil) ?_
 exact nx_end0h (objH g gr gl gd deep (.slice A2 1 c2) 11) rfl (HLe.pick [1, 2, 3, 4] (by simp) rfl) ⟨rfl, A2, c2, rfl⟩
theorem reach1_fn (g gr gl gd gs deep : Nat) (hd : deep ≤ 3) :
  Fn Tryz.prog 166 [ptr g 0, iq (deep : Nat), .int .u8 123, .int .u8 125, .func (.func 168) #[] #[ptr gr 0, ptr gl 0, ptr gd 0]] (objH g gr gl gd deep (.slice (some ⟨gs, 0, none⟩) 0 0) 0 ++ rowE (.slice (some ⟨gs, 0, none⟩) 0 0) 279 2 []) fun v H' => v = .tuple #[] ∧ ∃ A c, H' = objH g gr gl gd deep (.slice A 1 c) 12 := by
 have h1 := rsign_fn g nS 0 0 123 (by decide) (by decide)
 rw [show signB nS 0 123 = true by decide, if_pos rfl, show jF5 nS 1 = 1 by decide] at h1
 have h2 := rend_fn g nS 1 0 125 (by decide) (by decide)
 rw [show signB nS 1 125 = false by decide, if_neg (by decide)] at h2
 have h3 := obj1_fn g gr gl gd gs deep hd
 have h4 := rblank_fn g nS 11 0 (by decide) (by decide)
 rw [show jF5 nS 11 = 11 by decide] at h4
 have h5 := rend_fn g nS 11 0 125 (by decide) (by decide)
 rw [show signB nS 11 125 = true by decide, if_pos rfl] at h5
 refine Fn.enter (N := 70) Tryz.func166 rfl (by kernel_rfl) rfl (fun w0 => ?_)
 refine aS ?_
 refine aR fun Z hZ => sM rfl rfl ?_
 refine jF3 rfl rfl rfl ?_
 refine sN (hZ _ _ ?_)
 refine aF [(0, _), (2, _), (3, _), (4, _), (12, _)] (kR rfl) ?_
 refine aC rfl (fun h => ?_) (fun h => ?_)
 ·simp at h; omega
 refine aK ?_
 with_reducible refine nN ?_
 refine aR fun Z hZ => sM rfl rfl <| sM rfl rfl ?_
 refine jB0 [0] [1, 2, 3, 4] h1 rfl rfl (by simp) rfl ?_
 rintro v H' ⟨rfl, rfl⟩
 refine jC0 (by simp only [List.filter_cons, List.filter_nil, Ent.wr, if_true, qS, pick, List.filterMap_cons]; first | done | rfl) ?_
 refine sN (hZ _ _ ?_)
 refine aF [(0, _), (3, _), (4, _)] (kR rfl) ?_
 refine aS ?_
 refine aR fun Z hZ => sM rfl rfl <| sM rfl rfl ?_
 refine jB0 [0] [1, 2, 3, 4] h2 rfl rfl (by simp) rfl ?_
 rintro v H' ⟨rfl, rfl⟩
 refine jC0 (by simp only [List.filter_cons, List.filter_nil, Ent.wr, if_true, qS, pick, List.filterMap_cons]; first | done | rfl) ?_
 refine sN (hZ _ _ ?_)
 refine aF [(0, _), (3, _), (4, _), (24, _)] (kR rfl) ?_
 refine aC rfl (fun h => ?_) (fun h => ?_)
 ·cases h
 refine aK ?_
 with_reducible refine nN ?_
 refine aR fun Z hZ => sA rfl rfl <| sN (hZ _ _ ?_)
 refine aF [(0, _), (3, _), (4, _), (10, _)] (kR rfl) ?_
 refine aB ?_
 refine jB6 (ι := Unit) (fun _ => [(0, ptr g 0), (3, .int .u8 125), (4, .func (.func 168) #[] #[ptr gr 0, ptr gl 0, ptr gd 0]), (10, iq 0)]) (fun _ => objH g gr gl gd deep (.slice (some ⟨gs, 0, none⟩) 0 0) 1 ++ rowE (.slice (some ⟨gs, 0, none⟩) 0 0) 279 2 []) (fun _ => True) (fun _ => 0) () trivial (kR rfl) (HLe.refl _) ?_
 rintro ⟨⟩ -
 refine aS ?_
 refine aR fun Z hZ => sM rfl rfl ?_
 refine jA5 rfl rfl ?_
 refine sFA rfl tyF178_2 (by simp only [Nat.zero_add]; rfl) rfl ?_
 refine sL 0 rfl rfl tyA32 tyS32 rfl rfl ?_
 refine jC8 rfl rfl rfl ?_
 refine sN (hZ _ _ ?_)
 refine aF [(0, _), (3, _), (4, _), (10, _), (29, _)] (kR rfl) ?_
 refine aC rfl (fun h => ?_) (fun h => ?_)
 ·refine aK ?_
  with_reducible refine nN ?_
  refine aS (aB ?_)
  refine aS ?_
  refine jC6 [(0, ptr g 0), (3, .int .u8 125), (4, .func (.func 168) #[] #[ptr gr 0, ptr gl 0, ptr gd 0]), (10, iq 0), (45, .bool false)] (objH g gr gl gd deep (.slice (some ⟨gs, 0, none⟩) 0 0) 1 ++ rowE (.slice (some ⟨gs, 0, none⟩) 0 0) 279 2 []) mixed (by kernel_rfl) (fun Z hZ => ?_) ?_
  ·refine qM rfl rfl ?_
   refine sq_eql rfl rfl rfl ?_
   refine qM rfl rfl ?_
   refine jG4 34 rfl false (by decide) ?_
   refine qO rfl rfl rfl rfl rfl ?_
   refine qO rfl rfl rfl rfl rfl ?_
   refine qO rfl rfl rfl rfl rfl ?_
   refine qO rfl rfl rfl rfl rfl ?_
   refine qO rfl rfl rfl rfl rfl ?_
   refine qO rfl rfl rfl rfl rfl ?_
   refine qO rfl rfl rfl rfl rfl ?_
   refine qO rfl rfl rfl rfl rfl ?_
   refine qO rfl rfl rfl rfl rfl ?_
   refine qO rfl rfl rfl rfl rfl ?_
   refine jC5 rfl rfl rfl ?_
   refine jE0 (hZ _ _ ?_ ?_)
   ·exact kR rfl
   ·exact HLe.refl _
  refine aC rfl (fun h => ?_) (fun h => ?_)
  ·cases h
  refine aK ?_
  with_reducible refine nN ?_
  refine aR fun Z hZ => sM rfl rfl <| sM rfl rfl ?_
  refine sx_callFO (vs := [iq 0]) (caps := [ptr gr 0, ptr gl 0, ptr gd 0]) (objH g gr gl gd deep (.slice (some ⟨gs, 0, none⟩) 0 0) 1 ++ rowE (.slice (some ⟨gs, 0, none⟩) 0 0) 279 2 []) [] h3 rfl rfl (by rw [List.append_nil]; exact HLe.refl _) rfl ?_
  rintro v H' ⟨rfl, A, c, rfl⟩
  refine jC1 (objH g gr gl gd deep (.slice A 1 c) 11) (HLe.refl _) ?_
  refine sN (hZ _ _ ?_)
  refine aF [(0, _), (3, _), (4, _), (10, _)] (kR rfl) ?_
  refine aS ?_
  refine aR fun Z hZ => sM rfl rfl ?_
  refine jA5 rfl rfl ?_
  refine sFA rfl tyF178_2 (by simp only [Nat.zero_add]; rfl) rfl ?_
  refine sL 0 rfl rfl tyA32 tyS32 rfl rfl ?_
  refine jE5 rfl rfl rfl ?_
  refine sN (hZ _ _ ?_)
  refine aF [(0, _), (3, _), (4, _), (10, _), (59, _)] (kR rfl) ?_
  refine aC rfl (fun h1 => ?_) (fun h1 => ?_)
  ·cases h1
  refine aK ?_
  with_reducible refine nN ?_
  refine aR fun Z hZ => sM rfl rfl ?_
  refine jB0 [0] [1, 2, 3] h4 rfl rfl (by simp) rfl ?_
  rintro v H' ⟨rfl, rfl⟩
  refine jC0 (by simp only [List.filter_cons, List.filter_nil, Ent.wr, if_true, qS, pick, List.filterMap_cons]; first | done | rfl) ?_
  refine sN (hZ _ _ ?_)
  refine aF [(0, _), (3, _), (4, _), (10, _)] (kR rfl) ?_
  refine aS ?_
  refine aR fun Z hZ => sM rfl rfl <| sM rfl rfl ?_
  refine jB0 [0] [1, 2, 3] h5 rfl rfl (by simp) rfl ?_
  rintro v H' ⟨rfl, rfl⟩
  refine jC0 (by simp only [List.filter_cons, List.filter_nil, Ent.wr, if_true, qS, pick, List.filterMap_cons]; first | done | rfl) ?_
  refine sN (hZ _ _ ?_)
  refine aF [(0, _), (3, _), (4, _), (10, _), (64, _)] (kR rfl) ?_
  refine aC rfl (fun h2 => ?_) (fun h2 => ?_)
  ·refine aE ?_
   repeat (with_reducible (first | refine nTR ?_ | refine nBR ?_))
   exact nx_ret0h (objH g gr gl gd deep (.slice A 1 c) 12) rfl (HLe.refl _) ⟨rfl, A, c, rfl⟩
  ·cases h2
 ·cases h
theorem robject1_fn (g : Nat) (deep : Nat) (hd : deep ≤ 3) :
  Fn Tryz.prog 136 [ptr g 0, iq (deep : Nat)] [rdr g nS 0 0] fun v H' => (∃ x, v = .iface 108 x) ∧ H' = [rdr g nS 12 0] := by
 refine Fn.enter (N := 13) Tryz.func136 rfl (by kernel_rfl) rfl (fun w0 => ?_)
 refine aR (fun Z hZ => ?_)
 refine jC3 rfl rfl rfl (fun g1 => ?_)
 refine jC3 rfl rfl rfl (fun g2 => ?_)
 refine sA rfl rfl <| sN (hZ _ _ ?_)
 refine aF [(2, _), (3, _)] (kR rfl) ?_
 refine aR (fun Z hZ => ?_)
 refine sx_buildSlice0 Tryz.underlying108 tyS279 rfl (fun gs => ?_)
 refine sAl tyZ108 rfl (fun g3 => ?_)
 refine sS1 0 rfl rfl rfl tyS108 rfl rfl (by simp only [List.set_cons_zero]; rfl) (by simp only [List.set_cons_zero]; rfl) ?_
 refine sN (hZ _ _ ?_)
 refine aF [(2, _), (3, _), (5, _)] (kR rfl) ?_
 refine jA8 (objH g g1 g3 g2 deep (.slice (some ⟨gs, 0, none⟩) 0 0) 0 ++ rowE (.slice (some ⟨gs, 0, none⟩) 0 0) 279 2 []) ((HLe.ownRow (size := 2) (n := 0) [rdr g nS 0 0, .own g1 176 [ptr g 0], .own g3 108 [.slice (some ⟨gs, 0, none⟩) 0 0], .own g2 3 [iq (deep : Nat)]] [] rfl (Nat.zero_le _)).trans (HLe.pick [4, 3, 0, 2, 1] (by simp) rfl)) ?_
 refine aR (fun Z hZ => ?_)
 refine sL 1 rfl rfl tyA176 tyS176 rfl rfl ?_
 refine sL 3 rfl rfl tyA3 tyS3 rfl rfl ?_
 refine sx_makeFunc rfl rfl ?_
 refine jD3 (objH g g1 g3 g2 deep (.slice (some ⟨gs, 0, none⟩) 0 0) 0 ++ rowE (.slice (some ⟨gs, 0, none⟩) 0 0) 279 2 []) [] (reach1_fn g g1 g3 g2 gs deep hd) rfl (by rw [List.append_nil]; exact HLe.refl _) rfl ?_
 rintro v H' ⟨rfl, A, c, rfl⟩
 refine jC1 (objH g g1 g3 g2 deep (.slice A 1 c) 12) (HLe.refl _) ?_
 refine sN (hZ _ _ ?_)
 refine aF [(5, _)] (Kn.cons rfl (Kn.nil)) ?_
 refine aR (fun Z hZ => ?_)
 refine sL 2 rfl rfl tyA108 tyS108 rfl rfl ?_
 refine sx_mkIface Tryz.underlying108 rfl rfl rfl ?_
 refine sA rfl rfl <| sN (hZ _ _ ?_)
 refine aF [(4, _)] (Kn.cons rfl (Kn.nil)) ?_
 refine aE ?_
 exact jD4 [rdr g nS 12 0] rfl rfl (HLe.pick [0] (by simp) rfl) ⟨⟨_, rfl⟩, rfl⟩
theorem rvalue1_fn (g : Nat) (deep : Nat) (hd : deep ≤ 3) :
  Fn Tryz.prog 86 [ptr g 0, iq (deep : Nat)] [rdr g nS 0 0] fun v H' => (∃ x, v = .iface 108 x) ∧ H' = [rdr g nS 12 0] := by
 refine Fn.enter (N := 74) Tryz.func86 rfl (by kernel_rfl) rfl (fun w0 => ?_)
 refine aR fun Z hZ => sA rfl rfl <| sN (hZ _ _ ?_)
 refine aF [(0, _), (1, _)] (kR rfl) ?_
 refine aS ?_
 refine jB9 mixed (by kernel_rfl) (fun Z hZ => ?_)
 refine qM rfl rfl ?_
 refine jA9 rfl rfl ?_
 refine qFA rfl jE7 (by simp only [Nat.zero_add]; rfl) rfl ?_
 first | refine jB7 0 rfl rfl tyA3 tyS3 rfl rfl ?_
 refine qM rfl rfl ?_
 refine jA9 rfl rfl ?_
 refine qFA rfl tyF178_0 (by simp only [Nat.add_zero]; rfl) rfl ?_
 first | refine jB7 0 rfl rfl tyA9 tyS9 rfl rfl ?_
 refine sq_lenS Tryz.underlying9 rfl rfl ?_
 refine sq_eql rfl rfl rfl ?_
 refine jE0 (hZ _ _ ?_)
 refine aF [(0, _), (1, _), (15, _)] (kR rfl) ?_
 refine aC rfl (fun h => ?_) (fun h => ?_)
 ·cases h
 refine aK ?_
 with_reducible refine nN ?_
 refine aS ?_
 refine jB9 mixed (by kernel_rfl) (fun Z hZ => ?_)
 refine qM rfl rfl ?_
 refine jA9 rfl rfl ?_
 refine qFA rfl tyF178_0 (by simp only [Nat.add_zero]; rfl) rfl ?_
 first | refine jB7 0 rfl rfl tyA9 tyS9 rfl rfl ?_
 refine qM rfl rfl ?_
 refine jA9 rfl rfl ?_
 refine qFA rfl jE7 (by simp only [Nat.zero_add]; rfl) rfl ?_
 first | refine jB7 0 rfl rfl tyA3 tyS3 rfl rfl ?_
 refine sq_indexS (c := 123) Tryz.underlying9 rfl rfl (by decide) rfl rfl ?_
 refine jB3 rfl rfl ?_
 refine jE0 (hZ _ _ ?_)
 refine aF [(0, _), (1, _), (5, _)] (kR rfl) ?_
 refine aB ?_
 refine aR fun Z hZ => sM rfl rfl ?_
 refine jC8 rfl rfl rfl ?_
 refine sA rfl rfl <| sN (hZ _ _ ?_)
 refine aF [(0, _), (1, _), (5, _), (27, _)] (kR rfl) ?_
 refine aC rfl (fun h1 => ?_) (fun h1 => ?_)
 ·cases h1
 refine aR fun Z hZ => sM rfl rfl ?_
 refine jC8 rfl rfl rfl ?_
 refine sA rfl rfl <| sN (hZ _ _ ?_)
 refine aF [(0, _), (1, _), (5, _), (32, _)] (kR rfl) ?_
 refine aC rfl (fun h2 => ?_) (fun h2 => ?_)
 ·cases h2
 refine aR fun Z hZ => sM rfl rfl ?_
 refine jC8 rfl rfl rfl ?_
 refine sA rfl rfl <| sN (hZ _ _ ?_)
 refine aF [(0, _), (1, _), (5, _), (38, _)] (kR rfl) ?_
 refine aC rfl (fun h3 => ?_) (fun h3 => ?_)
 ·cases h3
 refine aR fun Z hZ => sM rfl rfl ?_
 refine jC8 rfl rfl rfl ?_
 refine sA rfl rfl <| sN (hZ _ _ ?_)
 refine aF [(0, _), (1, _), (5, _), (44, _)] (kR rfl) ?_
 refine aC rfl (fun h4 => ?_) (fun h4 => ?_)
 ·cases h4
 refine aR fun Z hZ => sM rfl rfl ?_
 refine jC8 rfl rfl rfl ?_
 refine sA rfl rfl <| sN (hZ _ _ ?_)
 refine aF [(0, _), (1, _), (5, _), (50, _)] (kR rfl) ?_
 refine aC rfl (fun h5 => ?_) (fun h5 => ?_)
 ·cases h5
 refine aR fun Z hZ => sM rfl rfl ?_
 refine jC8 rfl rfl rfl ?_
 refine sA rfl rfl <| sN (hZ _ _ ?_)
 refine aF [(0, _), (1, _), (5, _), (56, _)] (kR rfl) ?_
 refine aC rfl (fun h6 => ?_) (fun h6 => ?_)
 ·refine aR (fun Z hZ => ?_)
  refine sM rfl rfl <| sM rfl rfl ?_
  refine jB0 [0] [] (robject1_fn g deep hd) rfl rfl (by simp) rfl ?_
  rintro v H' ⟨⟨x, rfl⟩, rfl⟩
  refine jC0 (by simp only [List.filter_cons, List.filter_nil, Ent.wr, if_true, qS, pick]; first | done | rfl) ?_
  refine sA rfl rfl <| sN (hZ _ _ ?_)
  refine aF [(4, _)] (Kn.cons rfl (Kn.nil)) ?_
  refine aE ?_
  repeat (with_reducible (first | refine nTR ?_ | refine nBR ?_))
  exact jD4 _ rfl rfl (HLe.refl _) ⟨⟨x, rfl⟩, rfl⟩
 ·cases h6
theorem noteX : NoteOk nS := by
 have h1 := fun g => rblank_fn g nS 0 0 (by decide) (by decide)
 have h2 := fun g => rblank_fn g nS 12 0 (by decide) (by decide)
 rw [show jF5 nS 0 = 0 by decide] at h1
 rw [show jF5 nS 12 = 12 by decide] at h2
 unfold NoteOk
 refine Fn.enter (N := 52) Tryz.func45 rfl (by kernel_rfl) rfl (fun w0 => ?_)
 refine aR fun Z hZ => sA rfl rfl <| sA rfl rfl <| sA rfl rfl <| sN (hZ _ _ ?_)
 refine aF [(0, _)] (Kn.cons rfl (Kn.nil)) ?_
 refine aS ?_
 refine aR fun Z hZ => sM rfl rfl ?_
 refine jF0 Tryz.underlying9 rfl rfl ?_
 refine jF3 rfl rfl rfl ?_
 refine sN (hZ _ _ ?_)
 refine aF [(0, _), (8, _)] (kR rfl) ?_
 refine aC rfl (fun h => ?_) (fun h => ?_)
 ·cases h
 refine aK ?_
 with_reducible refine nN ?_
 refine aR fun Z hZ => sM rfl rfl ?_
 refine jD1 tyZ178 tyP178 rfl rfl (by simp only [qS, Value.cells, wrV]; rfl) rfl ?_
 refine jC3 rfl rfl rfl (fun g1 => ?_)
 refine sA rfl rfl <| sN (hZ _ _ ?_)
 refine aF [(0, _), (5, _)] (kR rfl) ?_
 refine aR fun Z hZ => sM rfl rfl ?_
 refine jB0 [0] [] (h1 g1) rfl rfl (by simp) rfl ?_
 rintro v H' ⟨rfl, rfl⟩
 refine jC0 (by simp only [List.filter_cons, List.filter_nil, Ent.wr, if_true, qS, pick]; first | done | rfl) ?_
 refine sN (hZ _ _ ?_)
 refine aF [(0, _), (5, _)] (kR rfl) ?_
 refine aR fun Z hZ => sM rfl rfl ?_
 refine jB0 [0] [] (rvalue1_fn g1 1 (by omega)) rfl rfl (by simp) rfl ?_
 rintro v H' ⟨⟨x, rfl⟩, rfl⟩
 refine jC0 (by simp only [List.filter_cons, List.filter_nil, Ent.wr, if_true, qS, pick]; first | done | rfl) ?_
 refine sA rfl rfl <| sN (hZ _ _ ?_)
 refine aF [(0, _), (2, _), (5, _)] (kR rfl) ?_
 refine aS ?_
 refine aR fun Z hZ => sM rfl rfl ?_
 refine jA5 rfl rfl ?_
 refine sFA rfl tyF178_2 (by simp only [Nat.zero_add]; rfl) rfl ?_
 first | refine sL 0 rfl rfl tyA32 tyS32 rfl rfl ?_
 refine jC8 rfl rfl rfl ?_
 refine sN (hZ _ _ ?_)
 refine aF [(0, _), (2, _), (5, _), (20, _)] (kR rfl) ?_
 refine aC rfl (fun h => ?_) (fun h => ?_)
 ·refine aR (fun Z hZ => ?_)
  refine sM rfl rfl ?_
  refine jB0 [0] [] (h2 g1) rfl rfl (by simp) rfl ?_
  rintro v H' ⟨rfl, rfl⟩
  refine jC0 (by simp only [List.filter_cons, List.filter_nil, Ent.wr, if_true, qS, pick]; first | done | rfl) ?_
  refine sN (hZ _ _ ?_)
  refine aF [(0, _), (2, _), (5, _)] (kR rfl) ?_
  refine aR fun Z hZ => sM rfl rfl ?_
  refine jA5 rfl rfl ?_
  refine sFA rfl jE7 (by simp only [Nat.zero_add]; rfl) rfl ?_
  first | refine sL 0 rfl rfl tyA3 tyS3 rfl rfl ?_
  refine sM rfl rfl ?_
  refine jF0 Tryz.underlying9 rfl rfl ?_
  refine jC4 rfl rfl rfl ?_
  refine sN (hZ _ _ ?_)
  refine aF [(0, _), (2, _), (5, _), (29, _)] (kR rfl) ?_
  refine aC rfl (fun h2 => ?_) (fun h2 => ?_)
  ·cases h2
  refine aK ?_
  with_reducible refine nN ?_
  refine aS ?_
  refine aR fun Z hZ => sM rfl rfl ?_
  refine jA5 rfl rfl ?_
  refine sFA rfl tyF178_2 (by simp only [Nat.zero_add]; rfl) rfl ?_
  first | refine sL 0 rfl rfl tyA32 tyS32 rfl rfl ?_
  refine jE5 rfl rfl rfl ?_
  refine sN (hZ _ _ ?_)
  refine aF [(0, _), (2, _), (5, _), (40, _)] (kR rfl) ?_
  refine aC rfl (fun h3 => ?_) (fun h3 => ?_)
  ·cases h3
  refine aK ?_
  with_reducible refine nN ?_
  refine aR fun Z hZ => sM rfl rfl <| sM rfl rfl ?_
  refine jF0 Tryz.underlying9 rfl rfl ?_
  refine sA rfl rfl <| sA rfl rfl <| sA rfl rfl <| sN (hZ _ _ ?_)
  refine aF [(2, _), (3, _), (4, _)] (kR rfl) ?_
  refine aE ?_
  exact jH5 [] rfl rfl rfl rfl (HLe.sub (List.nil_sublist _)) ⟨x, 12, rfl⟩
 ·cases h
end Go.Proofs.YtkojkeabelckjaaGreatDoor
end

section
set_option linter.all false
namespace Go.Proofs.YtkojkeabelckjaaGreatDoor
open Go.RowKit Go.Proofs.YtkojkeabelckjaaGreatDoor.V Go.Proofs.YtkojkeabelckjaaGreatDoor.V.L Go.Proofs.YtkojkeabelckjaaGreatDoor.Y
set_option maxRecDepth 100000
theorem own_lenT (L : List It) : (ownQ L).length ≤ L.length := by
 have h : ∀ (L acc : List It), ChOk acc → (L.foldl (fun acc e => putQ e.id e.tx acc) acc).length ≤ acc.length + L.length := by
  intro L
  induction L with
  | nil => exact fun _ _ => Nat.le_refl _
  | cons e r ih =>
   intro acc h
   have h1 := ih _ (h.putQ e.id e.tx)
   have h2 : (putQ e.id e.tx acc).length ≤ acc.length + 1 := by
    unfold putQ
    split
    ·rw [put_len h.rise]; split <;> omega
    ·omega
   rw [List.foldl_cons, List.length_cons]
   omega
 have := h L [] ChOk.nil
 simpa [ownQ] using this
structure PatIs (O Q : List It) (p : Pn) (s t : List UInt8) : Prop where
 es : prE O p = 0 ∧ prT O p = s
 et : prE Q p = 0 ∧ prT Q p = t
 l1 : s.length ≤ 60000
 l2 : t.length ≤ 60000
 rd1 : rdE s = 0 ∧ rdO s = O
 rd2 : rdE t = 0 ∧ rdO t = Q
 same : O = Q ↔ s = t
theorem pat_is {O Q : List It} {p : Pn} (h1 : Sm O p) (h2 : Sm Q p) : PatIs O Q p (prT O p) (prT Q p) := by
 have k1 := h1.pr
 have k2 := h2.pr
 refine ⟨⟨k1.e, rfl⟩, ⟨k2.e, rfl⟩, k1.len, k2.len, k1.read, k2.read, fun h => by rw [h], fun h => ?_⟩
 rw [← k1.read.2, ← k2.read.2, h]
theorem tpatches_fn (A : Option Addr) (c : Nat) (L : List It) (T : Heap) (hA : jH1 A L.length) (hT : 0 < L.length → T = roE A (jA0 L)) (hro : Ro T) (hL : L.length ≤ maxLen) (hE : ItsTx L)
  (B : Option Addr) (d : Nat) (M : List It) (U : Heap) (hB : jH1 B M.length) (hU : 0 < M.length → U = roE B (jA0 M)) (hroU : Ro U) (hM : M.length ≤ maxLen) (hF : ItsTx M) (kd : Nat) (hkd : kd < 256) :
  Fn Tryz.prog 3 [.slice A L.length c, .slice B M.length d, .int .u8 (kd : Nat)] (T ++ U) fun v _ => v = .bool true := by
 have o1 := over_fn A c L T hA hT hro hL hE 60 3000 (by decide) (by decide)
 have o2 := over_fn B d M U hB hU hroU hM hF 60 3000 (by decide) (by decide)
 refine Fn.enter (N := 118) Tryz.func3 rfl (by kernel_rfl) rfl (fun w0 => ?_)
 refine aR fun Z hZ => sA rfl rfl <| sN (hZ _ _ ?_)
 refine aF [(0, _), (1, _), (2, _)] (kR rfl) ?_
 by_cases hov : (3000 < jD8 L ∨ 60 < L.length) ∨ (3000 < jD8 M ∨ 60 < M.length)
 ·refine aS ?_
  refine jA7 [(29, .bool true)] [] (fun Z hZ => ?_) ?_
  ·refine sM rfl rfl ?_
   refine jD6 T o1 rfl (by repeat (first | exact List.Sublist.refl _ | exact List.nil_sublist _ | exact List.sublist_append_right _ _ | refine List.Sublist.trans ?_ (List.sublist_append_left _ _) | exact List.Sublist.cons_cons _ (List.nil_sublist _) | refine List.Sublist.cons _ ?_)) hro rfl ?_
   refine sM rfl rfl ?_
   refine jG0 26 rfl (fun hb2 => ?_) (fun hb2 => ?_)
   ·refine sO rfl rfl rfl rfl rfl ?_
    refine sO rfl rfl rfl rfl rfl ?_
    refine sP rfl rfl rfl ?_
    refine sN (hZ _ _ ?_ ?_)
    ·exact Kn.cons (congrArg some (congrArg Value.bool (by first | (simp at *; done) | (simp at *; omega)))) Kn.nil
    ·exact HLe.sub (List.nil_sublist _)
   ·refine sOn rfl rfl rfl ?_
    refine sM rfl rfl ?_
    refine sOn rfl rfl rfl ?_
    refine jD6 U o2 rfl (by repeat (first | exact List.Sublist.refl _ | exact List.nil_sublist _ | exact List.sublist_append_right _ _ | refine List.Sublist.trans ?_ (List.sublist_append_left _ _) | exact List.Sublist.cons_cons _ (List.nil_sublist _) | refine List.Sublist.cons _ ?_)) hroU rfl ?_
    refine sP rfl rfl rfl ?_
    refine sN (hZ _ _ ?_ ?_)
    ·exact Kn.cons (congrArg some (congrArg Value.bool (by first | (simp at *; done) | (simp at *; omega)))) Kn.nil
    ·exact HLe.sub (List.nil_sublist _)
  refine aC rfl (fun h => ?_) (fun h => ?_)
  ·refine aR (fun Z hZ => ?_)
   refine sCP tawake_fn rfl rfl ?_
   refine sA rfl rfl <| sN (hZ _ _ ?_)
   refine aF [(6, _)] (Kn.cons rfl (Kn.nil)) ?_
   refine aE ?_
   repeat (with_reducible refine nTR ?_)
   exact nR1 rfl rfl rfl
  ·cases h
 have n1 : jD8 L ≤ 3000 ∧ L.length ≤ 60 := by omega
 have n2 : jD8 M ≤ 3000 ∧ M.length ≤ 60 := by omega
 refine aS ?_
 refine jA7 [(0, .slice A L.length c), (1, .slice B M.length d), (2, .int .u8 (kd : Nat)), (29, .bool false)] (T ++ U) (fun Z hZ => ?_) ?_
 ·refine sM rfl rfl ?_
  refine jD6 T o1 rfl (by repeat (first | exact List.Sublist.refl _ | exact List.nil_sublist _ | exact List.sublist_append_right _ _ | refine List.Sublist.trans ?_ (List.sublist_append_left _ _) | exact List.Sublist.cons_cons _ (List.nil_sublist _) | refine List.Sublist.cons _ ?_)) hro rfl ?_
  refine sM rfl rfl ?_
  refine jG0 26 rfl (fun hb2 => ?_) (fun hb2 => ?_)
  ·refine sO rfl rfl rfl rfl rfl ?_
   refine sO rfl rfl rfl rfl rfl ?_
   refine sP rfl rfl rfl ?_
   refine sN (hZ _ _ ?_ ?_)
   ·exact Kn.cons rfl (Kn.cons rfl (Kn.cons rfl (Kn.cons (congrArg some (congrArg Value.bool (by first | (simp at *; done) | (simp at *; omega)))) Kn.nil)))
   ·exact HLe.refl _
  ·refine sOn rfl rfl rfl ?_
   refine sM rfl rfl ?_
   refine sOn rfl rfl rfl ?_
   refine jD6 U o2 rfl (by repeat (first | exact List.Sublist.refl _ | exact List.nil_sublist _ | exact List.sublist_append_right _ _ | refine List.Sublist.trans ?_ (List.sublist_append_left _ _) | exact List.Sublist.cons_cons _ (List.nil_sublist _) | refine List.Sublist.cons _ ?_)) hroU rfl ?_
   refine sP rfl rfl rfl ?_
   refine sN (hZ _ _ ?_ ?_)
   ·exact Kn.cons rfl (Kn.cons rfl (Kn.cons rfl (Kn.cons (congrArg some (congrArg Value.bool (by first | (simp at *; done) | (simp at *; omega)))) Kn.nil)))
   ·exact HLe.refl _
 refine aC rfl (fun h => ?_) (fun h => ?_)
 ·cases h
 refine aK ?_
 with_reducible refine nN ?_
 have hok1 := ownQ_ok L
 have hok2 := ownQ_ok M
 have hql1 : (ownQ L).length ≤ 60 := Nat.le_trans (own_lenT L) n1.2
 have hql2 : (ownQ M).length ≤ 60 := Nat.le_trans (own_lenT M) n2.2
 have hqb1 : jD8 (ownQ L) ≤ 3000 := Nat.le_trans (own_bytes L) n1.1
 have hqb2 : jD8 (ownQ M) ≤ 3000 := Nat.le_trans (own_bytes M) n2.1
 refine aR fun Z hZ => sM rfl rfl ?_
 refine sx_ownE L T hA hT hro (by repeat (first | exact List.Sublist.refl _ | exact List.nil_sublist _ | exact List.sublist_append_right _ _ | refine List.Sublist.trans ?_ (List.sublist_append_left _ _) | exact List.Sublist.cons_cons _ (List.nil_sublist _) | refine List.Sublist.cons _ ?_)) (by omega) rfl rfl (fun A1 c1 A2 c2 hA1 hA2 => ?_)
 refine sM rfl rfl <| sX rfl rfl rfl <| sX rfl rfl rfl ?_
 refine sAl tyZ27 rfl (fun g1 => ?_)
 first | refine sS 0 rfl rfl rfl tyS27 (by simp only [Value.cells]; rfl) rfl rfl (by simp only [qS]; rfl) (by simp only [qS, wrV]; rfl) (by simp only [List.set_cons_zero]; rfl) ?_
 refine sA rfl rfl <| sN (hZ _ _ ?_)
 refine aF [(1, _), (2, _), (7, _)] (kR rfl) ?_
 refine aR fun Z hZ => sM rfl rfl ?_
 refine sx_ownE M U hB hU hroU (by repeat (first | exact List.Sublist.refl _ | exact List.nil_sublist _ | exact List.sublist_append_right _ _ | refine List.Sublist.trans ?_ (List.sublist_append_left _ _) | exact List.Sublist.cons_cons _ (List.nil_sublist _) | refine List.Sublist.cons _ ?_)) (by omega) rfl rfl (fun A3 c3 A4 c4 hA3 hA4 => ?_)
 refine sM rfl rfl <| sX rfl rfl rfl <| sX rfl rfl rfl ?_
 refine sAl tyZ27 rfl (fun g2 => ?_)
 refine sS 0 rfl rfl rfl tyS27 (by simp only [Value.cells]; rfl) rfl rfl (by simp only [qS]; rfl) (by simp only [qS, wrV]; rfl) (by simp only [List.set_cons_zero]; rfl) ?_
 refine sA rfl rfl <| sN (hZ _ _ ?_)
 refine aF [(2, _), (7, _), (9, _)] (kR rfl) ?_
 obtain ⟨O, hO⟩ : ∃ O, ownQ L = O := ⟨_, rfl⟩
 obtain ⟨Q, hQ⟩ : ∃ Q, ownQ M = Q := ⟨_, rfl⟩
 rw [hO] at hok1 hA1 hA2 hql1 hqb1 ⊢
 rw [hQ] at hok2 hA3 hA4 hql2 hqb2 ⊢
 refine jA8 (.own g2 27 [.slice A3 Q.length c3] :: .own g1 27 [.slice A1 O.length c1] :: (roE A1 (jA0 O) ++ roE A3 (jA0 Q))) (HLe.sub (.cons_cons _ (.cons_cons _ ((List.Sublist.append ((List.sublist_append_right (T ++ U) _).trans (List.sublist_append_left _ _)) (List.Sublist.refl _)).trans (List.sublist_append_left _ _))))) ?_
 obtain ⟨kq, hkq⟩ : ∃ kq, kd % 6 = kq := ⟨_, rfl⟩
 have hkq5 : kq ≤ 5 := by omega
 obtain ⟨p, hp⟩ : ∃ p : Pn, p = ⟨512, kq, [123, 34, 110, 97, 109, 101, 34, 58, 34, 120, 34, 125]⟩ := ⟨_, rfl⟩
 have hsm : ∀ {X : List It}, ChOk X → X.length ≤ 60 → jD8 X ≤ 3000 → Sm X p := fun {X} a1 a2 a3 => by
  subst hp
  exact ⟨a1, by omega, by omega, ⟨by show 512 ≤ 512; omega, by show 512 ≤ 16257; omega⟩, hkq5, noteX, by show 12 ≤ 4096; omega⟩
 have hs1 := hsm hok1 hql1 hqb1
 have hs2 := hsm hok2 hql2 hqb2
 have hpi := pat_is hs1 hs2
 have hpc : p.cells = [iq 512, .int .u8 (kq : Nat), .string (str [123, 34, 110, 97, 109, 101, 34, 58, 34, 120, 34, 125])] := by subst hp; rfl
 have p1 := press_fn A1 c1 O (roE A1 (jA0 O)) hA1.arg (fun _ => rfl) (Ro.roE _ _) p hs1.pr.ok
 have p2 := press_fn A3 c3 Q (roE A3 (jA0 Q)) hA3.arg (fun _ => rfl) (Ro.roE _ _) p hs2.pr.ok
 obtain ⟨s, hs⟩ : ∃ s, prT O p = s := ⟨_, rfl⟩
 obtain ⟨t, ht⟩ : ∃ t, prT Q p = t := ⟨_, rfl⟩
 rw [hs, ht] at hpi
 rw [hs, hpi.es.1, hpc] at p1
 rw [ht, hpi.et.1, hpc] at p2
 have f1 := files_fn s t (by have := hpi.l1; omega) (by have := hpi.l2; omega)
 have hfe : flE s t = 0 := by unfold flE; rw [if_pos hpi.rd1.1, if_pos hpi.rd2.1]
 have hfo : flO s t = betQ O Q := by unfold flO; rw [if_pos hpi.rd1.1, if_pos hpi.rd2.1, hpi.rd1.2, hpi.rd2.2]
 rw [hfe, hfo] at f1
 have f2 := V.nread_fn s (by have := hpi.l1; omega)
 rw [hpi.rd1.1, hpi.rd1.2] at f2
 obtain ⟨a1, a2⟩ := app_bet hok1 hok2 (by omega)
 have hnil := bet_nil hok1 hok2
 have hbl := bet_len O Q
 have hsame := hpi.same
 obtain ⟨D, hD⟩ : ∃ D, betQ O Q = D := ⟨_, rfl⟩
 rw [hD] at f1 a1 a2 hnil hbl
 have hpo := hs2.pr.ok
 have hpe := hpi.et.1
 clear hpi hs1 hs2 hsm hfe hfo hD
 refine aR fun Z hZ => sM rfl rfl ?_
 refine sx_rem rfl rfl (by decide) ((kq : Nat) : Int) (by rw [Int.tmod_eq_emod_of_nonneg (by omega)]; omega) rfl ?_
 refine jD1 tyZ31 tyP31 rfl rfl (by simp only [qS, Nat.reduceAdd, Value.cells, wrV]; rfl) rfl ?_
 refine sAl tyZ31 rfl (fun g3 => ?_)
 refine sS 0 rfl rfl rfl tyS31 (by simp only [Value.cells]; rfl) rfl rfl (by simp only [qS, Nat.reduceAdd]; rfl) (by simp only [qS, Nat.reduceAdd, wrV]; rfl) (by simp only [List.set_cons_zero]; rfl) ?_
 refine sN (hZ _ _ ?_)
 refine aF [(7, _), (9, _), (11, _)] (kR rfl) ?_
 refine aR (fun Z hZ => ?_)
 refine sLA 2 rfl rfl tyA27 tyS27 (by simp only [qS]; rfl) (by simp only [qS]; rfl) rfl ?_
 refine sLA 0 rfl rfl tyA31 tyS31 (by simp only [qS, Nat.reduceAdd]; rfl) (by simp only [qS]; rfl) rfl ?_
 refine jD6 (roE A1 (jA0 O)) p1 rfl (by repeat (first | exact List.Sublist.refl _ | exact List.nil_sublist _ | exact List.sublist_append_right _ _ | refine List.Sublist.trans ?_ (List.sublist_append_left _ _) | exact List.Sublist.cons_cons _ (List.nil_sublist _) | refine List.Sublist.cons _ ?_)) (Ro.roE _ _) rfl ?_
 refine sM rfl rfl <| sX rfl rfl rfl <| sX rfl rfl rfl <| sA rfl rfl <| sA rfl rfl <| sN (hZ _ _ ?_)
 refine aF [(9, _), (11, _), (12, _), (13, _)] (kR rfl) ?_
 refine aR (fun Z hZ => ?_)
 refine sLA 1 rfl rfl tyA27 tyS27 (by simp only [qS]; rfl) (by simp only [qS]; rfl) rfl ?_
 refine sLA 0 rfl rfl tyA31 tyS31 (by simp only [qS, Nat.reduceAdd]; rfl) (by simp only [qS]; rfl) rfl ?_
 refine jD6 (roE A3 (jA0 Q)) p2 rfl (by repeat (first | exact List.Sublist.refl _ | exact List.nil_sublist _ | exact List.sublist_append_right _ _ | refine List.Sublist.trans ?_ (List.sublist_append_left _ _) | exact List.Sublist.cons_cons _ (List.nil_sublist _) | refine List.Sublist.cons _ ?_)) (Ro.roE _ _) rfl ?_
 refine sM rfl rfl <| sX rfl rfl rfl <| sX rfl rfl rfl <| sA rfl rfl <| sA rfl rfl <| sN (hZ _ _ ?_)
 refine aF [(11, _), (12, _), (13, _), (14, _), (15, _)] (kR rfl) ?_
 refine aR fun Z hZ => sM rfl rfl <| sM rfl rfl ?_
 refine jD3 [] _ f1 rfl (HLe.refl _) rfl ?_
 rintro v H' ⟨u, rfl, hu, rfl⟩
 rw [jE4]
 refine sx_toRo (fun u => (_, Value.tuple #[u, iq 0]) :: _) hu (fun A5 c5 hA5 => ?_)
 refine sM rfl rfl <| sX rfl rfl rfl <| sX rfl rfl rfl <| sA rfl rfl <| sA rfl rfl <| sN (hZ _ _ ?_)
 refine aF [(11, _), (12, _), (13, _), (14, _), (15, _), (16, _), (17, _)] (kR rfl) ?_
 refine aR fun Z hZ => sM rfl rfl ?_
 refine jD3 [] _ f2 rfl (HLe.refl _) rfl ?_
 rintro v H' ⟨u, rfl, hu, rfl⟩
 rw [jE4]
 refine sx_toRo (fun u => (_, Value.tuple #[.agg #[u], iq 0]) :: _) hu (fun A6 c6 hA6 => ?_)
 refine sM rfl rfl <| sX rfl rfl rfl <| sX rfl rfl rfl ?_
 refine sAl tyZ27 rfl (fun g4 => ?_)
 refine sS 0 rfl rfl rfl tyS27 (by simp only [Value.cells]; rfl) rfl rfl (by simp only [qS]; rfl) (by simp only [qS, wrV]; rfl) (by simp only [List.set_cons_zero]; rfl) ?_
 refine sA rfl rfl <| sN (hZ _ _ ?_)
 refine aF [(11, _), (12, _), (13, _), (14, _), (15, _), (16, _), (17, _), (18, _), (19, _)] (kR rfl) ?_
 refine aR (fun Z hZ => ?_)
 refine sLA 0 rfl rfl tyA27 tyS27 (by simp only [qS]; rfl) (by simp only [qS]; rfl) rfl ?_
 refine sM rfl rfl ?_
 refine sx_gapplyE O D hA6 hok1 (roE A5 (gcells D)) hA5.arg (fun _ => rfl) (Ro.roE _ _) (by repeat (first | exact List.Sublist.refl _ | exact List.nil_sublist _ | exact List.sublist_append_right _ _ | refine List.Sublist.trans ?_ (List.sublist_append_left _ _) | exact List.Sublist.cons_cons _ (List.nil_sublist _) | refine List.Sublist.cons _ ?_)) (by repeat (first | exact List.Sublist.refl _ | exact List.nil_sublist _ | exact List.sublist_append_right _ _ | refine List.Sublist.trans ?_ (List.sublist_append_left _ _) | exact List.Sublist.cons_cons _ (List.nil_sublist _) | refine List.Sublist.cons _ ?_)) (by omega) rfl rfl (fun A7 c7 hA7 => ?_)
 rw [a1, a2]
 rw [a2] at hA7
 refine sM rfl rfl <| sX rfl rfl rfl <| sX rfl rfl rfl ?_
 refine sAl tyZ27 rfl (fun g5 => ?_)
 refine sS 0 rfl rfl rfl tyS27 (by simp only [Value.cells]; rfl) rfl rfl (by simp only [qS]; rfl) (by simp only [qS, wrV]; rfl) (by simp only [List.set_cons_zero]; rfl) ?_
 refine sA rfl rfl <| sN (hZ _ _ ?_)
 refine aF [(11, _), (12, _), (13, _), (14, _), (15, _), (16, _), (17, _), (19, _), (20, _), (21, _)] (kR rfl) ?_
 have p3 := press_fn A7 c7 Q (roE A7 (jA0 Q)) hA7.arg (fun _ => rfl) (Ro.roE _ _) p (by assumption)
 rw [ht, hpe, hpc] at p3
 refine aR (fun Z hZ => ?_)
 refine sLA 0 rfl rfl tyA27 tyS27 (by simp only [qS]; rfl) (by simp only [qS]; rfl) rfl ?_
 refine sLA 2 rfl rfl tyA31 tyS31 (by simp only [qS, Nat.reduceAdd]; rfl) (by simp only [qS]; rfl) rfl ?_
 refine jD6 (roE A7 (jA0 Q)) p3 rfl (by repeat (first | exact List.Sublist.refl _ | exact List.nil_sublist _ | exact List.sublist_append_right _ _ | refine List.Sublist.trans ?_ (List.sublist_append_left _ _) | exact List.Sublist.cons_cons _ (List.nil_sublist _) | refine List.Sublist.cons _ ?_)) (Ro.roE _ _) rfl ?_
 refine sM rfl rfl <| sX rfl rfl rfl <| sX rfl rfl rfl <| sA rfl rfl <| sA rfl rfl <| sN (hZ _ _ ?_)
 refine aF [(12, _), (13, _), (14, _), (15, _), (16, _), (17, _), (19, _), (21, _), (22, _), (23, _)] (kR rfl) ?_
 have hfin : ((D.length : Int) == 0) = (s == t) := by
  rw [Bool.eq_iff_iff]
  simp only [beq_iff_eq]
  rw [← hsame, ← hnil]
  exact ⟨fun h => List.length_eq_zero_iff.1 (by omega), fun h => by rw [h]; rfl⟩
 refine jA7 [(6, .bool true)] [] (fun Z hZ => ?_) ?_
 ·refine sM rfl rfl ?_
  refine jC8 rfl rfl rfl ?_
  refine sM rfl rfl ?_
  refine jF8 81 rfl true (by first | rfl | (simp; done) | exact hfin | (simpa using hfin)) ?_
  refine sOn rfl rfl rfl ?_
  refine sM rfl rfl ?_
  refine sOn rfl rfl rfl ?_
  refine jC8 rfl rfl rfl ?_
  refine sP rfl rfl rfl <| sM rfl rfl ?_
  refine jF8 85 rfl true (by first | rfl | (simp; done) | exact hfin | (simpa using hfin)) ?_
  refine sOn rfl rfl rfl ?_
  refine sM rfl rfl ?_
  refine sOn rfl rfl rfl ?_
  refine jC8 rfl rfl rfl ?_
  refine sP rfl rfl rfl <| sM rfl rfl ?_
  refine jF8 89 rfl true (by first | rfl | (simp; done) | exact hfin | (simpa using hfin)) ?_
  refine sOn rfl rfl rfl ?_
  refine sM rfl rfl ?_
  refine sOn rfl rfl rfl ?_
  refine jC8 rfl rfl rfl ?_
  refine sP rfl rfl rfl <| sM rfl rfl ?_
  refine jF8 93 rfl true (by first | rfl | (simp; done) | exact hfin | (simpa using hfin)) ?_
  refine sOn rfl rfl rfl ?_
  refine sM rfl rfl ?_
  refine sOn rfl rfl rfl ?_
  refine jC8 rfl rfl rfl ?_
  refine sP rfl rfl rfl <| sM rfl rfl ?_
  refine jF8 97 rfl true (by first | rfl | (simp; done) | exact hfin | (simpa using hfin)) ?_
  refine sOn rfl rfl rfl ?_
  refine sM rfl rfl ?_
  refine sOn rfl rfl rfl ?_
  refine jC8 rfl rfl rfl ?_
  refine sP rfl rfl rfl <| sM rfl rfl ?_
  refine jF8 101 rfl true (by first | rfl | (simp; done) | exact hfin | (simpa using hfin)) ?_
  refine sOn rfl rfl rfl ?_
  refine sM rfl rfl ?_
  refine sOn rfl rfl rfl ?_
  refine sM rfl rfl ?_
  refine sOn rfl rfl rfl ?_
  refine sx_seql rfl rfl rfl ?_
  refine sP rfl rfl rfl <| sM rfl rfl ?_
  refine jF8 106 rfl true (by first | rfl | (simp; done) | exact hfin | (simpa using hfin)) ?_
  refine sOn rfl rfl rfl ?_
  refine sM rfl rfl ?_
  refine sOn rfl rfl rfl ?_
  refine jD9 Tryz.underlying35 rfl rfl ?_
  refine sOn rfl rfl rfl ?_
  refine jC8 rfl rfl rfl ?_
  refine sOn rfl rfl rfl ?_
  refine sM rfl rfl ?_
  refine sOn rfl rfl rfl ?_
  refine sM rfl rfl ?_
  refine sOn rfl rfl rfl ?_
  refine sx_seql rfl rfl rfl ?_
  refine sOn rfl rfl rfl ?_
  refine sx_beql Tryz.underlying4 rfl rfl rfl ?_
  refine sP rfl rfl rfl <| sM rfl rfl ?_
  refine jF8 115 rfl true (by first | rfl | (simp; done) | exact hfin | (simpa using hfin)) ?_
  refine sOn rfl rfl rfl ?_
  refine sCP tawake_fn rfl rfl ?_
  refine sP rfl rfl rfl <| sA rfl rfl ?_
  refine sN (hZ _ _ ?_ ?_)
  ·exact Kn.cons rfl Kn.nil
  ·exact HLe.sub (List.nil_sublist _)
 refine aE ?_
 exact nR1 rfl rfl rfl
theorem TopPatches_read {H : Type} {enc : TypeId × Value → H} (w : World) {base : Nat} {v0 v1 v2 : Value} {d0 d1 d2 : DataW H} {p0 p1 p2 : List MemPlace}
  (k0 : Value.okWide Tryz.prog w .any base 22 v0) (h0 : DataW.Trod enc Tryz.prog w 0 (fun _ => true) true 22 v0 d0 p0)
  (k1 : Value.okWide Tryz.prog w .any base 22 v1) (h1 : DataW.Trod enc Tryz.prog w 0 (fun _ => true) true 22 v1 d1 p1)
  (k2 : Value.okWide Tryz.prog w .any base 5 v2) (h2 : DataW.Trod enc Tryz.prog w 0 (fun _ => true) true 5 v2 d2 p2) :
  Calls Tryz.prog 3 #[v0, v1, v2] w fun e w' => e = .returned (.bool true) ∧ Bel w w' := by
 obtain ⟨A, c, L, T, rfl, hA, hL, hE, hT, hro, hS, _⟩ := open_its k0 h0
 obtain ⟨B, d, M, U, rfl, hB, hM, hF, hU, hroU, hSU, _⟩ := open_its k1 h1
 obtain ⟨m, rfl, _, _, hm⟩ := ChangeShapes.open_int Tryz.underlying5 k2 h2
 have hm' : 0 ≤ m ∧ m ≤ 255 := by simpa [Lit.wf, IntKind.min, IntKind.max, IntKind.signed, IntKind.bits] using hm
 obtain ⟨n, rfl⟩ : ∃ n : Nat, m = n := ⟨m.toNat, by omega⟩
 exact tail_bel (hro.append hroU) (hS.both hSU hro hroU) (tpatches_fn A c L T hA hT hro hL hE B d M U hB hU hroU hM hF n (by omega))
namespace topPatches
open Go.ChangeShapes Go.WideShapes Go.ChangeAt Go.RowKit
theorem own : ownKnob Tryz.prog.godebug = none := by kernel_rfl
theorem laidOut : laidOutB Tryz.prog = true := by kernel_rfl
set_option maxRecDepth 100000 in
theorem lifted (os : Os) (started : os.Started) (H : Type) (enc : TypeId × Value → H) :
  ReturnsInHanded {} Tryz.checked os 3 .any (fun w args => (Rows.topPatchesSpec.pre enc Tryz.prog Tryz.f3 [] false w args ∧ laidMetH Tryz.prog Rows.topPatchesRow.laid w) ∧ sizedMet enc Tryz.prog Tryz.f3 (OpenSpec.ofChange Rows.topPatchesSpec) false w args)
   (Rows.topPatchesSpec.post enc Tryz.prog Tryz.f3 false true false false) := by
 refine returnsInHanded_of_change_and (C := Tryz.checked) (X := fun w _ => laidMetH Tryz.prog Rows.topPatchesRow.laid w) (fun _ _ _ hh h => h.of_heap hh) own started (by kernel_rfl) Tryz.func3
  (ChangeSpec.witness_shaped (enc := enc) (C := Tryz.checked) (os := os) (X := fun w _ => laidMetH Tryz.prog Rows.topPatchesRow.laid w) false (World.laidAll Tryz.prog os Rows.topPatchesRow.laid) #[.slice none 0 0, .slice none 0 0, .int .u8 0] 8 (World.laidAll_os _ _ _)
   (World.shaped_of_ZipB (by kernel_rfl) (by kernel_rfl)) (by kernel_rfl) (by kernel_rfl) (by kernel_rfl)
   (by rw [MakeChecks.laidMetH_plain _ _ _ (by kernel_rfl)]; exact laidMet_laidAll _ (by kernel_rfl) (by kernel_rfl))) ?_
 intro W base args ds gs before hval0 hW _ _ hL _
 have hval : ∀ (j : Nat) t v, Tryz.f3.params[j]? = some t → args[j]? = some v → Value.okWide Tryz.prog W .any base t v := hval0
 have hW' := hW
 obtain ⟨p, q, hA0, hV, rfl, hfz, hnd⟩ := hW
 have hA : DataW.TrodAll enc Tryz.prog W 0 (fun _ => true) true Tryz.f3.params.toList args.toList ds p := hA0
 rw [Tryz.params3] at hA hval
 obtain ⟨v0, vs0, d0, ds0, p0, q0, hargs, rfl, rfl, h0, r0⟩ := trodAll_cons hA
 obtain ⟨v1, vs1, d1, ds1, p1, q1, rfl, rfl, rfl, h1, r1⟩ := trodAll_cons r0
 obtain ⟨v2, vs2, d2, ds2, p2, q2, rfl, rfl, rfl, h2, r2⟩ := trodAll_cons r1
 obtain ⟨rfl, rfl, rfl⟩ := trodAll_nil r2
 obtain rfl : args = #[v0, v1, v2] := by cases args; simp_all
 obtain ⟨rfl, rfl⟩ := trodVars_none hV
 have lt0 : ∀ x ∈ p0, x.block < W.heap.size := by obtain ⟨m, hm⟩ := h0; exact DataW.trod_lt m _ _ _ hm
 have lt1 : ∀ x ∈ p1, x.block < W.heap.size := by obtain ⟨m, hm⟩ := h1; exact DataW.trod_lt m _ _ _ hm
 have lt2 : ∀ x ∈ p2, x.block < W.heap.size := by obtain ⟨m, hm⟩ := h2; exact DataW.trod_lt m _ _ _ hm
 refine (TopPatches_read W (hval 0 22 v0 rfl rfl) h0 (hval 1 22 v1 rfl rfl) h1 (hval 2 5 v2 rfl rfl) h2).mono fun e W' ⟨he, bel0⟩ => ?_
 have bel : Below W.heap.size W W' := bel0
 subst he
 exact ⟨_, rfl, _, _, _, [], _, [], hW', trodAll_mk1 (shut_bool Tryz.underlying4 _), (trodAll_cons_mk (Below.trod laidOut (by kernel_rfl) (of_decide_eq_true (by kernel_rfl)) h0 bel lt0) (trodAll_cons_mk (Below.trod laidOut (by kernel_rfl) (of_decide_eq_true (by kernel_rfl)) h1 bel lt1) (trodAll_cons_mk (Below.trod laidOut (by kernel_rfl) (of_decide_eq_true (by kernel_rfl)) h2 bel lt2) trodAll_mk0))), rfl, bel.frame _, fun h => by cases h⟩
theorem over : Rows.topPatchesRow.holds Tryz.pinned (OpenSpec.ofChange Rows.topPatchesSpec) :=
 OpenClaim.holds_of_wide 3 Tryz.f3 rfl rfl rfl rfl rfl rfl rfl ⟨rfl, rfl, rfl, rfl, rfl⟩ rfl rfl rfl rfl rfl (by kernel_rfl) Tryz.func3 (by kernel_rfl)
  (of_decide_eq_true (by kernel_rfl)) (by unfold Func.isWrapper; first | (rw [if_pos (by decide +kernel)]; kernel_rfl) | (rw [if_neg (by decide +kernel)]; exact ⟨rfl, rfl⟩))
  (fun os started H enc _ => lifted os started H enc)
theorem proved : Rows.TopPatchesCardSaid :=
 Claim7.holds_tied_plain_at .later [] [.data, .data, .data, .data, .sentinel, .sentinel, .pinned] true (true, "f734b2585bb2c688d76b7159ae58455cf1d6421c88760c03f332d604594a78e2") true over (fun _ h => by cases h) (by kernel_rfl) (fun _ h => by cases h) topPatches_row_tie rfl ⟨rfl, rfl⟩ (by kernel_rfl) rfl
  (fun f fn hf hfn => by
   obtain rfl : f = 3 := Option.some.inj ((show Tryz.prog.funcNamed "gazetteer/gazetteertop.TopPatches" = some 3 by kernel_rfl).symm.trans hf) |>.symm
   obtain rfl : fn = Tryz.f3 := (Option.some.inj (Tryz.func3.symm.trans hfn)).symm
   exact ⟨by kernel_rfl, fun j t ht => by
    rw [Tryz.params3] at ht
    have hm : t ∈ [22, 22, 5] := by simpa using Array.mem_of_getElem? ht
    have hall : ([22, 22, 5].all fun u => !Tryz.prog.wantsStandIn u) = true := by kernel_rfl
    exact (show Tryz.prog.wantsStandIn t = false by simpa using List.all_eq_true.1 hall t hm)⟩)
  (by kernel_rfl)
#print axioms proved
end topPatches
end Go.Proofs.YtkojkeabelckjaaGreatDoor
end
