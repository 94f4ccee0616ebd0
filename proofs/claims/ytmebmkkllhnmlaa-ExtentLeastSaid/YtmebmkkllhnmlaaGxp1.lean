/- What lies around a chart's tiles: plain laws. The walks of extent: what lies around the tiles. Conditions: the chart is one. The walks of extent: each, zooms, of, Box, Count, Full, Boxes. Conditions: the chart is one. The walks of extent's Boxes; of the document's Box, Boxes, Count, Full. Conditions: the chart is one. -/
import Derived.Test.YtmebmkkllhnmlaaGcw1
import Derived.Test.YtmebmkkllhnmlaaGch2
import Derived.Test.YtmebmkkllhnmlaaGcu2
import Derived.Test.YtmebmkkllhnmlaaSxO
import Derived.Test.YtmebmkkllhnmlaaSxFO
import Derived.Test.YtmebmkkllhnmlaaGmk2
namespace Go.Proofs.Ytmebmkkllhnmlaa
open Go.RowKit
set_option linter.unusedVariables false
set_option linter.unusedSimpArgs false
/-- A rectangle that grows, and how many tiles it has taken. -/
structure Ar where
  r : Rc
  n : Nat
abbrev Ar.cells (s : Ar) : List Value := s.r.cells ++ [iq (s.n : Nat)]
abbrev Ar.val (s : Ar) : Value := .agg s.cells.toArray
def ar0 : Ar := ⟨⟨0, 0, 0, 0, 0⟩, 0⟩
abbrev arC (L : List Ar) : List Value := L.flatMap Ar.cells
theorem ar_len (s : Ar) : s.cells.length = 6 := rfl
theorem arC_len (L : List Ar) : (arC L).length = L.length * 6 := fm_len ar_len L
/-- A chart's identifiers as tiles. -/
def tz (e : It) : Nat := zN e.id
def tx (e : It) : Nat := (pt (tz e) (e.id - base4 (tz e))).1
def ty (e : It) : Nat := (pt (tz e) (e.id - base4 (tz e))).2
theorem tile_of {k : Nat} (h : k < 6004799503160661) : ∃ z d, z ≤ 26 ∧ d < 4 ^ z ∧ k = base4 z + d ∧ zN k = z ∧ k - base4 (zN k) = d := by
  obtain ⟨z, d, hz, hd, rfl⟩ := id_ex h
  have := zN_is hz hd
  exact ⟨z, d, hz, hd, rfl, this, by rw [this]; omega⟩
structure TileOk (e : It) : Prop where
  z : tz e ≤ 26
  x : tx e < 2 ^ tz e
  y : ty e < 2 ^ tz e
  id : base4 (tz e) + hp (tz e) (tx e) (ty e) = e.id
  at_ : e.id - base4 (tz e) < 4 ^ tz e
theorem tile_ok {e : It} (h : e.id < 6004799503160661) : TileOk e := by
  obtain ⟨z, d, hz, hd, h1, h2, h3⟩ := tile_of h
  have hp1 := pt_lt z d hd
  have hp2 := hp_pt z d hd
  have ez : tz e = z := h2
  have ex : tx e = (pt z d).1 := by unfold tx; rw [ez, ← h3, h2]
  have ey : ty e = (pt z d).2 := by unfold ty; rw [ez, ← h3, h2]
  refine ⟨by omega, by rw [ez, ex]; exact hp1.1, by rw [ez, ey]; exact hp1.2, by rw [ez, ex, ey, hp2, h1], ?_⟩
  rw [ez]
  rw [h2] at h3
  omega
def takeQ (s : Ar) (z x y : Int) : Ar :=
  ⟨⟨if s.n = 0 then z else s.r.z, min (if s.n = 0 then x else s.r.a) x, min (if s.n = 0 then y else s.r.b) y, max (if s.n = 0 then x else s.r.c) x, max (if s.n = 0 then y else s.r.d) y⟩, s.n + 1⟩
/-- What one tile more makes of a zoom's rectangle. -/
def stepQ (z : Int) (s : Ar) (e : It) : Ar := if (tz e : Int) = z then takeQ s (tz e) (tx e) (ty e) else s
def arZ (O : List It) (z : Int) : Ar := O.foldl (stepQ z) ar0
theorem arZ_snoc {O : List It} {k : Nat} {e : It} (h : O[k]? = some e) (z : Int) : arZ (O.take (k + 1)) z = stepQ z (arZ (O.take k) z) e := by
  obtain ⟨hlt, rfl⟩ := List.getElem?_eq_some_iff.1 h
  unfold arZ
  rw [List.take_succ_eq_append_getElem hlt, List.foldl_append, List.foldl_cons, List.foldl_nil]
theorem arZ_n (z : Int) : ∀ (O : List It) (s : Ar), (O.foldl (stepQ z) s).n ≤ s.n + O.length
  | [], s => Nat.le_refl _
  | e :: r, s => by
    have := arZ_n z r (stepQ z s e)
    rw [List.foldl_cons, List.length_cons]
    have h : (stepQ z s e).n ≤ s.n + 1 := by
      unfold stepQ
      split
      · exact Nat.le_refl _
      · exact Nat.le_succ _
    omega
theorem arZ_le (O : List It) (z : Int) : (arZ O z).n ≤ O.length := by have h := arZ_n z O ar0; rw [show ar0.n = 0 from rfl, Nat.zero_add] at h; exact h
/-- All zooms' rectangles. -/
def arL (O : List It) : List Ar := (List.range 27).map fun z => arZ O (z : Nat)
theorem arL_len (O : List It) : (arL O).length = 27 := by simp [arL]
theorem arL_at (O : List It) {z : Nat} (h : z ≤ 26) : (arL O)[z]? = some (arZ O (z : Nat)) := by
  unfold arL
  rw [List.getElem?_map, List.getElem?_range (by omega)]
  rfl
theorem arL_snoc {O : List It} {k : Nat} {e : It} (h : O[k]? = some e) (he : tz e ≤ 26) : arL (O.take (k + 1)) = (arL (O.take k)).set (tz e) (takeQ (arZ (O.take k) (tz e : Nat)) (tz e) (tx e) (ty e)) := by
  refine List.ext_getElem? fun i => ?_
  rw [List.getElem?_set]
  rcases Nat.lt_or_ge i 27 with hi | hi
  · rw [arL_at _ (by omega), arL_at _ (by omega), arZ_snoc h]
    split
    · rename_i h1
      subst h1
      rw [if_pos (by rw [arL_len]; omega)]
      unfold stepQ
      rw [if_pos rfl]
    · rename_i h1
      unfold stepQ
      rw [if_neg (by omega)]
  · rw [List.getElem?_eq_none (by rw [arL_len]; omega), List.getElem?_eq_none (by rw [arL_len]; omega), arL_len]
    split
    · rw [if_neg (by omega)]
    · rfl
theorem arZ_far {O : List It} {z : Int} (h : z < 0 ∨ 26 < z) (hO : ∀ e ∈ O, e.id < 6004799503160661) : arZ O z = ar0 := by
  unfold arZ
  have key : ∀ (L : List It) (s : Ar), (∀ e ∈ L, e.id < 6004799503160661) → L.foldl (stepQ z) s = s := by
    intro L
    induction L with
    | nil => intro s _; rfl
    | cons e r ih =>
      intro s hL
      rw [List.foldl_cons, ih _ fun x hx => hL x (List.mem_cons_of_mem _ hx)]
      have := (tile_ok (hL e List.mem_cons_self)).z
      unfold stepQ
      rw [if_neg (by omega)]
  exact key O ar0 hO
theorem fm_wr {α : Type} {f : α → List Value} {n : Nat} (hf : ∀ x, (f x).length = n) {vs : List Value} {x y : α} {j : Nat} (hy : f y = wrV (f x) j vs) (hj : j + vs.length ≤ n) : ∀ {L : List α} {i : Nat}, L[i]? = some x → wrV (L.flatMap f) (i * n + j) vs = (L.set i y).flatMap f
  | [], i, h => by simp at h
  | z :: r, 0, h => by
    obtain rfl : z = x := by simpa using h
    simp only [Nat.zero_mul, Nat.zero_add, List.flatMap_cons, List.set_cons_zero, hy]
    unfold wrV
    rw [List.take_append_of_le_length (by rw [hf]; omega), List.drop_append_of_le_length (by rw [hf]; omega)]
    simp
  | z :: r, i + 1, h => by
    have ih := fm_wr hf hy hj (L := r) (i := i) (by simpa using h)
    simp only [List.flatMap_cons, List.set_cons_succ]
    rw [← ih]
    have e : (i + 1) * n + j = (f z).length + (i * n + j) := by rw [hf, Nat.succ_mul]; omega
    unfold wrV
    rw [e, List.take_length_add_append, Nat.add_assoc, List.drop_length_add_append]
    simp
end Go.Proofs.Ytmebmkkllhnmlaa

namespace Go.Proofs.Ytmebmkkllhnmlaa
open Go.RowKit
set_option linter.unusedVariables false
set_option linter.unusedSimpArgs false
set_option maxRecDepth 100000
theorem ble_set {n : Nat} {L : List Ar} {i : Nat} {s : Ar} (h : L[i]? = some s) (hn : n ≤ 6) : Nat.ble (i * 6 + n) (arC L).length = true := by
  have := (List.getElem?_eq_some_iff.1 h).1
  rw [arC_len]
  exact Nat.ble_eq_true_of_le (by omega)
theorem set_get {L : List Ar} {i : Nat} {s : Ar} (h : L[i]? = some s) (t : Ar) : (L.set i t)[i]? = some t := by
  rw [List.getElem?_set, if_pos rfl, if_pos (List.getElem?_eq_some_iff.1 h).1]
theorem xtake_fn (g t : Nat) (z x y : Int) {L : List Ar} {i : Nat} {s : Ar} (hs : L[i]? = some s) (hn : s.n ≤ 1000000) :
    Fn Try.prog 66 [ptr g (i * 6), tval z x y] [.own g t (arC L)] fun _ H' => H' = [.own g t (arC (L.set i (takeQ s z x y)))] := by
  obtain ⟨s1, hs1⟩ : ∃ s1 : Ar, s1 = ⟨if s.n = 0 then ⟨z, x, y, x, y⟩ else s.r, s.n⟩ := ⟨_, rfl⟩
  have ht : takeQ s z x y = ⟨⟨s1.r.z, min s1.r.a x, min s1.r.b y, max s1.r.c x, max s1.r.d y⟩, s1.n + 1⟩ := by
    subst hs1
    unfold takeQ
    by_cases h : s.n = 0
    · simp only [if_pos h]
    · simp only [if_neg h]
  have hn1 : s1.n = s.n := by rw [hs1]
  have hLL : ∀ u v : Ar, (L.set i u).set i v = L.set i v := fun u v => by rw [List.set_set]
  refine Fn.enter (N := 78) Try.func66 rfl (by kernel_rfl) rfl (fun w0 => ?_)

  refine awp_seq_region (fun Z hZ => ?_)
  refine sx_box rfl rfl rfl (fun g1 => ?_)
  refine sx_nil (hZ _ _ ?_)
  refine awp_forget [(0, _), (3, _)] (Kn.cons rfl (Kn.cons rfl (Kn.nil))) ?_

  refine awp_cut (ι := Unit) (fun _ => [(0, ptr g (i * 6)), (3, ptr g1 0)]) (fun _ => [.own g1 39 (tcells z x y), .own g t (arC (L.set i s1))]) (fun _ => True) ?_ ?_
  · refine awp_seq_region (fun Z hZ => ?_)
    refine sx_move rfl rfl ?_
    refine sx_nilCheck rfl rfl ?_
    refine sx_fieldAddr rfl tyF90_1 (by first | (simp only [Nat.reduceAdd, Nat.add_zero, Nat.zero_add]; first | done | rfl) | rfl) rfl ?_
    refine sx_load 1 rfl rfl tyA3 tyS3 (fm_rd1 (j := 5) ar_len hs rfl) rfl ?_
    refine sx_eql rfl rfl rfl ?_
    refine sx_nil (hZ _ _ ?_)
    refine awp_forget [(0, _), (3, _), (8, _)] (Kn.cons rfl (Kn.cons rfl (Kn.cons rfl (Kn.nil)))) ?_
    refine awp_cond rfl (fun h => ?_) (fun h => ?_)
    · have h0 : s.n = 0 := by simpa using h
      rw [if_pos h0] at hs1
      refine awp_region (fun Z hZ => ?_)
      refine sx_move rfl rfl ?_
      refine sx_fieldAddr rfl tyF39_0 (by first | (simp only [Nat.reduceAdd, Nat.add_zero, Nat.zero_add]; first | done | rfl) | rfl) rfl ?_
      refine sx_load 0 rfl rfl tyA3 tyS3 rfl rfl ?_
      refine sx_fieldAddr rfl tyF39_1 (by first | (simp only [Nat.reduceAdd, Nat.add_zero, Nat.zero_add]; first | done | rfl) | rfl) rfl ?_
      refine sx_load 0 rfl rfl tyA3 tyS3 rfl rfl ?_
      refine sx_fieldAddr rfl tyF39_2 (by first | (simp only [Nat.reduceAdd, Nat.add_zero, Nat.zero_add]; first | done | rfl) | rfl) rfl ?_
      refine sx_load 0 rfl rfl tyA3 tyS3 rfl rfl ?_
      refine sx_fieldAddr rfl tyF39_1 (by first | (simp only [Nat.reduceAdd, Nat.add_zero, Nat.zero_add]; first | done | rfl) | rfl) rfl ?_
      refine sx_load 0 rfl rfl tyA3 tyS3 rfl rfl ?_
      refine sx_fieldAddr rfl tyF39_2 (by first | (simp only [Nat.reduceAdd, Nat.add_zero, Nat.zero_add]; first | done | rfl) | rfl) rfl ?_
      refine sx_load 0 rfl rfl tyA3 tyS3 rfl rfl ?_
      refine sx_build tyZ33 tyP33 rfl rfl (by first | (simp only [List.take_succ_cons, List.take_zero, List.drop_succ_cons, List.drop_zero, List.cons_append, List.nil_append, List.append_nil, List.length_cons, List.length_nil, Nat.reduceAdd, Nat.zero_add, Nat.add_zero, Value.cells, wrV, zrep_one, List.replicate_succ, List.replicate_zero, Nat.reduceMul, Nat.zero_mul]; first | done | rfl) | rfl) rfl ?_
      refine sx_nilCheck rfl rfl ?_
      refine sx_fieldAddr rfl tyF90_0 (by first | (simp only [Nat.reduceAdd, Nat.add_zero, Nat.zero_add]; first | done | rfl) | rfl) rfl ?_
      refine sx_store (cs' := arC (L.set i s1)) (vs := [iq z, iq x, iq y, iq x, iq y]) 1 rfl rfl rfl tyS33 rfl rfl rfl (ble_set (n := 5) hs (by decide)) (fm_wr (j := 0) ar_len (by rw [hs1]; rfl) (by show 5 ≤ 6; omega) hs) rfl ?_
      refine sx_nil (hZ _ _ ?_)
      refine nx_forget [(0, _), (3, _)] (Kn.cons rfl (Kn.cons rfl (Kn.nil))) ?_
      exact nx_cut () trivial (Kn.cons rfl (Kn.cons rfl Kn.nil)) (HLe.refl _)
    · have h0 : ¬ s.n = 0 := by simpa using h
      rw [if_neg h0] at hs1
      have e : L.set i s1 = L := by
        rw [hs1]
        obtain ⟨h1, rfl⟩ := List.getElem?_eq_some_iff.1 hs
        exact List.set_getElem_self h1
      refine awp_skip ?_
      refine nx_cut () trivial (Kn.cons rfl (Kn.cons rfl Kn.nil)) ?_
      rw [e]
      exact HLe.refl _
  rintro ⟨⟩ -
  have g1s := set_get hs s1
  obtain ⟨M, hM⟩ : ∃ M, L.set i s1 = M := ⟨_, rfl⟩
  have hset : ∀ u, M.set i u = L.set i u := fun u => by rw [← hM, List.set_set]
  rw [hM] at g1s
  rw [hM]

  refine awp_seq_region (fun Z hZ => ?_)
  refine sx_move rfl rfl ?_
  refine sx_nilCheck rfl rfl ?_
  refine sx_fieldAddr rfl tyF90_1 (by first | (simp only [Nat.reduceAdd, Nat.add_zero, Nat.zero_add]; first | done | rfl) | rfl) rfl ?_
  refine sx_load 1 rfl rfl tyA3 tyS3 (fm_rd1 (j := 5) ar_len g1s rfl) rfl ?_
  refine sx_add rfl rfl ((s1.n + 1 : Nat) : Int) (by rw [IntWalk.i64_in _ (by omega)]; omega) rfl ?_
  refine sx_nilCheck rfl rfl ?_
  refine sx_fieldAddr rfl tyF90_1 (by first | (simp only [Nat.reduceAdd, Nat.add_zero, Nat.zero_add]; first | done | rfl) | rfl) rfl ?_
  refine sx_store1 (cs' := arC (M.set i ⟨s1.r, s1.n + 1⟩)) 1 rfl rfl rfl tyS3 rfl (ble_set (n := 6) g1s (by decide)) (fm_set (x := s1) (y := ⟨s1.r, s1.n + 1⟩) (j := 5) ar_len rfl (by decide) g1s) rfl ?_
  refine sx_nil (hZ _ _ ?_)
  refine awp_forget [(0, _), (3, _)] (Kn.cons rfl (Kn.cons rfl (Kn.nil))) ?_
  rw [hset]
  have g2s := set_get hs ⟨s1.r, s1.n + 1⟩
  obtain ⟨M2, hM2⟩ : ∃ M, L.set i ⟨s1.r, s1.n + 1⟩ = M := ⟨_, rfl⟩
  have hset2 : ∀ u, M2.set i u = L.set i u := fun u => by rw [← hM2, List.set_set]
  rw [hM2] at g2s
  rw [hM2]
  have g3s := set_get g2s ⟨⟨s1.r.z, min s1.r.a x, s1.r.b, s1.r.c, s1.r.d⟩, s1.n + 1⟩
  refine awr_seq_region (fun _ : Unit => [(0, ptr g (i * 6)), (3, ptr g1 0)]) (fun _ => [.own g1 39 (tcells z x y), .own g t (arC (L.set i ⟨⟨s1.r.z, min s1.r.a x, s1.r.b, max s1.r.c x, s1.r.d⟩, s1.n + 1⟩))]) (fun _ => True) _ [6, 14, 21, 25] (Tr.step (0, true) (Tr.step (1, true) (Tr.step (2, true) (Tr.step (3, true) (Tr.step (4, true) (Tr.step (5, true) (Tr.step (7, true) (Tr.step (8, true) (Tr.step (10, true) (Tr.step (11, true) (Tr.step (12, true) (Tr.step (13, true) (Tr.step (15, true) (Tr.step (16, true) (Tr.fork (Tr.step (6, false) (Tr.step (9, true) (Tr.step (14, false) (Tr.step (17, true) (Tr.step (18, true) (Tr.step (19, true) (Tr.step (20, true) (Tr.step (21, false) (Tr.step (22, true) (Tr.step (23, true) (Tr.step (24, true) (Tr.step (25, false) Tr.nil)))))))))))) (Tr.step (14, false) (Tr.step (17, true) (Tr.step (6, false) (Tr.step (9, true) (Tr.step (18, true) (Tr.step (19, true) (Tr.step (20, true) (Tr.step (21, false) (Tr.step (22, true) (Tr.step (23, true) (Tr.step (24, true) (Tr.step (25, false) Tr.nil))))))))))))))))))))))))))) mixed (by kernel_rfl) (HLe.pick [0] (by simp) (by simp only [pick, List.filterMap_cons, List.filterMap_nil, List.getElem?_cons_succ, List.getElem?_cons_zero]; rfl)) ?_ ?_
  · refine tt_p rfl ?_
    refine sv_move rfl rfl ?_
    refine sv_nil ?_
    refine tt_p rfl ?_
    refine sv_move rfl rfl ?_
    refine sv_nil ?_
    refine tt_p rfl ?_
    refine sv_move rfl rfl ?_
    refine sv_nil ?_
    refine tt_p rfl ?_
    refine sv_nilCheck rfl rfl ?_
    refine sv_nil ?_
    refine tt_p rfl ?_
    refine sv_fieldAddr rfl tyF90_0 (by first | (simp only [Nat.reduceAdd, Nat.add_zero, Nat.zero_add]; first | done | rfl) | rfl) rfl ?_
    refine sv_nil ?_
    refine tt_p rfl ?_
    refine sv_fieldAddr rfl tyF33_1 (by first | (simp only [Nat.reduceAdd, Nat.add_zero, Nat.zero_add]; first | done | rfl) | rfl) rfl ?_
    refine sv_nil ?_
    refine tt_p rfl ?_
    refine sv_fieldAddr rfl tyF39_1 (by first | (simp only [Nat.reduceAdd, Nat.add_zero, Nat.zero_add]; first | done | rfl) | rfl) rfl ?_
    refine sv_nil ?_
    refine tt_p rfl ?_
    first | refine sv_load 0 rfl rfl tyA3 tyS3 rfl rfl ?_
    refine sv_nil ?_
    refine tt_p rfl ?_
    refine sv_move rfl rfl ?_
    refine sv_nil ?_
    refine tt_p rfl ?_
    refine sv_nilCheck rfl rfl ?_
    refine sv_nil ?_
    refine tt_p rfl ?_
    refine sv_fieldAddr rfl tyF90_0 (by first | (simp only [Nat.reduceAdd, Nat.add_zero, Nat.zero_add]; first | done | rfl) | rfl) rfl ?_
    refine sv_nil ?_
    refine tt_p rfl ?_
    refine sv_fieldAddr rfl tyF33_3 (by first | (simp only [Nat.reduceAdd, Nat.add_zero, Nat.zero_add]; first | done | rfl) | rfl) rfl ?_
    refine sv_nil ?_
    refine tt_p rfl ?_
    refine sv_fieldAddr rfl tyF39_1 (by first | (simp only [Nat.reduceAdd, Nat.add_zero, Nat.zero_add]; first | done | rfl) | rfl) rfl ?_
    refine sv_nil ?_
    refine tt_p rfl ?_
    first | refine sv_load 0 rfl rfl tyA3 tyS3 rfl rfl ?_
    refine sv_nil ?_
    refine tt_fork ?_ ?_
    · refine tt_g rfl ?_
      refine sx_load 1 rfl rfl tyA3 tyS3 (fm_rd1 (j := 1) ar_len g2s rfl) rfl ?_
      refine sx_nil ⟨HLe.pick [0] (by simp) rfl, ?_⟩
      refine tt_p rfl ?_
      refine sv_min rfl rfl (min s1.r.a x) rfl rfl ?_
      refine sv_nil ?_
      refine tt_g rfl ?_
      refine sx_load 1 rfl rfl tyA3 tyS3 (fm_rd1 (j := 3) ar_len g2s rfl) rfl ?_
      refine sx_nil ⟨HLe.pick [0] (by simp) rfl, ?_⟩
      refine tt_p rfl ?_
      refine sv_max rfl rfl (max s1.r.c x) rfl rfl ?_
      refine sv_nil ?_
      refine tt_p rfl ?_
      refine sv_nilCheck rfl rfl ?_
      refine sv_nil ?_
      refine tt_p rfl ?_
      refine sv_fieldAddr rfl tyF90_0 (by first | (simp only [Nat.reduceAdd, Nat.add_zero, Nat.zero_add]; first | done | rfl) | rfl) rfl ?_
      refine sv_nil ?_
      refine tt_p rfl ?_
      refine sv_fieldAddr rfl tyF33_1 (by first | (simp only [Nat.reduceAdd, Nat.add_zero, Nat.zero_add]; first | done | rfl) | rfl) rfl ?_
      refine sv_nil ?_
      refine tt_g rfl ?_
      refine sx_store1 (cs' := arC (M2.set i ⟨⟨s1.r.z, min s1.r.a x, s1.r.b, s1.r.c, s1.r.d⟩, s1.n + 1⟩)) 1 rfl rfl rfl tyS3 rfl (ble_set (n := 2) g2s (by decide)) (fm_set (x := ⟨s1.r, s1.n + 1⟩) (y := ⟨⟨s1.r.z, min s1.r.a x, s1.r.b, s1.r.c, s1.r.d⟩, s1.n + 1⟩) (j := 1) ar_len rfl (by decide) g2s) rfl ?_
      refine sx_nil ⟨HLe.pick [0] (by simp) rfl, ?_⟩
      refine tt_p rfl ?_
      refine sv_nilCheck rfl rfl ?_
      refine sv_nil ?_
      refine tt_p rfl ?_
      refine sv_fieldAddr rfl tyF90_0 (by first | (simp only [Nat.reduceAdd, Nat.add_zero, Nat.zero_add]; first | done | rfl) | rfl) rfl ?_
      refine sv_nil ?_
      refine tt_p rfl ?_
      refine sv_fieldAddr rfl tyF33_3 (by first | (simp only [Nat.reduceAdd, Nat.add_zero, Nat.zero_add]; first | done | rfl) | rfl) rfl ?_
      refine sv_nil ?_
      refine tt_g rfl ?_
      refine sx_store1 (cs' := arC ((M2.set i ⟨⟨s1.r.z, min s1.r.a x, s1.r.b, s1.r.c, s1.r.d⟩, s1.n + 1⟩).set i ⟨⟨s1.r.z, min s1.r.a x, s1.r.b, max s1.r.c x, s1.r.d⟩, s1.n + 1⟩)) 1 rfl rfl rfl tyS3 rfl (ble_set (n := 4) g3s (by decide)) (fm_set (x := ⟨⟨s1.r.z, min s1.r.a x, s1.r.b, s1.r.c, s1.r.d⟩, s1.n + 1⟩) (y := ⟨⟨s1.r.z, min s1.r.a x, s1.r.b, max s1.r.c x, s1.r.d⟩, s1.n + 1⟩) (j := 3) ar_len rfl (by decide) g3s) rfl ?_
      refine sx_nil ⟨HLe.pick [0] (by simp) rfl, ?_⟩
      refine tt_nil ?_
      exact ⟨(), trivial, Kn.cons rfl (Kn.cons rfl Kn.nil), by rw [hset2, hLL]; exact HLe.refl _⟩
    · refine tt_g rfl ?_
      refine sx_load 1 rfl rfl tyA3 tyS3 (fm_rd1 (j := 3) ar_len g2s rfl) rfl ?_
      refine sx_nil ⟨HLe.pick [0] (by simp) rfl, ?_⟩
      refine tt_p rfl ?_
      refine sv_max rfl rfl (max s1.r.c x) rfl rfl ?_
      refine sv_nil ?_
      refine tt_g rfl ?_
      refine sx_load 1 rfl rfl tyA3 tyS3 (fm_rd1 (j := 1) ar_len g2s rfl) rfl ?_
      refine sx_nil ⟨HLe.pick [0] (by simp) rfl, ?_⟩
      refine tt_p rfl ?_
      refine sv_min rfl rfl (min s1.r.a x) rfl rfl ?_
      refine sv_nil ?_
      refine tt_p rfl ?_
      refine sv_nilCheck rfl rfl ?_
      refine sv_nil ?_
      refine tt_p rfl ?_
      refine sv_fieldAddr rfl tyF90_0 (by first | (simp only [Nat.reduceAdd, Nat.add_zero, Nat.zero_add]; first | done | rfl) | rfl) rfl ?_
      refine sv_nil ?_
      refine tt_p rfl ?_
      refine sv_fieldAddr rfl tyF33_1 (by first | (simp only [Nat.reduceAdd, Nat.add_zero, Nat.zero_add]; first | done | rfl) | rfl) rfl ?_
      refine sv_nil ?_
      refine tt_g rfl ?_
      refine sx_store1 (cs' := arC (M2.set i ⟨⟨s1.r.z, min s1.r.a x, s1.r.b, s1.r.c, s1.r.d⟩, s1.n + 1⟩)) 1 rfl rfl rfl tyS3 rfl (ble_set (n := 2) g2s (by decide)) (fm_set (x := ⟨s1.r, s1.n + 1⟩) (y := ⟨⟨s1.r.z, min s1.r.a x, s1.r.b, s1.r.c, s1.r.d⟩, s1.n + 1⟩) (j := 1) ar_len rfl (by decide) g2s) rfl ?_
      refine sx_nil ⟨HLe.pick [0] (by simp) rfl, ?_⟩
      refine tt_p rfl ?_
      refine sv_nilCheck rfl rfl ?_
      refine sv_nil ?_
      refine tt_p rfl ?_
      refine sv_fieldAddr rfl tyF90_0 (by first | (simp only [Nat.reduceAdd, Nat.add_zero, Nat.zero_add]; first | done | rfl) | rfl) rfl ?_
      refine sv_nil ?_
      refine tt_p rfl ?_
      refine sv_fieldAddr rfl tyF33_3 (by first | (simp only [Nat.reduceAdd, Nat.add_zero, Nat.zero_add]; first | done | rfl) | rfl) rfl ?_
      refine sv_nil ?_
      refine tt_g rfl ?_
      refine sx_store1 (cs' := arC ((M2.set i ⟨⟨s1.r.z, min s1.r.a x, s1.r.b, s1.r.c, s1.r.d⟩, s1.n + 1⟩).set i ⟨⟨s1.r.z, min s1.r.a x, s1.r.b, max s1.r.c x, s1.r.d⟩, s1.n + 1⟩)) 1 rfl rfl rfl tyS3 rfl (ble_set (n := 4) g3s (by decide)) (fm_set (x := ⟨⟨s1.r.z, min s1.r.a x, s1.r.b, s1.r.c, s1.r.d⟩, s1.n + 1⟩) (y := ⟨⟨s1.r.z, min s1.r.a x, s1.r.b, max s1.r.c x, s1.r.d⟩, s1.n + 1⟩) (j := 3) ar_len rfl (by decide) g3s) rfl ?_
      refine sx_nil ⟨HLe.pick [0] (by simp) rfl, ?_⟩
      refine tt_nil ?_
      exact ⟨(), trivial, Kn.cons rfl (Kn.cons rfl Kn.nil), by rw [hset2, hLL]; exact HLe.refl _⟩
  rintro ⟨⟩ -
  have g4s := set_get hs ⟨⟨s1.r.z, min s1.r.a x, s1.r.b, max s1.r.c x, s1.r.d⟩, s1.n + 1⟩
  obtain ⟨M3, hM3⟩ : ∃ M, L.set i ⟨⟨s1.r.z, min s1.r.a x, s1.r.b, max s1.r.c x, s1.r.d⟩, s1.n + 1⟩ = M := ⟨_, rfl⟩
  have hset3 : ∀ u, M3.set i u = L.set i u := fun u => by rw [← hM3, List.set_set]
  rw [hM3] at g4s
  rw [hM3]
  have g5s := set_get g4s ⟨⟨s1.r.z, min s1.r.a x, min s1.r.b y, max s1.r.c x, s1.r.d⟩, s1.n + 1⟩
  refine awr_region (fun _ : Unit => []) (fun _ => [.own g1 39 (tcells z x y), .own g t (arC (L.set i ⟨⟨s1.r.z, min s1.r.a x, min s1.r.b y, max s1.r.c x, max s1.r.d y⟩, s1.n + 1⟩))]) (fun _ => True) _ [6, 14, 21, 25] (Tr.step (0, true) (Tr.step (1, true) (Tr.step (2, true) (Tr.step (3, true) (Tr.step (4, true) (Tr.step (5, true) (Tr.step (7, true) (Tr.step (8, true) (Tr.step (10, true) (Tr.step (11, true) (Tr.step (12, true) (Tr.step (13, true) (Tr.step (15, true) (Tr.step (16, true) (Tr.fork (Tr.step (6, false) (Tr.step (9, true) (Tr.step (14, false) (Tr.step (17, true) (Tr.step (18, true) (Tr.step (19, true) (Tr.step (20, true) (Tr.step (21, false) (Tr.step (22, true) (Tr.step (23, true) (Tr.step (24, true) (Tr.step (25, false) Tr.nil)))))))))))) (Tr.step (14, false) (Tr.step (17, true) (Tr.step (6, false) (Tr.step (9, true) (Tr.step (18, true) (Tr.step (19, true) (Tr.step (20, true) (Tr.step (21, false) (Tr.step (22, true) (Tr.step (23, true) (Tr.step (24, true) (Tr.step (25, false) Tr.nil))))))))))))))))))))))))))) mixed (by kernel_rfl) (HLe.pick [0] (by simp) (by simp only [pick, List.filterMap_cons, List.filterMap_nil, List.getElem?_cons_succ, List.getElem?_cons_zero]; rfl)) ?_ ?_
  · refine tt_p rfl ?_
    refine sv_move rfl rfl ?_
    refine sv_nil ?_
    refine tt_p rfl ?_
    refine sv_move rfl rfl ?_
    refine sv_nil ?_
    refine tt_p rfl ?_
    refine sv_move rfl rfl ?_
    refine sv_nil ?_
    refine tt_p rfl ?_
    refine sv_nilCheck rfl rfl ?_
    refine sv_nil ?_
    refine tt_p rfl ?_
    refine sv_fieldAddr rfl tyF90_0 (by first | (simp only [Nat.reduceAdd, Nat.add_zero, Nat.zero_add]; first | done | rfl) | rfl) rfl ?_
    refine sv_nil ?_
    refine tt_p rfl ?_
    refine sv_fieldAddr rfl tyF33_2 (by first | (simp only [Nat.reduceAdd, Nat.add_zero, Nat.zero_add]; first | done | rfl) | rfl) rfl ?_
    refine sv_nil ?_
    refine tt_p rfl ?_
    refine sv_fieldAddr rfl tyF39_2 (by first | (simp only [Nat.reduceAdd, Nat.add_zero, Nat.zero_add]; first | done | rfl) | rfl) rfl ?_
    refine sv_nil ?_
    refine tt_p rfl ?_
    first | refine sv_load 0 rfl rfl tyA3 tyS3 rfl rfl ?_
    refine sv_nil ?_
    refine tt_p rfl ?_
    refine sv_move rfl rfl ?_
    refine sv_nil ?_
    refine tt_p rfl ?_
    refine sv_nilCheck rfl rfl ?_
    refine sv_nil ?_
    refine tt_p rfl ?_
    refine sv_fieldAddr rfl tyF90_0 (by first | (simp only [Nat.reduceAdd, Nat.add_zero, Nat.zero_add]; first | done | rfl) | rfl) rfl ?_
    refine sv_nil ?_
    refine tt_p rfl ?_
    refine sv_fieldAddr rfl tyF33_4 (by first | (simp only [Nat.reduceAdd, Nat.add_zero, Nat.zero_add]; first | done | rfl) | rfl) rfl ?_
    refine sv_nil ?_
    refine tt_p rfl ?_
    refine sv_fieldAddr rfl tyF39_2 (by first | (simp only [Nat.reduceAdd, Nat.add_zero, Nat.zero_add]; first | done | rfl) | rfl) rfl ?_
    refine sv_nil ?_
    refine tt_p rfl ?_
    first | refine sv_load 0 rfl rfl tyA3 tyS3 rfl rfl ?_
    refine sv_nil ?_
    refine tt_fork ?_ ?_
    · refine tt_g rfl ?_
      refine sx_load 1 rfl rfl tyA3 tyS3 (fm_rd1 (j := 2) ar_len g4s rfl) rfl ?_
      refine sx_nil ⟨HLe.pick [0] (by simp) rfl, ?_⟩
      refine tt_p rfl ?_
      refine sv_min rfl rfl (min s1.r.b y) rfl rfl ?_
      refine sv_nil ?_
      refine tt_g rfl ?_
      refine sx_load 1 rfl rfl tyA3 tyS3 (fm_rd1 (j := 4) ar_len g4s rfl) rfl ?_
      refine sx_nil ⟨HLe.pick [0] (by simp) rfl, ?_⟩
      refine tt_p rfl ?_
      refine sv_max rfl rfl (max s1.r.d y) rfl rfl ?_
      refine sv_nil ?_
      refine tt_p rfl ?_
      refine sv_nilCheck rfl rfl ?_
      refine sv_nil ?_
      refine tt_p rfl ?_
      refine sv_fieldAddr rfl tyF90_0 (by first | (simp only [Nat.reduceAdd, Nat.add_zero, Nat.zero_add]; first | done | rfl) | rfl) rfl ?_
      refine sv_nil ?_
      refine tt_p rfl ?_
      refine sv_fieldAddr rfl tyF33_2 (by first | (simp only [Nat.reduceAdd, Nat.add_zero, Nat.zero_add]; first | done | rfl) | rfl) rfl ?_
      refine sv_nil ?_
      refine tt_g rfl ?_
      refine sx_store1 (cs' := arC (M3.set i ⟨⟨s1.r.z, min s1.r.a x, min s1.r.b y, max s1.r.c x, s1.r.d⟩, s1.n + 1⟩)) 1 rfl rfl rfl tyS3 rfl (ble_set (n := 3) g4s (by decide)) (fm_set (x := ⟨⟨s1.r.z, min s1.r.a x, s1.r.b, max s1.r.c x, s1.r.d⟩, s1.n + 1⟩) (y := ⟨⟨s1.r.z, min s1.r.a x, min s1.r.b y, max s1.r.c x, s1.r.d⟩, s1.n + 1⟩) (j := 2) ar_len rfl (by decide) g4s) rfl ?_
      refine sx_nil ⟨HLe.pick [0] (by simp) rfl, ?_⟩
      refine tt_p rfl ?_
      refine sv_nilCheck rfl rfl ?_
      refine sv_nil ?_
      refine tt_p rfl ?_
      refine sv_fieldAddr rfl tyF90_0 (by first | (simp only [Nat.reduceAdd, Nat.add_zero, Nat.zero_add]; first | done | rfl) | rfl) rfl ?_
      refine sv_nil ?_
      refine tt_p rfl ?_
      refine sv_fieldAddr rfl tyF33_4 (by first | (simp only [Nat.reduceAdd, Nat.add_zero, Nat.zero_add]; first | done | rfl) | rfl) rfl ?_
      refine sv_nil ?_
      refine tt_g rfl ?_
      refine sx_store1 (cs' := arC ((M3.set i ⟨⟨s1.r.z, min s1.r.a x, min s1.r.b y, max s1.r.c x, s1.r.d⟩, s1.n + 1⟩).set i ⟨⟨s1.r.z, min s1.r.a x, min s1.r.b y, max s1.r.c x, max s1.r.d y⟩, s1.n + 1⟩)) 1 rfl rfl rfl tyS3 rfl (ble_set (n := 5) g5s (by decide)) (fm_set (x := ⟨⟨s1.r.z, min s1.r.a x, min s1.r.b y, max s1.r.c x, s1.r.d⟩, s1.n + 1⟩) (y := ⟨⟨s1.r.z, min s1.r.a x, min s1.r.b y, max s1.r.c x, max s1.r.d y⟩, s1.n + 1⟩) (j := 4) ar_len rfl (by decide) g5s) rfl ?_
      refine sx_nil ⟨HLe.pick [0] (by simp) rfl, ?_⟩
      refine tt_nil ?_
      exact ⟨(), trivial, Kn.nil, by rw [hset3, hLL]; exact HLe.refl _⟩
    · refine tt_g rfl ?_
      refine sx_load 1 rfl rfl tyA3 tyS3 (fm_rd1 (j := 4) ar_len g4s rfl) rfl ?_
      refine sx_nil ⟨HLe.pick [0] (by simp) rfl, ?_⟩
      refine tt_p rfl ?_
      refine sv_max rfl rfl (max s1.r.d y) rfl rfl ?_
      refine sv_nil ?_
      refine tt_g rfl ?_
      refine sx_load 1 rfl rfl tyA3 tyS3 (fm_rd1 (j := 2) ar_len g4s rfl) rfl ?_
      refine sx_nil ⟨HLe.pick [0] (by simp) rfl, ?_⟩
      refine tt_p rfl ?_
      refine sv_min rfl rfl (min s1.r.b y) rfl rfl ?_
      refine sv_nil ?_
      refine tt_p rfl ?_
      refine sv_nilCheck rfl rfl ?_
      refine sv_nil ?_
      refine tt_p rfl ?_
      refine sv_fieldAddr rfl tyF90_0 (by first | (simp only [Nat.reduceAdd, Nat.add_zero, Nat.zero_add]; first | done | rfl) | rfl) rfl ?_
      refine sv_nil ?_
      refine tt_p rfl ?_
      refine sv_fieldAddr rfl tyF33_2 (by first | (simp only [Nat.reduceAdd, Nat.add_zero, Nat.zero_add]; first | done | rfl) | rfl) rfl ?_
      refine sv_nil ?_
      refine tt_g rfl ?_
      refine sx_store1 (cs' := arC (M3.set i ⟨⟨s1.r.z, min s1.r.a x, min s1.r.b y, max s1.r.c x, s1.r.d⟩, s1.n + 1⟩)) 1 rfl rfl rfl tyS3 rfl (ble_set (n := 3) g4s (by decide)) (fm_set (x := ⟨⟨s1.r.z, min s1.r.a x, s1.r.b, max s1.r.c x, s1.r.d⟩, s1.n + 1⟩) (y := ⟨⟨s1.r.z, min s1.r.a x, min s1.r.b y, max s1.r.c x, s1.r.d⟩, s1.n + 1⟩) (j := 2) ar_len rfl (by decide) g4s) rfl ?_
      refine sx_nil ⟨HLe.pick [0] (by simp) rfl, ?_⟩
      refine tt_p rfl ?_
      refine sv_nilCheck rfl rfl ?_
      refine sv_nil ?_
      refine tt_p rfl ?_
      refine sv_fieldAddr rfl tyF90_0 (by first | (simp only [Nat.reduceAdd, Nat.add_zero, Nat.zero_add]; first | done | rfl) | rfl) rfl ?_
      refine sv_nil ?_
      refine tt_p rfl ?_
      refine sv_fieldAddr rfl tyF33_4 (by first | (simp only [Nat.reduceAdd, Nat.add_zero, Nat.zero_add]; first | done | rfl) | rfl) rfl ?_
      refine sv_nil ?_
      refine tt_g rfl ?_
      refine sx_store1 (cs' := arC ((M3.set i ⟨⟨s1.r.z, min s1.r.a x, min s1.r.b y, max s1.r.c x, s1.r.d⟩, s1.n + 1⟩).set i ⟨⟨s1.r.z, min s1.r.a x, min s1.r.b y, max s1.r.c x, max s1.r.d y⟩, s1.n + 1⟩)) 1 rfl rfl rfl tyS3 rfl (ble_set (n := 5) g5s (by decide)) (fm_set (x := ⟨⟨s1.r.z, min s1.r.a x, min s1.r.b y, max s1.r.c x, s1.r.d⟩, s1.n + 1⟩) (y := ⟨⟨s1.r.z, min s1.r.a x, min s1.r.b y, max s1.r.c x, max s1.r.d y⟩, s1.n + 1⟩) (j := 4) ar_len rfl (by decide) g5s) rfl ?_
      refine sx_nil ⟨HLe.pick [0] (by simp) rfl, ?_⟩
      refine tt_nil ?_
      exact ⟨(), trivial, Kn.nil, by rw [hset3, hLL]; exact HLe.refl _⟩
  rintro ⟨⟩ -
  rw [← ht]
  exact nx_end0h _ rfl (HLe.drop 1 rfl) rfl
end Go.Proofs.Ytmebmkkllhnmlaa

namespace Go.Proofs.Ytmebmkkllhnmlaa
open Go.RowKit
set_option linter.unusedVariables false
set_option linter.unusedSimpArgs false
set_option maxRecDepth 100000
theorem tOf_k {e : It} (h : TileOk e) : Fn Try.prog 34 [uq e.id] [] fun v _ => v = .tuple #[tval (tz e : Nat) (tx e : Nat) (ty e : Nat), iq (0 : Int)] := by
  have hf := tOf_fn (tz e) (e.id - base4 (tz e)) h.z h.at_
  have e1 : base4 (tz e) + (e.id - base4 (tz e)) = e.id := by have := h.id; omega
  rw [e1] at hf
  exact hf
theorem xe_perm (a b c : Ent) (T R : Heap) : (a :: b :: c :: (T ++ R)).Perm (c :: (T ++ (a :: R ++ [b]))) := by
  classical exact List.perm_iff_count.2 fun x => by simp only [List.count_append, List.count_cons, List.count_nil]; omega
theorem xe_le (T R : Heap) (ge g2 t1 t2 : Nat) (cs fs : List Value) (b : Ent) : HLe (T ++ ((.ro ge 0 cs :: R) ++ [.ro g2 0 fs])) ([.own ge t1 cs] ++ (.own g2 t2 fs :: b :: (T ++ R))) := by
  refine HLe.trans ?_ (fun _ _ _ hw => (hw.perm (xe_perm _ _ _ _ _)).sub (List.sublist_cons_self _ _))
  refine HLe.trans ?_ (HLe.toRo (t := t1) T _)
  have := HLe.toRo (g := g2) (t := t2) (cs := fs) (T ++ (.ro ge 0 cs :: R)) []
  rw [List.append_assoc, List.append_assoc] at this
  exact this
theorem xe_perm2 (b : Ent) (T : Heap) : (T ++ [b]).Perm (b :: T) := by
  classical exact List.perm_iff_count.2 fun x => by simp only [List.count_append, List.count_cons, List.count_nil]; omega
theorem xeach_fn (A : Option Addr) (c : Nat) (O : List It) (hA : SlIn A O.length c) (hok : ChOk O) (F : FuncId) (caps : List Value) (J : Nat → Heap → Prop) (hJ : ∀ k T, J k T → Wrs T)
    (hcb : ∀ k e T, O[k]? = some e → J k T → Fn Try.prog F ([tval (tz e : Nat) (tx e : Nat) (ty e : Nat)] ++ caps) T fun _ H' => J (k + 1) H') (T : Heap) (h0 : J 0 T) :
    Fn Try.prog 46 [chV A O.length c, .func (.func F) #[] caps.toArray] (T ++ roE A (icells O)) fun _ H' => J O.length H' := by
  have hlen := hok.len
  refine Fn.enterM (n := 21) Try.func46 rfl (by kernel_rfl) rfl (fun w0 => ?_)

  refine awp_seq_region (fun Z hZ => ?_)
  refine sx_box rfl rfl rfl (fun g1 => ?_)
  refine sx_box rfl rfl rfl (fun g2 => ?_)
  refine sx_nil (hZ _ _ ?_)
  refine awp_forget [(2, _), (3, _)] (Kn.cons rfl (Kn.cons rfl (Kn.nil))) ?_

  refine awp_seq_region (fun Z hZ => ?_)
  refine sx_loadA 1 rfl rfl tyA29 tyS29 (by first | (simp only [List.length_cons, List.length_nil, Nat.reduceAdd, Nat.zero_add, Nat.add_zero]; first | done | rfl) | rfl) (by first | (simp only [List.take_succ_cons, List.take_zero, List.drop_succ_cons, List.drop_zero, List.cons_append, List.nil_append, List.append_nil, List.length_cons, List.length_nil, Nat.reduceAdd, Nat.zero_add, Nat.add_zero, Value.cells, wrV]; first | done | rfl) | rfl) rfl ?_
  refine sx_callO [] _ (ceach_fn A O.length c) rfl (HLe.refl _) rfl ?_
  rintro v H' ⟨ge, rfl, rfl⟩
  refine sx_heap (T ++ ((.ro ge 0 [.slice A O.length c] :: roE A (icells O)) ++ [.ro g2 0 [.func (.func F) #[] caps.toArray]])) (xe_le _ _ _ _ _ _ _ _ _) ?_
  refine sx_nil (hZ _ _ ?_)
  refine awp_forget [(3, _), (8, _)] (Kn.cons rfl (Kn.cons rfl (Kn.nil))) ?_
  refine awp_block ?_
  have hit := ceach_it ge A c O _ hA.arg (fun _ => rfl) (by omega)
  have hRO : Ro (.ro ge 0 [.slice A O.length c] :: roE A (icells O)) := fun e he => by
    rcases List.mem_cons.1 he with rfl | he
    · rfl
    exact Ro.roE _ _ e he
  have hJr : Ro [.ro g2 0 [.func (.func F) #[] caps.toArray]] := fun e he => by rw [List.mem_singleton.1 he]; rfl
  refine awp_range J [.ro g2 0 [.func (.func F) #[] caps.toArray]] (fun _ _ => False) T hit rfl hJ (fun _ _ h => h.elim) hJr hRO (fun k vs h => by rw [List.getElem?_map] at h; cases hk : O[k]? with | none => rw [hk] at h; cases h | some x => rw [hk] at h; obtain rfl := Option.some.inj h; rfl) rfl h0 (HLe.refl _) rfl ?_ ?_ ?_
  · intro k vs T1 hk hT1 l w1
    rw [List.getElem?_map] at hk
    cases hkx : O[k]? with
    | none => rw [hkx] at hk; cases hk
    | some y =>
      rw [hkx] at hk
      obtain rfl := Option.some.inj hk
      have htk := tile_ok (hok.lt y (List.mem_of_getElem? hkx))
      have hof := tOf_k htk
      have hc := hcb k y T1 hkx hT1

      refine awp_region (fun Z hZ => ?_)
      refine sx_assign rfl rfl ?_
      refine sx_nil (hZ _ _ ?_)
      refine nx_forget [(3, _), (4, _)] (Kn.cons rfl (Kn.cons rfl (Kn.nil))) ?_
      refine nx_assign [] .nil (HLe.refl _) fun w2 => ?_
      refine awp_block ?_
      refine awp_heap (.ro g2 0 [.func (.func F) #[] caps.toArray] :: T1) (fun _ _ _ hw => hw.perm (xe_perm2 _ _)) ?_

      refine awp_seq_region (fun Z hZ => ?_)
      refine sx_move rfl rfl ?_
      refine sx_callP (hof) rfl rfl ?_
      refine sx_move rfl rfl ?_
      refine sx_extract rfl rfl rfl ?_
      refine sx_extract rfl rfl rfl ?_
      refine sx_alloc tyZ39 rfl (fun g3 => ?_)
      refine sx_store 0 rfl rfl rfl tyS39 (by first | (simp only [Value.cells]; first | done | rfl) | rfl) rfl rfl (by first | (simp only [List.length_cons, List.length_nil, Nat.reduceAdd, Nat.zero_add, Nat.add_zero]; first | done | rfl) | rfl) (by first | (simp only [List.take_succ_cons, List.take_zero, List.drop_succ_cons, List.drop_zero, List.cons_append, List.nil_append, List.append_nil, List.length_cons, List.length_nil, Nat.reduceAdd, Nat.zero_add, Nat.add_zero, Value.cells, wrV]; first | done | rfl) | rfl) (by first | (simp only [List.set_cons_succ, List.set_cons_zero]; first | done | rfl) | rfl) ?_
      refine sx_assign rfl rfl ?_
      refine sx_nil (hZ _ _ ?_)
      refine awp_forget [(3, _), (5, _), (6, _)] (Kn.cons rfl (Kn.cons rfl (Kn.cons rfl (Kn.nil)))) ?_

      refine awp_seq_region (fun Z hZ => ?_)
      refine sx_move rfl rfl ?_
      refine sx_eql rfl rfl rfl ?_
      refine sx_nil (hZ _ _ ?_)
      refine awp_forget [(3, _), (5, _), (17, _)] (Kn.cons rfl (Kn.cons rfl (Kn.cons rfl (Kn.nil)))) ?_
      refine awp_cond rfl (fun h4 => ?_) (fun h4 => ?_)
      · refine awp_region (fun Z hZ => ?_)
        refine sx_loadRo 1 rfl rfl 0 rfl tyA103 tyS103 rfl rfl ?_
        refine sx_loadA 0 rfl rfl tyA39 tyS39 (by first | (simp only [List.length_cons, List.length_nil, Nat.reduceAdd, Nat.zero_add, Nat.add_zero]; first | done | rfl) | rfl) (by first | (simp only [List.take_succ_cons, List.take_zero, List.drop_succ_cons, List.drop_zero, List.cons_append, List.nil_append, List.append_nil, List.length_cons, List.length_nil, Nat.reduceAdd, Nat.zero_add, Nat.add_zero, Value.cells, wrV]; first | done | rfl) | rfl) rfl ?_
        refine sx_callFO (vs := [tval (tz y : Nat) (tx y : Nat) (ty y : Nat)]) T1 _ hc rfl rfl (HLe.swap [_, _] _) rfl ?_
        intro v2 H2 hJ2
        rw [(hJ _ _ hJ2).filter]
        refine sx_nil (hZ _ _ ?_)
        refine nx_forget [] (Kn.nil) ?_
        refine nx_block_normal ?_
        exact nx_next H2 hJ2 (HLe.sub (List.sublist_append_left _ _))
      cases h4
  · intro D T1 hT1
    rw [List.length_map] at hT1
    refine nx_block_normal ?_
    exact nx_unmarkN [0] ⟨rfl, trivial⟩ (nx_end0h T1 rfl (HLe.sub (List.sublist_append_left _ _)) hT1)
  · intro D c1 T1 hf
    exact hf.elim
theorem xcb_fn (ga : Nat) {O : List It} {k : Nat} {e : It} (h : O[k]? = some e) (he : TileOk e) (hn : O.length ≤ 100000) :
    Fn Try.prog 65 ([tval (tz e : Nat) (tx e : Nat) (ty e : Nat)] ++ [ptr ga 0]) [.own ga 98 (arC (arL (O.take k)))] fun _ H' => H' = [.own ga 98 (arC (arL (O.take (k + 1))))] := by
  have hz := he.z
  have hat := arL_at (O.take k) hz
  have hnn : (arZ (O.take k) (tz e : Nat)).n ≤ 1000000 := by
    have h1 := arZ_le (O.take k) (tz e : Nat)
    have h2 := List.length_take_le k O
    rw [List.length_take] at h1
    omega
  have htk := fun t => xtake_fn ga t (tz e : Nat) (tx e : Nat) (ty e : Nat) hat hnn
  rw [show [tval (tz e : Nat) (tx e : Nat) (ty e : Nat)] ++ [ptr ga 0] = [tval (tz e : Nat) (tx e : Nat) (ty e : Nat), ptr ga 0] from rfl, arL_snoc h hz]
  refine Fn.enter (N := 8) Try.func65 rfl (by kernel_rfl) rfl (fun w0 => ?_)

  refine awp_seq_region (fun Z hZ => ?_)
  refine sx_box rfl rfl rfl (fun g1 => ?_)
  refine sx_nil (hZ _ _ ?_)
  refine awp_forget [(1, _), (2, _)] (Kn.cons rfl (Kn.cons rfl (Kn.nil))) ?_

  refine aww_region _ [(0, true), (1, true), (2, true), (3, true), (4, false)] mixed (by kernel_rfl) (HLe.pick [0] (by simp) (by simp only [pick, List.filterMap_cons, List.filterMap_nil, List.getElem?_cons_succ, List.getElem?_cons_zero]; rfl)) (fun Z hZ => ?_)
  refine tw_p rfl ?_
  refine sv_fieldAddr rfl tyF39_0 (by first | (simp only [Nat.reduceAdd, Nat.add_zero, Nat.zero_add]; first | done | rfl) | rfl) rfl ?_
  refine sv_nil ?_
  refine tw_p rfl ?_
  first | refine sv_load 0 rfl rfl tyA3 tyS3 rfl rfl ?_
  refine sv_nil ?_
  refine tw_p rfl ?_
  refine sv_indexAddrA (tz e * 6) Try.underlying98 tyS90 rfl rfl (by omega) (by simp) rfl ?_
  refine sv_nil ?_
  refine tw_p rfl ?_
  first | refine sv_loadA 0 rfl rfl tyA39 tyS39 (by first | (simp only [List.length_cons, List.length_nil, Nat.reduceAdd, Nat.zero_add, Nat.add_zero]; first | done | rfl) | rfl) (by first | (simp only [List.take_succ_cons, List.take_zero, List.drop_succ_cons, List.drop_zero, List.cons_append, List.nil_append, List.append_nil, List.length_cons, List.length_nil, Nat.reduceAdd, Nat.zero_add, Nat.add_zero, Value.cells, wrV]; first | done | rfl) | rfl) rfl ?_
  refine sv_nil ?_
  refine tw_g rfl ?_
  refine sx_callO [.own ga 98 (arC (arL (O.take k)))] [.own g1 39 (tcells (tz e : Nat) (tx e : Nat) (ty e : Nat))] (htk _) rfl (HLe.swap [_] [_]) rfl ?_
  rintro v' H' rfl
  refine sx_heap [.own g1 39 (tcells (tz e : Nat) (tx e : Nat) (ty e : Nat)), .own ga 98 (arC ((arL (O.take k)).set (tz e) (takeQ (arZ (O.take k) (tz e : Nat)) (tz e : Nat) (tx e : Nat) (ty e : Nat))))] (HLe.swap [_] [_]) ?_
  refine sx_nil ⟨HLe.pick [0] (by simp) rfl, ?_⟩
  refine tw_nil (hZ _ _ ?_)
  refine nx_forget [] (Kn.nil) ?_
  exact nx_end0h _ rfl (HLe.drop 1 rfl) rfl
theorem tyZ98 : tyZero Try.prog 98 = some (arC (arL [])) := by kernel_rfl
theorem xzooms_fn (A : Option Addr) (c : Nat) (O : List It) (hA : SlIn A O.length c) (hok : ChOk O) :
    Fn Try.prog 43 [chV A O.length c] (roE A (icells O)) fun v _ => v = .agg (arC (arL O)).toArray := by
  have hlen := hok.len
  refine Fn.enter (N := 8) Try.func43 rfl (by kernel_rfl) rfl (fun w0 => ?_)

  refine awp_seq_region (fun Z hZ => ?_)
  refine sx_box rfl rfl rfl (fun g1 => ?_)
  refine sx_alloc tyZ98 rfl (fun g2 => ?_)
  refine sx_nil (hZ _ _ ?_)
  refine awp_forget [(1, _), (2, _)] (Kn.cons rfl (Kn.cons rfl (Kn.nil))) ?_

  refine awp_seq_region (fun Z hZ => ?_)
  refine sx_alloc tyZ98 rfl (fun g3 => ?_)
  refine sx_nil (hZ _ _ ?_)
  refine awp_forget [(1, _), (2, _), (3, _)] (Kn.cons rfl (Kn.cons rfl (Kn.cons rfl (Kn.nil)))) ?_
  have hcb := fun (k : Nat) (e : It) (T : Heap) (hk : O[k]? = some e) (hT : T = [.own g3 98 (arC (arL (O.take k)))]) => show Fn Try.prog 65 ([tval (tz e : Nat) (tx e : Nat) (ty e : Nat)] ++ [ptr g3 0]) T (fun _ H' => H' = [.own g3 98 (arC (arL (O.take (k + 1))))]) from by
    subst hT
    exact xcb_fn g3 hk (tile_ok (hok.lt e (List.mem_of_getElem? hk))) (by omega)
  have he := xeach_fn A c O hA hok 65 [ptr g3 0] (fun k T => T = [.own g3 98 (arC (arL (O.take k)))]) (fun k T h => by subst h; exact .cons rfl .nil) hcb _ rfl
  rw [List.take_length] at he

  refine awp_seq_region (fun Z hZ => ?_)
  refine sx_loadA 2 rfl rfl tyA29 tyS29 (by first | (simp only [List.length_cons, List.length_nil, Nat.reduceAdd, Nat.zero_add, Nat.add_zero]; first | done | rfl) | rfl) (by first | (simp only [List.take_succ_cons, List.take_zero, List.drop_succ_cons, List.drop_zero, List.cons_append, List.nil_append, List.append_nil, List.length_cons, List.length_nil, Nat.reduceAdd, Nat.zero_add, Nat.add_zero, Value.cells, wrV]; first | done | rfl) | rfl) rfl ?_
  refine sx_makeFunc rfl rfl ?_
  refine sx_callA [.own g3 98 (arC (arL (O.take 0)))] (roE A (icells O)) (.own g2 98 (arC (arL [])) :: .own g1 29 [.slice A O.length c] :: roE A (icells O)) he rfl (HLe.refl _) (.cons _ (.cons _ (List.Sublist.refl _))) (Ro.roE _ _) rfl ?_
  rintro v' H' rfl
  refine sx_heap [.own g3 98 (arC (arL O)), .own g2 98 (arC (arL []))] (HLe.sub (.cons_cons _ (.cons_cons _ (List.nil_sublist _)))) ?_
  refine sx_nil (hZ _ _ ?_)
  refine awp_forget [(2, _), (3, _)] (Kn.cons rfl (Kn.cons rfl (Kn.nil))) ?_

  have hl : (arC (arL O)).length = 162 := by rw [arC_len, arL_len]
  obtain ⟨cs, hcs⟩ : ∃ cs, arC (arL O) = cs := ⟨_, rfl⟩
  rw [hcs] at hl ⊢
  refine awp_seq_region (fun Z hZ => ?_)
  refine sx_loadA (cs' := cs) 0 rfl rfl tyA98 tyS98 (ble_of (by omega)) (by rw [List.drop_zero, List.take_of_length_le (by omega)]) rfl ?_
  refine sx_store (cs' := cs) (vs := cs) 1 rfl rfl rfl tyS98 rfl (by rw [← hcs]; exact fm_one (fun _ => rfl) _) hl (by rfl) (by unfold wrV; rw [List.take_zero, List.nil_append, List.drop_of_length_le (by rw [Nat.zero_add, hl]; exact Nat.le_of_eq (by rw [arC_len, arL_len])), List.append_nil]) rfl ?_
  refine sx_nil (hZ _ _ ?_)
  refine awp_forget [(2, _)] (Kn.cons rfl (Kn.nil)) ?_
  refine awp_ret ?_
  exact nx_ret1 rfl (ResOk.cell 1 rfl rfl tyA98 tyS98 (by unfold rdV; rw [List.drop_zero, List.take_of_length_le (by omega)]; simp only [Nat.zero_add, hl]; rfl)) rfl
theorem xof_fn (A : Option Addr) (c : Nat) (O : List It) (hA : SlIn A O.length c) (hok : ChOk O) (z : Int) :
    Fn Try.prog 38 [chV A O.length c, iq z] (roE A (icells O)) fun v _ => v = (arZ O z).val := by
  by_cases hz : z < 0 ∨ 26 < z
  · rw [arZ_far hz hok.lt]
    refine Fn.enter (N := 16) Try.func38 rfl (by kernel_rfl) rfl (fun w0 => ?_)

    refine awp_seq_region (fun Z hZ => ?_)
    refine sx_box rfl rfl rfl (fun g1 => ?_)
    refine sx_alloc tyZ90 rfl (fun g2 => ?_)
    refine sx_nil (hZ _ _ ?_)
    refine awp_forget [(1, _), (2, _), (4, _)] (Kn.cons rfl (Kn.cons rfl (Kn.cons rfl (Kn.nil)))) ?_

    refine awp_seq ?_
    refine awp_seq_meet [(4, ptr g2 0), (10, .bool true)] [.own g2 90 ar0.cells] (fun Z hZ => ?_) ?_
    · refine sx_move rfl rfl ?_
      refine sx_lss rfl rfl rfl ?_
      refine sx_move rfl rfl ?_
      refine sx_split 7 rfl (fun hb2 => ?_) (fun hb2 => ?_)
      · refine sx_off rfl rfl rfl rfl rfl ?_
        refine sx_off rfl rfl rfl rfl rfl ?_
        refine sx_pick rfl rfl rfl ?_
        refine sx_nil (hZ _ _ ?_ ?_)
        · exact Kn.cons rfl (Kn.cons (congrArg some (congrArg Value.bool (by first | rfl | (simp at *; done) | (simp at *; omega)))) Kn.nil)
        · exact HLe.sub (.cons_cons _ (List.nil_sublist _))
      · refine sx_on rfl rfl rfl ?_
        refine sx_move rfl rfl ?_
        refine sx_on rfl rfl rfl ?_
        refine sx_gtr rfl rfl rfl ?_
        refine sx_pick rfl rfl rfl ?_
        refine sx_nil (hZ _ _ ?_ ?_)
        · exact Kn.cons rfl (Kn.cons (congrArg some (congrArg Value.bool (by first | rfl | (simp at *; done) | (simp at *; omega)))) Kn.nil)
        · exact HLe.sub (.cons_cons _ (List.nil_sublist _))
    refine awp_cond rfl (fun h => ?_) (fun h => ?_)
    · skip
      refine awp_seq_region (fun Z hZ => ?_)
      refine sx_build tyZ90 tyP90 rfl rfl (by first | (simp only [List.take_succ_cons, List.take_zero, List.drop_succ_cons, List.drop_zero, List.cons_append, List.nil_append, List.append_nil, List.length_cons, List.length_nil, Nat.reduceAdd, Nat.zero_add, Nat.add_zero, Value.cells, wrV, zrep_one, List.replicate_succ, List.replicate_zero, Nat.reduceMul, Nat.zero_mul]; first | done | rfl) | rfl) rfl ?_
      first | refine sx_store 0 rfl rfl rfl tyS90 (by first | (simp only [Value.cells]; first | done | rfl) | rfl) rfl rfl (by first | (simp only [List.length_cons, List.length_nil, Nat.reduceAdd, Nat.zero_add, Nat.add_zero]; first | done | rfl) | rfl) (by first | (simp only [List.take_succ_cons, List.take_zero, List.drop_succ_cons, List.drop_zero, List.cons_append, List.nil_append, List.append_nil, List.length_cons, List.length_nil, Nat.reduceAdd, Nat.zero_add, Nat.add_zero, Value.cells, wrV]; first | done | rfl) | rfl) (by first | (simp only [List.set_cons_succ, List.set_cons_zero]; first | done | rfl) | rfl) ?_
      refine sx_nil (hZ _ _ ?_)
      refine awp_forget [(4, _)] (Kn.cons rfl (Kn.nil)) ?_
      refine awp_ret ?_
      repeat (with_reducible refine nx_then_ret ?_)
      exact nx_ret1 rfl (ResOk.cell 0 rfl rfl tyA90 tyS90 rfl) rfl
    cases h
  · obtain ⟨n, rfl⟩ : ∃ n : Nat, z = n := ⟨z.toNat, by omega⟩
    have hat := arL_at O (show n ≤ 26 by omega)
    have hzm := xzooms_fn A c O hA hok
    obtain ⟨s, hs⟩ : ∃ s, arZ O (n : Nat) = s := ⟨_, rfl⟩
    rw [hs] at hat ⊢
    refine Fn.enter (N := 16) Try.func38 rfl (by kernel_rfl) rfl (fun w0 => ?_)

    refine awp_seq_region (fun Z hZ => ?_)
    refine sx_box rfl rfl rfl (fun g1 => ?_)
    refine sx_alloc tyZ90 rfl (fun g2 => ?_)
    refine sx_nil (hZ _ _ ?_)
    refine awp_forget [(1, _), (2, _), (4, _)] (Kn.cons rfl (Kn.cons rfl (Kn.cons rfl (Kn.nil)))) ?_

    refine awp_seq ?_
    refine awp_seq_meet [(1, iq (n : Nat)), (2, ptr g1 0), (4, ptr g2 0), (10, .bool false)] (.own g2 90 ar0.cells :: .own g1 29 [.slice A O.length c] :: roE A (icells O)) (fun Z hZ => ?_) ?_
    · refine sx_move rfl rfl ?_
      refine sx_lss rfl rfl rfl ?_
      refine sx_move rfl rfl ?_
      refine sx_split 7 rfl (fun hb2 => ?_) (fun hb2 => ?_)
      · refine sx_off rfl rfl rfl rfl rfl ?_
        refine sx_off rfl rfl rfl rfl rfl ?_
        refine sx_pick rfl rfl rfl ?_
        refine sx_nil (hZ _ _ ?_ ?_)
        · exact Kn.cons rfl (Kn.cons rfl (Kn.cons rfl (Kn.cons (congrArg some (congrArg Value.bool (by first | rfl | (simp at *; done) | (simp at *; omega)))) Kn.nil)))
        · exact HLe.refl _
      · refine sx_on rfl rfl rfl ?_
        refine sx_move rfl rfl ?_
        refine sx_on rfl rfl rfl ?_
        refine sx_gtr rfl rfl rfl ?_
        refine sx_pick rfl rfl rfl ?_
        refine sx_nil (hZ _ _ ?_ ?_)
        · exact Kn.cons rfl (Kn.cons rfl (Kn.cons rfl (Kn.cons (congrArg some (congrArg Value.bool (by first | rfl | (simp at *; done) | (simp at *; omega)))) Kn.nil)))
        · exact HLe.refl _
    refine awp_cond rfl (fun h => ?_) (fun h => ?_)
    · cases h
    refine awp_skip ?_
    with_reducible refine nx_normal ?_
    refine awp_seq_region (fun Z hZ => ?_)
    refine sx_loadA 1 rfl rfl tyA29 tyS29 (by first | (simp only [List.length_cons, List.length_nil, Nat.reduceAdd, Nat.zero_add, Nat.add_zero]; first | done | rfl) | rfl) (by first | (simp only [List.take_succ_cons, List.take_zero, List.drop_succ_cons, List.drop_zero, List.cons_append, List.nil_append, List.append_nil, List.length_cons, List.length_nil, Nat.reduceAdd, Nat.zero_add, Nat.add_zero, Value.cells, wrV]; first | done | rfl) | rfl) rfl ?_
    refine sx_callV (roE A (icells O)) hzm rfl (HLe.drop 2 rfl) (Ro.roE _ _) rfl ?_
    refine sx_move rfl rfl ?_
    refine sx_indexA (cs := arC (arL O)) (n := 6) Try.underlying98 tyA90 tyS90 rfl rfl (by omega) (fm_rd ar_len hat) rfl ?_
    refine sx_store (cs' := s.cells) (vs := s.cells) 0 rfl rfl rfl tyS90 rfl rfl rfl rfl rfl rfl ?_
    refine sx_nil (hZ _ _ ?_)
    refine awp_forget [(4, _)] (Kn.cons rfl (Kn.nil)) ?_
    refine awp_ret ?_
    exact nx_ret1 rfl (ResOk.cell 0 rfl rfl tyA90 tyS90 rfl) rfl
theorem xbox_fn (A : Option Addr) (c : Nat) (O : List It) (hA : SlIn A O.length c) (hok : ChOk O) (z : Int) :
    Fn Try.prog 11 [chV A O.length c, iq z] (roE A (icells O)) fun v _ => v = .tuple #[(arZ O z).r.val, .bool (decide (0 < (arZ O z).n))] := by
  have hof := xof_fn A c O hA hok z
  obtain ⟨s, hs⟩ : ∃ s, arZ O z = s := ⟨_, rfl⟩
  rw [hs] at hof ⊢
  refine Fn.enter (N := 15) Try.func11 rfl (by kernel_rfl) rfl (fun w0 => ?_)

  refine awp_seq_region (fun Z hZ => ?_)
  refine sx_box rfl rfl rfl (fun g1 => ?_)
  refine sx_alloc tyZ33 rfl (fun g2 => ?_)
  refine sx_assign rfl rfl ?_
  refine sx_nil (hZ _ _ ?_)
  refine awp_forget [(1, _), (2, _), (4, _)] (Kn.cons rfl (Kn.cons rfl (Kn.cons rfl (Kn.nil)))) ?_

  refine awp_seq_region (fun Z hZ => ?_)
  refine sx_loadA 1 rfl rfl tyA29 tyS29 (by first | (simp only [List.length_cons, List.length_nil, Nat.reduceAdd, Nat.zero_add, Nat.add_zero]; first | done | rfl) | rfl) (by first | (simp only [List.take_succ_cons, List.take_zero, List.drop_succ_cons, List.drop_zero, List.cons_append, List.nil_append, List.append_nil, List.length_cons, List.length_nil, Nat.reduceAdd, Nat.zero_add, Nat.add_zero, Value.cells, wrV]; first | done | rfl) | rfl) rfl ?_
  refine sx_move rfl rfl ?_
  refine sx_callV (roE A (icells O)) hof rfl (HLe.drop 2 rfl) (Ro.roE _ _) rfl ?_
  refine sx_alloc tyZ90 rfl (fun g3 => ?_)
  refine sx_store 0 rfl rfl rfl tyS90 (by first | (simp only [Value.cells]; first | done | rfl) | rfl) rfl rfl (by first | (simp only [List.length_cons, List.length_nil, Nat.reduceAdd, Nat.zero_add, Nat.add_zero]; first | done | rfl) | rfl) (by first | (simp only [List.take_succ_cons, List.take_zero, List.drop_succ_cons, List.drop_zero, List.cons_append, List.nil_append, List.append_nil, List.length_cons, List.length_nil, Nat.reduceAdd, Nat.zero_add, Nat.add_zero, Value.cells, wrV]; first | done | rfl) | rfl) (by first | (simp only [List.set_cons_succ, List.set_cons_zero]; first | done | rfl) | rfl) ?_
  refine sx_nil (hZ _ _ ?_)
  refine awp_forget [(4, _), (6, _)] (Kn.cons rfl (Kn.cons rfl (Kn.nil))) ?_
  refine awp_heap [.own g3 90 s.cells, .own g2 33 ar0.r.cells] (HLe.sub (.cons_cons _ (.cons_cons _ (List.nil_sublist _)))) ?_

  refine aww_seq_region _ [(0, true), (1, true), (2, true), (3, true), (4, true), (5, false), (6, true)] mixed (by kernel_rfl) (HLe.pick [0] (by simp) (by simp only [pick, List.filterMap_cons, List.filterMap_nil, List.getElem?_cons_succ, List.getElem?_cons_zero]; rfl)) (fun Z hZ => ?_)
  refine tw_p rfl ?_
  refine sv_fieldAddr rfl tyF90_0 (by first | (simp only [Nat.reduceAdd, Nat.add_zero, Nat.zero_add]; first | done | rfl) | rfl) rfl ?_
  refine sv_nil ?_
  refine tw_p rfl ?_
  first | refine sv_loadA 0 rfl rfl tyA33 tyS33 (by first | (simp only [List.length_cons, List.length_nil, Nat.reduceAdd, Nat.zero_add, Nat.add_zero]; first | done | rfl) | rfl) (by first | (simp only [List.take_succ_cons, List.take_zero, List.drop_succ_cons, List.drop_zero, List.cons_append, List.nil_append, List.append_nil, List.length_cons, List.length_nil, Nat.reduceAdd, Nat.zero_add, Nat.add_zero, Value.cells, wrV]; first | done | rfl) | rfl) rfl ?_
  refine sv_nil ?_
  refine tw_p rfl ?_
  refine sv_fieldAddr rfl tyF90_1 (by first | (simp only [Nat.reduceAdd, Nat.add_zero, Nat.zero_add]; first | done | rfl) | rfl) rfl ?_
  refine sv_nil ?_
  refine tw_p rfl ?_
  first | refine sv_load 0 rfl rfl tyA3 tyS3 rfl rfl ?_
  refine sv_nil ?_
  refine tw_p rfl ?_
  refine sv_gtr rfl rfl rfl ?_
  refine sv_nil ?_
  refine tw_g rfl ?_
  refine sx_store 1 rfl rfl rfl tyS33 (by first | (simp only [Value.cells]; first | done | rfl) | rfl) rfl rfl (by first | (simp only [List.length_cons, List.length_nil, Nat.reduceAdd, Nat.zero_add, Nat.add_zero]; first | done | rfl) | rfl) (by first | (simp only [List.take_succ_cons, List.take_zero, List.drop_succ_cons, List.drop_zero, List.cons_append, List.nil_append, List.append_nil, List.length_cons, List.length_nil, Nat.reduceAdd, Nat.zero_add, Nat.add_zero, Value.cells, wrV]; first | done | rfl) | rfl) (by first | (simp only [List.set_cons_succ, List.set_cons_zero]; first | done | rfl) | rfl) ?_
  refine sx_nil ⟨HLe.pick [0] (by simp) rfl, ?_⟩
  refine tw_p rfl ?_
  refine sv_assign rfl rfl ?_
  refine sv_nil ?_
  refine tw_nil (hZ _ _ ?_)
  refine awp_forget [(4, _), (5, _)] (Kn.cons rfl (Kn.cons rfl (Kn.nil))) ?_
  refine awp_ret ?_
  exact nx_ret2 rfl (ResOk.cell 1 rfl rfl tyA33 tyS33 rfl) rfl (by simp)
theorem xcount_fn (A : Option Addr) (c : Nat) (O : List It) (hA : SlIn A O.length c) (hok : ChOk O) (z : Int) :
    Fn Try.prog 17 [chV A O.length c, iq z] (roE A (icells O)) fun v _ => v = iq ((arZ O z).n : Nat) := by
  have hof := xof_fn A c O hA hok z
  obtain ⟨s, hs⟩ : ∃ s, arZ O z = s := ⟨_, rfl⟩
  rw [hs] at hof ⊢
  refine Fn.enter (N := 9) Try.func17 rfl (by kernel_rfl) rfl (fun w0 => ?_)

  refine awp_seq_region (fun Z hZ => ?_)
  refine sx_box rfl rfl rfl (fun g1 => ?_)
  refine sx_assign rfl rfl ?_
  refine sx_nil (hZ _ _ ?_)
  refine awp_forget [(1, _), (2, _)] (Kn.cons rfl (Kn.cons rfl (Kn.nil))) ?_

  refine awp_seq_region (fun Z hZ => ?_)
  first | refine sx_loadA 0 rfl rfl tyA29 tyS29 (by first | (simp only [List.length_cons, List.length_nil, Nat.reduceAdd, Nat.zero_add, Nat.add_zero]; first | done | rfl) | rfl) (by first | (simp only [List.take_succ_cons, List.take_zero, List.drop_succ_cons, List.drop_zero, List.cons_append, List.nil_append, List.append_nil, List.length_cons, List.length_nil, Nat.reduceAdd, Nat.zero_add, Nat.add_zero, Value.cells, wrV]; first | done | rfl) | rfl) rfl ?_
  refine sx_move rfl rfl ?_
  refine sx_callV (roE A (icells O)) hof rfl (HLe.drop 1 rfl) (Ro.roE _ _) rfl ?_
  refine sx_field rfl tyF90_1 rfl rfl ?_
  refine sx_assign rfl rfl ?_
  refine sx_nil (hZ _ _ ?_)
  refine awp_forget [(4, _)] (Kn.cons rfl (Kn.nil)) ?_
  refine awp_ret ?_
  exact nx_ret1 rfl rfl rfl
def fullQx (s : Ar) : Bool := decide (0 < s.n ∧ s.n = sizeQ s.r)
theorem xfull_fn (A : Option Addr) (c : Nat) (O : List It) (hA : SlIn A O.length c) (hok : ChOk O) (z : Int) :
    Fn Try.prog 19 [chV A O.length c, iq z] (roE A (icells O)) fun v _ => v = .bool (fullQx (arZ O z)) := by
  have hof := xof_fn A c O hA hok z
  obtain ⟨s, hs⟩ : ∃ s, arZ O z = s := ⟨_, rfl⟩
  rw [hs] at hof ⊢
  have hsz := cSize_fn s.r
  unfold fullQx
  obtain ⟨q, hq⟩ : ∃ q, sizeQ s.r = q := ⟨_, rfl⟩
  rw [hq] at hsz ⊢
  refine Fn.enter (N := 20) Try.func19 rfl (by kernel_rfl) rfl (fun w0 => ?_)

  refine awp_seq_region (fun Z hZ => ?_)
  refine sx_box rfl rfl rfl (fun g1 => ?_)
  refine sx_assign rfl rfl ?_
  refine sx_nil (hZ _ _ ?_)
  refine awp_forget [(1, _), (2, _)] (Kn.cons rfl (Kn.cons rfl (Kn.nil))) ?_

  refine awp_seq_region (fun Z hZ => ?_)
  first | refine sx_loadA 0 rfl rfl tyA29 tyS29 (by first | (simp only [List.length_cons, List.length_nil, Nat.reduceAdd, Nat.zero_add, Nat.add_zero]; first | done | rfl) | rfl) (by first | (simp only [List.take_succ_cons, List.take_zero, List.drop_succ_cons, List.drop_zero, List.cons_append, List.nil_append, List.append_nil, List.length_cons, List.length_nil, Nat.reduceAdd, Nat.zero_add, Nat.add_zero, Value.cells, wrV]; first | done | rfl) | rfl) rfl ?_
  refine sx_move rfl rfl ?_
  refine sx_callV (roE A (icells O)) hof rfl (HLe.drop 1 rfl) (Ro.roE _ _) rfl ?_
  refine sx_alloc tyZ90 rfl (fun g2 => ?_)
  refine sx_store 0 rfl rfl rfl tyS90 (by first | (simp only [Value.cells]; first | done | rfl) | rfl) rfl rfl (by first | (simp only [List.length_cons, List.length_nil, Nat.reduceAdd, Nat.zero_add, Nat.add_zero]; first | done | rfl) | rfl) (by first | (simp only [List.take_succ_cons, List.take_zero, List.drop_succ_cons, List.drop_zero, List.cons_append, List.nil_append, List.append_nil, List.length_cons, List.length_nil, Nat.reduceAdd, Nat.zero_add, Nat.add_zero, Value.cells, wrV]; first | done | rfl) | rfl) (by first | (simp only [List.set_cons_succ, List.set_cons_zero]; first | done | rfl) | rfl) ?_
  refine sx_nil (hZ _ _ ?_)
  refine awp_forget [(5, _)] (Kn.cons rfl (Kn.nil)) ?_

  refine awq_seq_meet [(4, .bool (decide (0 < s.n ∧ s.n = q)))] [] mixed (by kernel_rfl) (fun Z hZ => ?_) ?_
  · refine sq_fieldAddr rfl tyF90_1 (by first | (simp only [Nat.reduceAdd, Nat.add_zero, Nat.zero_add]; first | done | rfl) | rfl) rfl ?_
    first | refine sq_load 0 rfl rfl tyA3 tyS3 rfl rfl ?_
    refine sq_gtr rfl rfl rfl ?_
    refine sq_move rfl rfl ?_
    refine sq_split 12 rfl (fun hb3 => ?_) (fun hb3 => ?_)
    · refine sq_on rfl rfl rfl ?_
      refine sq_fieldAddr rfl tyF90_1 (by first | (simp only [Nat.reduceAdd, Nat.add_zero, Nat.zero_add]; first | done | rfl) | rfl) rfl ?_
      refine sq_on rfl rfl rfl ?_
      first | refine sq_load 0 rfl rfl tyA3 tyS3 rfl rfl ?_
      refine sq_on rfl rfl rfl ?_
      refine sq_fieldAddr rfl tyF90_0 (by first | (simp only [Nat.reduceAdd, Nat.add_zero, Nat.zero_add]; first | done | rfl) | rfl) rfl ?_
      refine sq_on rfl rfl rfl ?_
      first | refine sq_loadA 0 rfl rfl tyA33 tyS33 (by first | (simp only [List.length_cons, List.length_nil, Nat.reduceAdd, Nat.zero_add, Nat.add_zero]; first | done | rfl) | rfl) (by first | (simp only [List.take_succ_cons, List.take_zero, List.drop_succ_cons, List.drop_zero, List.cons_append, List.nil_append, List.append_nil, List.length_cons, List.length_nil, Nat.reduceAdd, Nat.zero_add, Nat.add_zero, Value.cells, wrV]; first | done | rfl) | rfl) rfl ?_
      refine sq_on rfl rfl rfl ?_
      refine sq_callP (hsz) rfl rfl ?_
      refine sq_on rfl rfl rfl ?_
      refine sq_eql rfl rfl rfl ?_
      refine sq_pick rfl rfl rfl ?_
      refine sq_assign rfl rfl ?_
      refine sq_nil (hZ _ _ ?_ ?_)
      · exact Kn.cons (congrArg some (congrArg Value.bool (by first | (exfalso; simp at *; omega) | (simp at *; done) | (simp at *; omega) | (rw [Bool.eq_iff_iff]; simp at *; omega)))) Kn.nil
      · exact HLe.sub (List.nil_sublist _)
    · refine sq_off rfl rfl rfl rfl rfl ?_
      refine sq_off rfl rfl rfl rfl rfl ?_
      refine sq_off rfl rfl rfl rfl rfl ?_
      refine sq_off rfl rfl rfl rfl rfl ?_
      refine sq_off rfl rfl rfl rfl rfl ?_
      refine sq_off rfl rfl rfl rfl rfl ?_
      refine sq_pick rfl rfl rfl ?_
      refine sq_assign rfl rfl ?_
      refine sq_nil (hZ _ _ ?_ ?_)
      · exact Kn.cons (congrArg some (congrArg Value.bool (by first | (exfalso; simp at *; omega) | (simp at *; done) | (simp at *; omega) | (rw [Bool.eq_iff_iff]; simp at *; omega)))) Kn.nil
      · exact HLe.sub (List.nil_sublist _)
  refine awp_ret ?_
  exact nx_ret1 rfl rfl rfl
end Go.Proofs.Ytmebmkkllhnmlaa

namespace Go.Proofs.Ytmebmkkllhnmlaa
open Go.RowKit
set_option linter.unusedVariables false
set_option linter.unusedSimpArgs false
set_option maxRecDepth 100000
abbrev rcells (L : List Rc) : List Value := L.flatMap Rc.cells
theorem rc_len (r : Rc) : r.cells.length = 5 := rfl
theorem rcells_len (L : List Rc) : (rcells L).length = L.length * 5 := fm_len rc_len L
theorem elemRc : ElemOk Try.prog 44 33 5 40 := ElemOk.mk_ (z := .agg #[iq 0, iq 0, iq 0, iq 0, iq 0]) Try.underlying44 (by kernel_rfl) rfl (by omega)
theorem elemRcR : ElemOk Try.prog 46 36 5 40 := ElemOk.mk_ (z := .agg #[iq 0, iq 0, iq 0, iq 0, iq 0]) Try.underlying46 (by kernel_rfl) rfl (by omega)
def boxT (O : List It) (k : Nat) : List Rc := (((arL O).take k).filter fun s => decide (0 < s.n)).map Ar.r
theorem boxT_snoc {O : List It} {k : Nat} (h : k < 27) : boxT O (k + 1) = boxT O k ++ if 0 < (arZ O (k : Nat)).n then [(arZ O (k : Nat)).r] else [] := by
  have hat := arL_at O (show k ≤ 26 by omega)
  obtain ⟨hlt, he⟩ := List.getElem?_eq_some_iff.1 hat
  unfold boxT
  rw [List.take_succ_eq_append_getElem hlt, he, List.filter_append, List.map_append]
  congr 1
  by_cases hp : 0 < (arZ O (k : Nat)).n
  · rw [if_pos hp, List.filter_cons_of_pos (by simpa using hp)]
    rfl
  · rw [if_neg hp, List.filter_cons_of_neg (by simpa using hp)]
    rfl
theorem boxT_len (O : List It) : ∀ k, k ≤ 27 → (boxT O k).length ≤ k
  | 0, _ => Nat.le_refl _
  | k + 1, h => by
    have := boxT_len O k (by omega)
    rw [boxT_snoc (by omega), List.length_append]
    split <;> simp <;> omega
theorem xboxes_fn (A : Option Addr) (c : Nat) (O : List It) (hA : SlIn A O.length c) (hok : ChOk O) :
    Fn Try.prog 15 [chV A O.length c] (roE A (icells O)) fun v H' => RowOk v (boxT O 27).length ∧ H' = rowE v 33 5 (rcells (boxT O 27)) := by
  have hzm := xzooms_fn A c O hA hok
  refine Fn.enter (N := 21) Try.func15 rfl (by kernel_rfl) rfl (fun w0 => ?_)

  refine awp_seq_region (fun Z hZ => ?_)
  refine sx_box rfl rfl rfl (fun g1 => ?_)
  refine sx_assign rfl rfl ?_
  refine sx_nil (hZ _ _ ?_)
  refine awp_forget [(1, _)] (Kn.cons rfl (Kn.nil)) ?_

  refine awp_seq_region (fun Z hZ => ?_)
  refine sx_assign rfl rfl ?_
  refine sx_nil (hZ _ _ ?_)
  refine awp_forget [(1, _), (3, _)] (Kn.cons rfl (Kn.cons rfl (Kn.nil))) ?_
  refine awp_seq ?_
  refine awp_seq_region (fun Z hZ => ?_)
  first | refine sx_loadA 0 rfl rfl tyA29 tyS29 (by first | (simp only [List.length_cons, List.length_nil, Nat.reduceAdd, Nat.zero_add, Nat.add_zero]; first | done | rfl) | rfl) (by first | (simp only [List.take_succ_cons, List.take_zero, List.drop_succ_cons, List.drop_zero, List.cons_append, List.nil_append, List.append_nil, List.length_cons, List.length_nil, Nat.reduceAdd, Nat.zero_add, Nat.add_zero, Value.cells, wrV]; first | done | rfl) | rfl) rfl ?_
  refine sx_callV (roE A (icells O)) hzm rfl (HLe.drop 1 rfl) (Ro.roE _ _) rfl ?_
  refine sx_move rfl rfl ?_
  refine sx_nil (hZ _ _ ?_)
  refine awp_forget [(3, _), (7, _), (8, _)] (Kn.cons rfl (Kn.cons rfl (Kn.cons rfl (Kn.nil)))) ?_
  refine awp_block ?_
  refine awp_loop (ι := Value × Nat) (fun s => [(3, s.1), (7, .agg (arC (arL O)).toArray), (8, iq (s.2 : Nat))]) (fun s => rowE s.1 33 5 (rcells (boxT O s.2))) (fun s => s.2 ≤ 27 ∧ RowOk s.1 (boxT O s.2).length) (fun s => 27 - s.2) (.slice none 0 0, 0) ⟨Nat.zero_le _, RowOk.nil⟩ (Kn.cons rfl (Kn.cons rfl (Kn.cons rfl Kn.nil))) (HLe.sub (List.nil_sublist _)) ?_
  rintro ⟨u, k⟩ ⟨hk, hu⟩
  replace hk : k ≤ 27 := hk
  replace hu : RowOk u (boxT O k).length := hu
  refine awp_forget [(3, u), (7, .agg (arC (arL O)).toArray), (8, iq (k : Nat))] (Kn.cons rfl (Kn.cons rfl (Kn.cons rfl Kn.nil))) ?_
  refine awp_heap (rowE u 33 5 (rcells (boxT O k))) (HLe.refl _) ?_
  have hbl := boxT_len O k hk

  refine awp_seq_region (fun Z hZ => ?_)
  refine sx_lss rfl rfl rfl ?_
  refine sx_nil (hZ _ _ ?_)
  refine awp_forget [(3, _), (7, _), (8, _), (9, _)] (Kn.cons rfl (Kn.cons rfl (Kn.cons rfl (Kn.cons rfl (Kn.nil))))) ?_
  refine awp_seq (awp_cond rfl (fun h => ?_) (fun h => ?_))
  · have hlt : k < 27 := by simp at h; omega
    have hat := arL_at O (show k ≤ 26 by omega)
    have hsn := boxT_snoc (O := O) hlt
    obtain ⟨s, hs⟩ : ∃ s, arZ O (k : Nat) = s := ⟨_, rfl⟩
    rw [hs] at hat hsn
    refine awp_skip ?_
    with_reducible refine nx_normal ?_
    refine awp_seq (awp_block ?_)
    refine awp_seq_region (fun Z hZ => ?_)
    refine sx_indexA (cs := arC (arL O)) (n := 6) Try.underlying98 tyA90 tyS90 rfl rfl (by omega) (fm_rd ar_len hat) rfl ?_
    refine sx_alloc tyZ90 rfl (fun g2 => ?_)
    first | refine sx_store 0 rfl rfl rfl tyS90 (by first | (simp only [Value.cells]; first | done | rfl) | rfl) rfl rfl (by first | (simp only [List.length_cons, List.length_nil, Nat.reduceAdd, Nat.zero_add, Nat.add_zero]; first | done | rfl) | rfl) (by first | (simp only [List.take_succ_cons, List.take_zero, List.drop_succ_cons, List.drop_zero, List.cons_append, List.nil_append, List.append_nil, List.length_cons, List.length_nil, Nat.reduceAdd, Nat.zero_add, Nat.add_zero, Value.cells, wrV]; first | done | rfl) | rfl) (by first | (simp only [List.set_cons_succ, List.set_cons_zero]; first | done | rfl) | rfl) ?_
    refine sx_nil (hZ _ _ ?_)
    refine awp_forget [(3, _), (5, _), (7, _), (8, _)] (Kn.cons rfl (Kn.cons rfl (Kn.cons rfl (Kn.cons rfl (Kn.nil))))) ?_

    refine awp_seq_region (fun Z hZ => ?_)
    refine sx_fieldAddr rfl tyF90_1 (by first | (simp only [Nat.reduceAdd, Nat.add_zero, Nat.zero_add]; first | done | rfl) | rfl) rfl ?_
    first | refine sx_load 0 rfl rfl tyA3 tyS3 rfl rfl ?_
    refine sx_gtr rfl rfl rfl ?_
    refine sx_nil (hZ _ _ ?_)
    refine awp_forget [(3, _), (5, _), (7, _), (8, _), (13, _)] (Kn.cons rfl (Kn.cons rfl (Kn.cons rfl (Kn.cons rfl (Kn.cons rfl (Kn.nil)))))) ?_
    refine awp_cond rfl (fun h5 => ?_) (fun h5 => ?_)
    · have hp : 0 < s.n := by simp at h5; omega
      rw [if_pos hp] at hsn
      refine awp_region (fun Z hZ => ?_)
      refine sx_move rfl rfl ?_
      refine sx_fieldAddr rfl tyF90_0 (by first | (simp only [Nat.reduceAdd, Nat.add_zero, Nat.zero_add]; first | done | rfl) | rfl) rfl ?_
      first | refine sx_loadA 0 rfl rfl tyA33 tyS33 (by first | (simp only [List.length_cons, List.length_nil, Nat.reduceAdd, Nat.zero_add, Nat.add_zero]; first | done | rfl) | rfl) (by first | (simp only [List.take_succ_cons, List.take_zero, List.drop_succ_cons, List.drop_zero, List.cons_append, List.nil_append, List.append_nil, List.length_cons, List.length_nil, Nat.reduceAdd, Nat.zero_add, Nat.add_zero, Value.cells, wrV]; first | done | rfl) | rfl) rfl ?_
      refine sx_buildSlice Try.underlying44 tyS33 tyZ33 rfl rfl rfl rfl (by first | (simp only [List.take_succ_cons, List.take_zero, List.drop_succ_cons, List.drop_zero, List.cons_append, List.nil_append, List.append_nil, List.length_cons, List.length_nil, Nat.reduceAdd, Nat.zero_add, Nat.add_zero, Value.cells, wrV, zrep_one, List.replicate_succ, List.replicate_zero, Nat.reduceMul, Nat.zero_mul]; first | done | rfl) | rfl) rfl (fun g3 => ?_)
      refine sx_appendE [_, _] elemRc rfl hu (by rw [rcells_len]) rfl (fun w hw => rd_own (i := 0) (xs := s.r.cells) rfl rfl hw) rfl (by show _ ≤ 9223372036854775807; omega) (by omega) (HLe.refl _) rfl (fun v2 hv2 => ?_)
      refine sx_assign rfl rfl ?_
      refine sx_nil (hZ _ _ ?_)
      refine nx_forget [(3, _), (7, _), (8, _)] (Kn.cons rfl (Kn.cons rfl (Kn.cons rfl (Kn.nil)))) ?_
      repeat (with_reducible refine nx_block_normal ?_)
      with_reducible refine nx_normal ?_
      refine awp_region (fun Z hZ => ?_)
      refine sx_add rfl rfl ((k + 1 : Nat) : Int) (by rw [IntWalk.i64_in _ (by omega)]; omega) rfl ?_
      refine sx_move rfl rfl ?_
      refine sx_nil (hZ _ _ ?_)
      refine nx_forget [(3, _), (7, _), (8, _)] (Kn.cons rfl (Kn.cons rfl (Kn.cons rfl (Kn.nil)))) ?_
      refine nx_round (v2, k + 1) ⟨hlt, by rw [hsn, List.length_append]; exact hv2⟩ (show 27 - (k + 1) < 27 - k by omega) (Kn.cons rfl (Kn.cons rfl (Kn.cons rfl Kn.nil))) ?_
      show HLe (rowE v2 _ 5 (rcells (boxT O (k + 1)))) _
      rw [hsn]
      refine HLe.trans ?_ (HLe.drop 2 rfl)
      rw [show rcells (boxT O k ++ [s.r]) = rcells (boxT O k) ++ s.r.cells from fm_snoc _ _]
      exact HLe.refl _
    · have hp : ¬ 0 < s.n := by simp at h5; omega
      rw [if_neg hp, List.append_nil] at hsn
      refine awp_skip ?_
      repeat (with_reducible refine nx_block_normal ?_)
      with_reducible refine nx_normal ?_
      refine awp_region (fun Z hZ => ?_)
      refine sx_add rfl rfl ((k + 1 : Nat) : Int) (by rw [IntWalk.i64_in _ (by omega)]; omega) rfl ?_
      refine sx_move rfl rfl ?_
      refine sx_nil (hZ _ _ ?_)
      refine nx_forget [(3, _), (7, _), (8, _)] (Kn.cons rfl (Kn.cons rfl (Kn.cons rfl (Kn.nil)))) ?_
      refine nx_round (u, k + 1) ⟨hlt, by rw [hsn]; exact hu⟩ (show 27 - (k + 1) < 27 - k by omega) (Kn.cons rfl (Kn.cons rfl (Kn.cons rfl Kn.nil))) ?_
      show HLe (rowE u _ 5 (rcells (boxT O (k + 1)))) _
      rw [hsn]
      exact HLe.drop 1 rfl
  · refine awp_exit ?_
    repeat (with_reducible refine nx_then_exit ?_)
    with_reducible refine nx_block_exit ?_
    with_reducible refine nx_normal ?_
    obtain rfl : k = 27 := by simp at h; omega
    refine awp_seq_region (fun Z hZ => ?_)
    refine sx_move rfl rfl ?_
    refine sx_assign rfl rfl ?_
    refine sx_nil (hZ _ _ ?_)
    refine awp_forget [(2, _)] (Kn.cons rfl (Kn.nil)) ?_
    refine awp_ret ?_
    exact nx_ret1h _ rfl rfl (HLe.refl _) ⟨hu, rfl⟩
theorem rOf_k {e : It} (h : TileOk e) : Fn Try.prog 39 [uq e.id] [] fun v _ => v = .tuple #[tval (tz e : Nat) (tx e : Nat) (ty e : Nat), iq (0 : Int)] := by
  have hf := rOf_fn (tz e) (e.id - base4 (tz e)) h.z h.at_
  have e1 : base4 (tz e) + (e.id - base4 (tz e)) = e.id := by have := h.id; omega
  rw [e1] at hf
  exact hf
theorem arZ_z (z : Int) : ∀ (O : List It) (s : Ar), (0 < s.n → s.r.z = z) → 0 < (O.foldl (stepQ z) s).n → (O.foldl (stepQ z) s).r.z = z
  | [], s, h, h2 => h h2
  | e :: r, s, h, h2 => by
    rw [List.foldl_cons] at h2 ⊢
    refine arZ_z z r _ (fun hn => ?_) h2
    unfold stepQ at hn ⊢
    by_cases hz : (tz e : Int) = z
    · rw [if_pos hz]
      show (if s.n = 0 then (tz e : Int) else s.r.z) = z
      split
      · exact hz
      · exact h (by omega)
    · rw [if_neg hz] at hn ⊢
      exact h hn
theorem rbox_fn (A : Option Addr) (c : Nat) (O : List It) (T : Heap) (hA : ArgOk A O.length) (hT : 0 < O.length → T = roE A (icells O)) (hok : ChOk O) (z : Int) :
    Fn Try.prog 12 [.slice A O.length c, iq z] T fun v _ => v = .tuple #[(arZ O z).r.val, .bool (decide (0 < (arZ O z).n))] := by
  have hlen := hok.len
  refine Fn.enter (N := 67) Try.func12 rfl (by kernel_rfl) rfl (fun w0 => ?_)

  refine awp_seq_region (fun Z hZ => ?_)
  refine sx_alloc tyZ36 rfl (fun g1 => ?_)
  refine sx_assign rfl rfl ?_
  refine sx_nil (hZ _ _ ?_)
  refine awp_forget [(0, _), (1, _), (4, _)] (Kn.cons rfl (Kn.cons rfl (Kn.cons rfl (Kn.nil)))) ?_
  refine awp_seq_region (fun Z hZ => ?_)
  refine sx_build tyZ36 tyP36 rfl rfl (by first | (simp only [List.take_succ_cons, List.take_zero, List.drop_succ_cons, List.drop_zero, List.cons_append, List.nil_append, List.append_nil, List.length_cons, List.length_nil, Nat.reduceAdd, Nat.zero_add, Nat.add_zero, Value.cells, wrV, zrep_one, List.replicate_succ, List.replicate_zero, Nat.reduceMul, Nat.zero_mul]; first | done | rfl) | rfl) rfl ?_
  refine sx_alloc tyZ36 rfl (fun g2 => ?_)
  refine sx_store 0 rfl rfl rfl tyS36 (by first | (simp only [Value.cells]; first | done | rfl) | rfl) rfl rfl (by first | (simp only [List.length_cons, List.length_nil, Nat.reduceAdd, Nat.zero_add, Nat.add_zero]; first | done | rfl) | rfl) (by first | (simp only [List.take_succ_cons, List.take_zero, List.drop_succ_cons, List.drop_zero, List.cons_append, List.nil_append, List.append_nil, List.length_cons, List.length_nil, Nat.reduceAdd, Nat.zero_add, Nat.add_zero, Value.cells, wrV]; first | done | rfl) | rfl) (by first | (simp only [List.set_cons_succ, List.set_cons_zero]; first | done | rfl) | rfl) ?_
  refine sx_assign rfl rfl ?_
  refine sx_nil (hZ _ _ ?_)
  refine awp_forget [(0, _), (1, _), (4, _), (6, _), (7, _)] (Kn.cons rfl (Kn.cons rfl (Kn.cons rfl (Kn.cons rfl (Kn.cons rfl (Kn.nil)))))) ?_
  refine awp_seq ?_
  refine awp_seq_region (fun Z hZ => ?_)
  refine sx_assign rfl rfl ?_
  refine sx_nil (hZ _ _ ?_)
  refine awp_forget [(0, _), (1, _), (4, _), (6, _), (7, _), (8, _)] (Kn.cons rfl (Kn.cons rfl (Kn.cons rfl (Kn.cons rfl (Kn.cons rfl (Kn.cons rfl (Kn.nil))))))) ?_
  refine awp_block ?_
  refine awp_loop (ι := Nat) (fun i => [(0, .slice A O.length c), (1, iq z), (4, ptr g1 0), (6, ptr g2 0), (7, .bool (decide (0 < (arZ (O.take i) z).n))), (8, iq (i : Nat))]) (fun i => .own g2 36 (arZ (O.take i) z).r.cells :: .own g1 36 ar0.r.cells :: T) (fun i => i ≤ O.length) (fun i => O.length - i) 0 (Nat.zero_le _) (Kn.cons rfl (Kn.cons rfl (Kn.cons rfl (Kn.cons rfl (Kn.cons rfl (Kn.cons rfl Kn.nil)))))) (HLe.refl _) ?_
  intro i hi
  refine awp_seq ?_
  refine awp_seq_region (fun Z hZ => ?_)
  refine sx_move rfl rfl ?_
  refine sx_move rfl rfl ?_
  refine sx_len Try.underlying22 rfl rfl ?_
  refine sx_lss rfl rfl rfl ?_
  refine sx_nil (hZ _ _ ?_)
  refine awp_forget [(0, _), (1, _), (4, _), (6, _), (7, _), (8, _), (15, _)] (Kn.cons rfl (Kn.cons rfl (Kn.cons rfl (Kn.cons rfl (Kn.cons rfl (Kn.cons rfl (Kn.cons rfl (Kn.nil)))))))) ?_
  refine awp_cond rfl (fun h => ?_) (fun h => ?_)
  · have hlt : i < O.length := by simpa using h
    obtain ⟨e, he⟩ : ∃ e, O[i]? = some e := ⟨_, List.getElem?_eq_getElem hlt⟩
    have htk := tile_ok (hok.lt e (List.mem_of_getElem? he))
    have hof := rOf_k htk
    have hst := arZ_snoc he z
    have hrz := arZ_z z (O.take i) ar0 (fun h => absurd h (by decide))
    replace hrz : 0 < (arZ (O.take i) z).n → (arZ (O.take i) z).r.z = z := hrz
    obtain ⟨s, hs⟩ : ∃ s, arZ (O.take i) z = s := ⟨_, rfl⟩
    rw [hs] at hst hrz ⊢
    obtain ⟨g, o, rfl⟩ := hA (by omega)
    obtain rfl := hT (by omega)
    refine awp_heap [.own g2 36 s.r.cells, .own g1 36 ar0.r.cells, .ro g o (icells O)] (HLe.refl _) ?_
    refine awp_skip ?_
    with_reducible refine nx_normal ?_
    refine awp_seq (awp_block ?_)

    refine awp_seq_region (fun Z hZ => ?_)
    refine sx_move rfl rfl ?_
    refine sx_move rfl rfl ?_
    refine sx_indexAddr (o + i * 2) Try.underlying22 tyS78 rfl rfl (by omega) (by simp) rfl ?_
    refine sx_fieldAddr rfl tyF78_0 (by first | (simp only [Nat.reduceAdd, Nat.add_zero, Nat.zero_add]; first | done | rfl) | rfl) rfl ?_
    refine sx_loadRo 2 rfl rfl (i * 2) (by omega) tyA66 tyS66 (icells_id he) rfl ?_
    refine sx_callP (hof) rfl rfl ?_
    refine sx_move rfl rfl ?_
    refine sx_extract rfl rfl rfl ?_
    refine sx_extract rfl rfl rfl ?_
    refine sx_alloc tyZ24 rfl (fun g3 => ?_)
    refine sx_store 0 rfl rfl rfl tyS24 (by first | (simp only [Value.cells]; first | done | rfl) | rfl) rfl rfl (by first | (simp only [List.length_cons, List.length_nil, Nat.reduceAdd, Nat.zero_add, Nat.add_zero]; first | done | rfl) | rfl) (by first | (simp only [List.take_succ_cons, List.take_zero, List.drop_succ_cons, List.drop_zero, List.cons_append, List.nil_append, List.append_nil, List.length_cons, List.length_nil, Nat.reduceAdd, Nat.zero_add, Nat.add_zero, Value.cells, wrV]; first | done | rfl) | rfl) (by first | (simp only [List.set_cons_succ, List.set_cons_zero]; first | done | rfl) | rfl) ?_
    refine sx_assign rfl rfl ?_
    refine sx_nil (hZ _ _ ?_)
    refine awp_forget [(0, _), (1, _), (4, _), (6, _), (7, _), (8, _), (9, _)] (Kn.cons rfl (Kn.cons rfl (Kn.cons rfl (Kn.cons rfl (Kn.cons rfl (Kn.cons rfl (Kn.cons rfl (Kn.nil)))))))) ?_

    refine awp_seq ?_
    refine awp_seq_region (fun Z hZ => ?_)
    refine sx_fieldAddr rfl tyF24_0 (by first | (simp only [Nat.reduceAdd, Nat.add_zero, Nat.zero_add]; first | done | rfl) | rfl) rfl ?_
    refine sx_load 0 rfl rfl tyA3 tyS3 rfl rfl ?_
    refine sx_move rfl rfl ?_
    refine sx_neq rfl rfl rfl ?_
    refine sx_nil (hZ _ _ ?_)
    refine awp_forget [(0, _), (1, _), (4, _), (6, _), (7, _), (8, _), (9, _), (30, _)] (Kn.cons rfl (Kn.cons rfl (Kn.cons rfl (Kn.cons rfl (Kn.cons rfl (Kn.cons rfl (Kn.cons rfl (Kn.cons rfl (Kn.nil))))))))) ?_
    refine awp_cond rfl (fun h6 => ?_) (fun h6 => ?_)
    · have hz : ¬ (tz e : Int) = z := by simpa using h6
      have e1 : arZ (O.take (i + 1)) z = s := by rw [hst]; unfold stepQ; rw [if_neg hz]
      refine awp_exit ?_
      repeat (with_reducible refine nx_then_exit ?_)
      with_reducible refine nx_block_exit ?_
      with_reducible refine nx_normal ?_
      refine awp_region (fun Z hZ => ?_)
      refine sx_move rfl rfl ?_
      refine sx_add rfl rfl ((i + 1 : Nat) : Int) (by rw [IntWalk.i64_in _ (by omega)]; omega) rfl ?_
      refine sx_assign rfl rfl ?_
      refine sx_nil (hZ _ _ ?_)
      refine nx_forget [(0, _), (1, _), (4, _), (6, _), (7, _), (8, _)] (Kn.cons rfl (Kn.cons rfl (Kn.cons rfl (Kn.cons rfl (Kn.cons rfl (Kn.cons rfl (Kn.nil))))))) ?_
      refine nx_round (i + 1) hlt (by omega) (Kn.cons rfl (Kn.cons rfl (Kn.cons rfl (Kn.cons rfl (Kn.cons (by rw [e1]; rfl) (Kn.cons rfl Kn.nil)))))) ?_
      rw [e1]
      exact HLe.drop 1 rfl
    have hz : (tz e : Int) = z := by simpa using h6
    have e1 : arZ (O.take (i + 1)) z = takeQ s (tz e : Nat) (tx e : Nat) (ty e : Nat) := by rw [hst]; unfold stepQ; rw [if_pos hz]
    refine awp_skip ?_
    with_reducible refine nx_normal ?_
    refine awp_seq ?_
    refine awp_seq_region (fun Z hZ => ?_)
    refine sx_move rfl rfl ?_
    refine sx_not rfl rfl ?_
    refine sx_nil (hZ _ _ ?_)
    refine awp_forget [(0, _), (1, _), (4, _), (6, _), (8, _), (9, _), (32, _)] (Kn.cons rfl (Kn.cons rfl (Kn.cons rfl (Kn.cons rfl (Kn.cons rfl (Kn.cons rfl (Kn.cons rfl (Kn.nil)))))))) ?_
    refine awp_cond rfl (fun h7 => ?_) (fun h7 => ?_)
    · have h0 : s.n = 0 := by simp at h7; omega
      have e2 : (takeQ s (tz e : Nat) (tx e : Nat) (ty e : Nat)).r = ⟨z, min (tx e : Int) (tx e : Int), min (ty e : Int) (ty e : Int), max (tx e : Int) (tx e : Int), max (ty e : Int) (ty e : Int)⟩ := by
        unfold takeQ
        simp only [if_pos h0, hz]
      refine awp_region (fun Z hZ => ?_)
      refine sx_move rfl rfl ?_
      refine sx_fieldAddr rfl tyF24_1 (by first | (simp only [Nat.reduceAdd, Nat.add_zero, Nat.zero_add]; first | done | rfl) | rfl) rfl ?_
      refine sx_load 0 rfl rfl tyA3 tyS3 rfl rfl ?_
      refine sx_fieldAddr rfl tyF24_2 (by first | (simp only [Nat.reduceAdd, Nat.add_zero, Nat.zero_add]; first | done | rfl) | rfl) rfl ?_
      refine sx_load 0 rfl rfl tyA3 tyS3 rfl rfl ?_
      refine sx_fieldAddr rfl tyF24_1 (by first | (simp only [Nat.reduceAdd, Nat.add_zero, Nat.zero_add]; first | done | rfl) | rfl) rfl ?_
      refine sx_load 0 rfl rfl tyA3 tyS3 rfl rfl ?_
      refine sx_fieldAddr rfl tyF24_2 (by first | (simp only [Nat.reduceAdd, Nat.add_zero, Nat.zero_add]; first | done | rfl) | rfl) rfl ?_
      refine sx_load 0 rfl rfl tyA3 tyS3 rfl rfl ?_
      refine sx_build tyZ36 tyP36 rfl rfl (by first | (simp only [List.take_succ_cons, List.take_zero, List.drop_succ_cons, List.drop_zero, List.cons_append, List.nil_append, List.append_nil, List.length_cons, List.length_nil, Nat.reduceAdd, Nat.zero_add, Nat.add_zero, Value.cells, wrV, zrep_one, List.replicate_succ, List.replicate_zero, Nat.reduceMul, Nat.zero_mul]; first | done | rfl) | rfl) rfl ?_
      refine sx_store 1 rfl rfl rfl tyS36 (by first | (simp only [Value.cells]; first | done | rfl) | rfl) rfl rfl (by first | (simp only [List.length_cons, List.length_nil, Nat.reduceAdd, Nat.zero_add, Nat.add_zero]; first | done | rfl) | rfl) (by first | (simp only [List.take_succ_cons, List.take_zero, List.drop_succ_cons, List.drop_zero, List.cons_append, List.nil_append, List.append_nil, List.length_cons, List.length_nil, Nat.reduceAdd, Nat.zero_add, Nat.add_zero, Value.cells, wrV]; first | done | rfl) | rfl) (by first | (simp only [List.set_cons_succ, List.set_cons_zero]; first | done | rfl) | rfl) ?_
      refine sx_nil (hZ _ _ ?_)
      refine nx_forget [(0, _), (1, _), (4, _), (6, _), (8, _), (9, _)] (Kn.cons rfl (Kn.cons rfl (Kn.cons rfl (Kn.cons rfl (Kn.cons rfl (Kn.cons rfl (Kn.nil))))))) ?_
      with_reducible refine nx_normal ?_
      refine awp_seq_region (fun Z hZ => ?_)
      refine sx_assign rfl rfl ?_
      refine sx_nil (hZ _ _ ?_)
      refine awp_forget [(0, _), (1, _), (4, _), (6, _), (7, _), (8, _), (9, _)] (Kn.cons rfl (Kn.cons rfl (Kn.cons rfl (Kn.cons rfl (Kn.cons rfl (Kn.cons rfl (Kn.cons rfl (Kn.nil)))))))) ?_
      refine awp_region (fun Z hZ => ?_)
      refine sx_move rfl rfl ?_
      refine sx_fieldAddr rfl tyF36_1 (by first | (simp only [Nat.reduceAdd, Nat.add_zero, Nat.zero_add]; first | done | rfl) | rfl) rfl ?_
      refine sx_load 1 rfl rfl tyA3 tyS3 rfl rfl ?_
      refine sx_fieldAddr rfl tyF24_1 (by first | (simp only [Nat.reduceAdd, Nat.add_zero, Nat.zero_add]; first | done | rfl) | rfl) rfl ?_
      refine sx_load 0 rfl rfl tyA3 tyS3 rfl rfl ?_
      refine sx_min rfl rfl (min (tx e : Int) (tx e : Int)) rfl rfl ?_
      refine sx_fieldAddr rfl tyF36_2 (by first | (simp only [Nat.reduceAdd, Nat.add_zero, Nat.zero_add]; first | done | rfl) | rfl) rfl ?_
      refine sx_load 1 rfl rfl tyA3 tyS3 rfl rfl ?_
      refine sx_fieldAddr rfl tyF24_2 (by first | (simp only [Nat.reduceAdd, Nat.add_zero, Nat.zero_add]; first | done | rfl) | rfl) rfl ?_
      refine sx_load 0 rfl rfl tyA3 tyS3 rfl rfl ?_
      refine sx_min rfl rfl (min (ty e : Int) (ty e : Int)) rfl rfl ?_
      refine sx_fieldAddr rfl tyF36_3 (by first | (simp only [Nat.reduceAdd, Nat.add_zero, Nat.zero_add]; first | done | rfl) | rfl) rfl ?_
      refine sx_load 1 rfl rfl tyA3 tyS3 rfl rfl ?_
      refine sx_fieldAddr rfl tyF24_1 (by first | (simp only [Nat.reduceAdd, Nat.add_zero, Nat.zero_add]; first | done | rfl) | rfl) rfl ?_
      refine sx_load 0 rfl rfl tyA3 tyS3 rfl rfl ?_
      refine sx_max rfl rfl (max (tx e : Int) (tx e : Int)) rfl rfl ?_
      refine sx_fieldAddr rfl tyF36_4 (by first | (simp only [Nat.reduceAdd, Nat.add_zero, Nat.zero_add]; first | done | rfl) | rfl) rfl ?_
      refine sx_load 1 rfl rfl tyA3 tyS3 rfl rfl ?_
      refine sx_fieldAddr rfl tyF24_2 (by first | (simp only [Nat.reduceAdd, Nat.add_zero, Nat.zero_add]; first | done | rfl) | rfl) rfl ?_
      refine sx_load 0 rfl rfl tyA3 tyS3 rfl rfl ?_
      refine sx_max rfl rfl (max (ty e : Int) (ty e : Int)) rfl rfl ?_
      refine sx_build tyZ36 tyP36 rfl rfl (by first | (simp only [List.take_succ_cons, List.take_zero, List.drop_succ_cons, List.drop_zero, List.cons_append, List.nil_append, List.append_nil, List.length_cons, List.length_nil, Nat.reduceAdd, Nat.zero_add, Nat.add_zero, Value.cells, wrV, zrep_one, List.replicate_succ, List.replicate_zero, Nat.reduceMul, Nat.zero_mul]; first | done | rfl) | rfl) rfl ?_
      refine sx_store 1 rfl rfl rfl tyS36 (by first | (simp only [Value.cells]; first | done | rfl) | rfl) rfl rfl (by first | (simp only [List.length_cons, List.length_nil, Nat.reduceAdd, Nat.zero_add, Nat.add_zero]; first | done | rfl) | rfl) (by first | (simp only [List.take_succ_cons, List.take_zero, List.drop_succ_cons, List.drop_zero, List.cons_append, List.nil_append, List.append_nil, List.length_cons, List.length_nil, Nat.reduceAdd, Nat.zero_add, Nat.add_zero, Value.cells, wrV]; first | done | rfl) | rfl) (by first | (simp only [List.set_cons_succ, List.set_cons_zero]; first | done | rfl) | rfl) ?_
      refine sx_nil (hZ _ _ ?_)
      refine nx_forget [(0, _), (1, _), (4, _), (6, _), (7, _), (8, _)] (Kn.cons rfl (Kn.cons rfl (Kn.cons rfl (Kn.cons rfl (Kn.cons rfl (Kn.cons rfl (Kn.nil))))))) ?_
      repeat (with_reducible refine nx_block_normal ?_)
      with_reducible refine nx_normal ?_
      refine awp_region (fun Z hZ => ?_)
      refine sx_move rfl rfl ?_
      refine sx_add rfl rfl ((i + 1 : Nat) : Int) (by rw [IntWalk.i64_in _ (by omega)]; omega) rfl ?_
      refine sx_assign rfl rfl ?_
      refine sx_nil (hZ _ _ ?_)
      refine nx_forget [(0, _), (1, _), (4, _), (6, _), (7, _), (8, _)] (Kn.cons rfl (Kn.cons rfl (Kn.cons rfl (Kn.cons rfl (Kn.cons rfl (Kn.cons rfl (Kn.nil))))))) ?_
      refine nx_round (i + 1) hlt (by omega) (Kn.cons rfl (Kn.cons rfl (Kn.cons rfl (Kn.cons rfl (Kn.cons (by rw [e1, decide_eq_true (show 0 < (takeQ s (tz e : Nat) (tx e : Nat) (ty e : Nat)).n from Nat.succ_pos _)]; rfl) (Kn.cons rfl Kn.nil)))))) ?_
      rw [e1, e2]
      exact HLe.drop 1 rfl
    · have h0 : ¬ s.n = 0 := by simp at h7; omega
      have hrz := hrz (by omega)
      have e2 : (takeQ s (tz e : Nat) (tx e : Nat) (ty e : Nat)).r = ⟨z, min s.r.a (tx e : Int), min s.r.b (ty e : Int), max s.r.c (tx e : Int), max s.r.d (ty e : Int)⟩ := by
        unfold takeQ
        simp only [if_neg h0, hrz]
      refine awp_skip ?_
      with_reducible refine nx_normal ?_
      refine awp_seq_region (fun Z hZ => ?_)
      refine sx_assign rfl rfl ?_
      refine sx_nil (hZ _ _ ?_)
      refine awp_forget [(0, _), (1, _), (4, _), (6, _), (7, _), (8, _), (9, _)] (Kn.cons rfl (Kn.cons rfl (Kn.cons rfl (Kn.cons rfl (Kn.cons rfl (Kn.cons rfl (Kn.cons rfl (Kn.nil)))))))) ?_
      refine awp_region (fun Z hZ => ?_)
      refine sx_move rfl rfl ?_
      refine sx_fieldAddr rfl tyF36_1 (by first | (simp only [Nat.reduceAdd, Nat.add_zero, Nat.zero_add]; first | done | rfl) | rfl) rfl ?_
      refine sx_load 1 rfl rfl tyA3 tyS3 rfl rfl ?_
      refine sx_fieldAddr rfl tyF24_1 (by first | (simp only [Nat.reduceAdd, Nat.add_zero, Nat.zero_add]; first | done | rfl) | rfl) rfl ?_
      refine sx_load 0 rfl rfl tyA3 tyS3 rfl rfl ?_
      refine sx_min rfl rfl (min s.r.a (tx e : Int)) rfl rfl ?_
      refine sx_fieldAddr rfl tyF36_2 (by first | (simp only [Nat.reduceAdd, Nat.add_zero, Nat.zero_add]; first | done | rfl) | rfl) rfl ?_
      refine sx_load 1 rfl rfl tyA3 tyS3 rfl rfl ?_
      refine sx_fieldAddr rfl tyF24_2 (by first | (simp only [Nat.reduceAdd, Nat.add_zero, Nat.zero_add]; first | done | rfl) | rfl) rfl ?_
      refine sx_load 0 rfl rfl tyA3 tyS3 rfl rfl ?_
      refine sx_min rfl rfl (min s.r.b (ty e : Int)) rfl rfl ?_
      refine sx_fieldAddr rfl tyF36_3 (by first | (simp only [Nat.reduceAdd, Nat.add_zero, Nat.zero_add]; first | done | rfl) | rfl) rfl ?_
      refine sx_load 1 rfl rfl tyA3 tyS3 rfl rfl ?_
      refine sx_fieldAddr rfl tyF24_1 (by first | (simp only [Nat.reduceAdd, Nat.add_zero, Nat.zero_add]; first | done | rfl) | rfl) rfl ?_
      refine sx_load 0 rfl rfl tyA3 tyS3 rfl rfl ?_
      refine sx_max rfl rfl (max s.r.c (tx e : Int)) rfl rfl ?_
      refine sx_fieldAddr rfl tyF36_4 (by first | (simp only [Nat.reduceAdd, Nat.add_zero, Nat.zero_add]; first | done | rfl) | rfl) rfl ?_
      refine sx_load 1 rfl rfl tyA3 tyS3 rfl rfl ?_
      refine sx_fieldAddr rfl tyF24_2 (by first | (simp only [Nat.reduceAdd, Nat.add_zero, Nat.zero_add]; first | done | rfl) | rfl) rfl ?_
      refine sx_load 0 rfl rfl tyA3 tyS3 rfl rfl ?_
      refine sx_max rfl rfl (max s.r.d (ty e : Int)) rfl rfl ?_
      refine sx_build tyZ36 tyP36 rfl rfl (by first | (simp only [List.take_succ_cons, List.take_zero, List.drop_succ_cons, List.drop_zero, List.cons_append, List.nil_append, List.append_nil, List.length_cons, List.length_nil, Nat.reduceAdd, Nat.zero_add, Nat.add_zero, Value.cells, wrV, zrep_one, List.replicate_succ, List.replicate_zero, Nat.reduceMul, Nat.zero_mul]; first | done | rfl) | rfl) rfl ?_
      refine sx_store 1 rfl rfl rfl tyS36 (by first | (simp only [Value.cells]; first | done | rfl) | rfl) rfl rfl (by first | (simp only [List.length_cons, List.length_nil, Nat.reduceAdd, Nat.zero_add, Nat.add_zero]; first | done | rfl) | rfl) (by first | (simp only [List.take_succ_cons, List.take_zero, List.drop_succ_cons, List.drop_zero, List.cons_append, List.nil_append, List.append_nil, List.length_cons, List.length_nil, Nat.reduceAdd, Nat.zero_add, Nat.add_zero, Value.cells, wrV]; first | done | rfl) | rfl) (by first | (simp only [List.set_cons_succ, List.set_cons_zero]; first | done | rfl) | rfl) ?_
      refine sx_nil (hZ _ _ ?_)
      refine nx_forget [(0, _), (1, _), (4, _), (6, _), (7, _), (8, _)] (Kn.cons rfl (Kn.cons rfl (Kn.cons rfl (Kn.cons rfl (Kn.cons rfl (Kn.cons rfl (Kn.nil))))))) ?_
      repeat (with_reducible refine nx_block_normal ?_)
      with_reducible refine nx_normal ?_
      refine awp_region (fun Z hZ => ?_)
      refine sx_move rfl rfl ?_
      refine sx_add rfl rfl ((i + 1 : Nat) : Int) (by rw [IntWalk.i64_in _ (by omega)]; omega) rfl ?_
      refine sx_assign rfl rfl ?_
      refine sx_nil (hZ _ _ ?_)
      refine nx_forget [(0, _), (1, _), (4, _), (6, _), (7, _), (8, _)] (Kn.cons rfl (Kn.cons rfl (Kn.cons rfl (Kn.cons rfl (Kn.cons rfl (Kn.cons rfl (Kn.nil))))))) ?_
      refine nx_round (i + 1) hlt (by omega) (Kn.cons rfl (Kn.cons rfl (Kn.cons rfl (Kn.cons rfl (Kn.cons (by rw [e1, decide_eq_true (show 0 < (takeQ s (tz e : Nat) (tx e : Nat) (ty e : Nat)).n from Nat.succ_pos _)]; rfl) (Kn.cons rfl Kn.nil)))))) ?_
      rw [e1, e2]
      exact HLe.drop 1 rfl
  · refine awp_exit ?_
    repeat (with_reducible refine nx_then_exit ?_)
    with_reducible refine nx_block_exit ?_
    with_reducible refine nx_normal ?_
    have hke : i = O.length := by simp at h; omega
    subst hke
    rw [List.take_length]

    refine awp_seq_region (fun Z hZ => ?_)
    refine sx_loadA 0 rfl rfl tyA36 tyS36 (by first | (simp only [List.length_cons, List.length_nil, Nat.reduceAdd, Nat.zero_add, Nat.add_zero]; first | done | rfl) | rfl) (by first | (simp only [List.take_succ_cons, List.take_zero, List.drop_succ_cons, List.drop_zero, List.cons_append, List.nil_append, List.append_nil, List.length_cons, List.length_nil, Nat.reduceAdd, Nat.zero_add, Nat.add_zero, Value.cells, wrV]; first | done | rfl) | rfl) rfl ?_
    refine sx_move rfl rfl ?_
    refine sx_store 1 rfl rfl rfl tyS36 (by first | (simp only [Value.cells]; first | done | rfl) | rfl) rfl rfl (by first | (simp only [List.length_cons, List.length_nil, Nat.reduceAdd, Nat.zero_add, Nat.add_zero]; first | done | rfl) | rfl) (by first | (simp only [List.take_succ_cons, List.take_zero, List.drop_succ_cons, List.drop_zero, List.cons_append, List.nil_append, List.append_nil, List.length_cons, List.length_nil, Nat.reduceAdd, Nat.zero_add, Nat.add_zero, Value.cells, wrV]; first | done | rfl) | rfl) (by first | (simp only [List.set_cons_succ, List.set_cons_zero]; first | done | rfl) | rfl) ?_
    refine sx_assign rfl rfl ?_
    refine sx_nil (hZ _ _ ?_)
    refine awp_forget [(4, _), (5, _)] (Kn.cons rfl (Kn.cons rfl (Kn.nil))) ?_
    refine awp_ret ?_
    exact nx_ret2 rfl (ResOk.cell 1 rfl rfl tyA36 tyS36 rfl) rfl rfl
theorem rboxes_fn (A : Option Addr) (c : Nat) (O : List It) (hA : SlIn A O.length c) (hok : ChOk O) :
    Fn Try.prog 16 [.slice A O.length c] (roE A (icells O)) fun v H' => RowOk v (boxT O 27).length ∧ H' = rowE v 36 5 (rcells (boxT O 27)) := by
  have hbx := fun z => rbox_fn A c O (roE A (icells O)) hA.arg (fun _ => rfl) hok z
  refine Fn.enter (N := 23) Try.func16 rfl (by kernel_rfl) rfl (fun w0 => ?_)

  refine awp_seq_region (fun Z hZ => ?_)
  refine sx_assign rfl rfl ?_
  refine sx_nil (hZ _ _ ?_)
  refine awp_forget [(0, _)] (Kn.cons rfl (Kn.nil)) ?_
  refine awp_seq_region (fun Z hZ => ?_)
  refine sx_assign rfl rfl ?_
  refine sx_nil (hZ _ _ ?_)
  refine awp_forget [(0, _), (3, _)] (Kn.cons rfl (Kn.cons rfl (Kn.nil))) ?_
  refine awp_seq ?_
  refine awp_seq_region (fun Z hZ => ?_)
  refine sx_assign rfl rfl ?_
  refine sx_nil (hZ _ _ ?_)
  refine awp_forget [(0, _), (3, _), (4, _)] (Kn.cons rfl (Kn.cons rfl (Kn.cons rfl (Kn.nil)))) ?_
  refine awp_block ?_
  refine awp_loop (ι := Value × Nat) (fun s => [(0, .slice A O.length c), (3, s.1), (4, iq (s.2 : Nat))]) (fun s => roE A (icells O) ++ rowE s.1 36 5 (rcells (boxT O s.2))) (fun s => s.2 ≤ 27 ∧ RowOk s.1 (boxT O s.2).length) (fun s => 27 - s.2) (.slice none 0 0, 0) ⟨Nat.zero_le _, RowOk.nil⟩ (Kn.cons rfl (Kn.cons rfl (Kn.cons rfl Kn.nil))) (by simp [rowE]; exact HLe.refl _) ?_
  rintro ⟨u, k⟩ ⟨hk, hu⟩
  replace hk : k ≤ 27 := hk
  replace hu : RowOk u (boxT O k).length := hu
  refine awp_forget [(0, .slice A O.length c), (3, u), (4, iq (k : Nat))] (Kn.cons rfl (Kn.cons rfl (Kn.cons rfl Kn.nil))) ?_
  refine awp_heap (roE A (icells O) ++ rowE u 36 5 (rcells (boxT O k))) (HLe.refl _) ?_
  have hbl := boxT_len O k hk

  refine awp_seq ?_
  refine awp_seq_region (fun Z hZ => ?_)
  refine sx_move rfl rfl ?_
  refine sx_leq rfl rfl rfl ?_
  refine sx_nil (hZ _ _ ?_)
  refine awp_forget [(0, _), (3, _), (4, _), (8, _)] (Kn.cons rfl (Kn.cons rfl (Kn.cons rfl (Kn.cons rfl (Kn.nil))))) ?_
  refine awp_cond rfl (fun h => ?_) (fun h => ?_)
  · have hlt : k < 27 := by simp at h; omega
    have hsn := boxT_snoc (O := O) hlt
    have hb := hbx (k : Nat)
    obtain ⟨s, hs⟩ : ∃ s, arZ O (k : Nat) = s := ⟨_, rfl⟩
    rw [hs] at hsn hb
    refine awp_skip ?_
    with_reducible refine nx_normal ?_
    refine awp_seq (awp_block ?_)
    refine awp_seq_region (fun Z hZ => ?_)
    refine sx_move rfl rfl ?_
    refine sx_move rfl rfl ?_
    refine sx_callV (roE A (icells O)) hb rfl (HLe.sub (List.sublist_append_left _ _)) (Ro.roE _ _) rfl ?_
    refine sx_move rfl rfl ?_
    refine sx_extract rfl rfl rfl ?_
    refine sx_extract rfl rfl rfl ?_
    refine sx_alloc tyZ36 rfl (fun g1 => ?_)
    first | refine sx_store 0 rfl rfl rfl tyS36 (by first | (simp only [Value.cells]; first | done | rfl) | rfl) rfl rfl (by first | (simp only [List.length_cons, List.length_nil, Nat.reduceAdd, Nat.zero_add, Nat.add_zero]; first | done | rfl) | rfl) (by first | (simp only [List.take_succ_cons, List.take_zero, List.drop_succ_cons, List.drop_zero, List.cons_append, List.nil_append, List.append_nil, List.length_cons, List.length_nil, Nat.reduceAdd, Nat.zero_add, Nat.add_zero, Value.cells, wrV]; first | done | rfl) | rfl) (by first | (simp only [List.set_cons_succ, List.set_cons_zero]; first | done | rfl) | rfl) ?_
    refine sx_assign rfl rfl ?_
    refine sx_nil (hZ _ _ ?_)
    refine awp_forget [(0, _), (3, _), (4, _), (5, _), (6, _)] (Kn.cons rfl (Kn.cons rfl (Kn.cons rfl (Kn.cons rfl (Kn.cons rfl (Kn.nil)))))) ?_

    refine awp_seq_region (fun Z hZ => ?_)
    refine sx_move rfl rfl ?_
    refine sx_nil (hZ _ _ ?_)
    refine awp_forget [(0, _), (3, _), (4, _), (5, _), (17, _)] (Kn.cons rfl (Kn.cons rfl (Kn.cons rfl (Kn.cons rfl (Kn.cons rfl (Kn.nil)))))) ?_
    refine awp_cond rfl (fun h5 => ?_) (fun h5 => ?_)
    · have hp : 0 < s.n := by simpa using h5
      rw [if_pos hp] at hsn
      refine awp_region (fun Z hZ => ?_)
      refine sx_move rfl rfl ?_
      first | refine sx_loadA 0 rfl rfl tyA36 tyS36 (by first | (simp only [List.length_cons, List.length_nil, Nat.reduceAdd, Nat.zero_add, Nat.add_zero]; first | done | rfl) | rfl) (by first | (simp only [List.take_succ_cons, List.take_zero, List.drop_succ_cons, List.drop_zero, List.cons_append, List.nil_append, List.append_nil, List.length_cons, List.length_nil, Nat.reduceAdd, Nat.zero_add, Nat.add_zero, Value.cells, wrV]; first | done | rfl) | rfl) rfl ?_
      refine sx_buildSlice Try.underlying46 tyS36 tyZ36 rfl rfl rfl rfl (by first | (simp only [List.take_succ_cons, List.take_zero, List.drop_succ_cons, List.drop_zero, List.cons_append, List.nil_append, List.append_nil, List.length_cons, List.length_nil, Nat.reduceAdd, Nat.zero_add, Nat.add_zero, Value.cells, wrV, zrep_one, List.replicate_succ, List.replicate_zero, Nat.reduceMul, Nat.zero_mul]; first | done | rfl) | rfl) rfl (fun g2 => ?_)
      refine sx_appendE (_ :: _ :: roE A (icells O)) elemRcR rfl hu (by rw [rcells_len]) rfl (fun w hw => rd_own (i := 0) (xs := s.r.cells) rfl rfl hw) rfl (by show _ ≤ 9223372036854775807; omega) (by omega) (HLe.refl _) rfl (fun v2 hv2 => ?_)
      refine sx_assign rfl rfl ?_
      refine sx_nil (hZ _ _ ?_)
      refine nx_forget [(0, _), (3, _), (4, _)] (Kn.cons rfl (Kn.cons rfl (Kn.cons rfl (Kn.nil)))) ?_
      repeat (with_reducible refine nx_block_normal ?_)
      with_reducible refine nx_normal ?_
      refine awp_region (fun Z hZ => ?_)
      refine sx_move rfl rfl ?_
      refine sx_add rfl rfl ((k + 1 : Nat) : Int) (by rw [IntWalk.i64_in _ (by omega)]; omega) rfl ?_
      refine sx_assign rfl rfl ?_
      refine sx_nil (hZ _ _ ?_)
      refine nx_forget [(0, _), (3, _), (4, _)] (Kn.cons rfl (Kn.cons rfl (Kn.cons rfl (Kn.nil)))) ?_
      refine nx_round (v2, k + 1) ⟨hlt, by rw [hsn, List.length_append]; exact hv2⟩ (show 27 - (k + 1) < 27 - k by omega) (Kn.cons rfl (Kn.cons rfl (Kn.cons rfl Kn.nil))) ?_
      show HLe (roE A (icells O) ++ rowE v2 _ 5 (rcells (boxT O (k + 1)))) _
      rw [hsn]
      refine HLe.trans ?_ (HLe.drop 2 rfl)
      rw [show rcells (boxT O k ++ [s.r]) = rcells (boxT O k) ++ s.r.cells from fm_snoc _ _]
      exact HLe.refl _
    · have hp : ¬ 0 < s.n := by simpa using h5
      rw [if_neg hp, List.append_nil] at hsn
      refine awp_skip ?_
      repeat (with_reducible refine nx_block_normal ?_)
      with_reducible refine nx_normal ?_
      refine awp_region (fun Z hZ => ?_)
      refine sx_move rfl rfl ?_
      refine sx_add rfl rfl ((k + 1 : Nat) : Int) (by rw [IntWalk.i64_in _ (by omega)]; omega) rfl ?_
      refine sx_assign rfl rfl ?_
      refine sx_nil (hZ _ _ ?_)
      refine nx_forget [(0, _), (3, _), (4, _)] (Kn.cons rfl (Kn.cons rfl (Kn.cons rfl (Kn.nil)))) ?_
      refine nx_round (u, k + 1) ⟨hlt, by rw [hsn]; exact hu⟩ (show 27 - (k + 1) < 27 - k by omega) (Kn.cons rfl (Kn.cons rfl (Kn.cons rfl Kn.nil))) ?_
      show HLe (roE A (icells O) ++ rowE u _ 5 (rcells (boxT O (k + 1)))) _
      rw [hsn]
      exact HLe.drop 1 rfl
  · refine awp_exit ?_
    repeat (with_reducible refine nx_then_exit ?_)
    with_reducible refine nx_block_exit ?_
    with_reducible refine nx_normal ?_
    obtain rfl : k = 27 := by simp at h; omega
    refine awp_seq_region (fun Z hZ => ?_)
    refine sx_move rfl rfl ?_
    refine sx_assign rfl rfl ?_
    refine sx_nil (hZ _ _ ?_)
    refine awp_forget [(2, _)] (Kn.cons rfl (Kn.nil)) ?_
    refine awp_ret ?_
    exact nx_ret1h _ rfl rfl (HLe.sub (List.sublist_append_right _ _)) ⟨hu, rfl⟩
theorem rcount_fn (A : Option Addr) (c : Nat) (O : List It) (T : Heap) (hA : ArgOk A O.length) (hT : 0 < O.length → T = roE A (icells O)) (hok : ChOk O) (z : Int) :
    Fn Try.prog 18 [.slice A O.length c, iq z] T fun v _ => v = iq ((arZ O z).n : Nat) := by
  have hlen := hok.len
  refine Fn.enter (N := 24) Try.func18 rfl (by kernel_rfl) rfl (fun w0 => ?_)

  refine awp_seq_region (fun Z hZ => ?_)
  refine sx_assign rfl rfl ?_
  refine sx_nil (hZ _ _ ?_)
  refine awp_forget [(0, _), (1, _)] (Kn.cons rfl (Kn.cons rfl (Kn.nil))) ?_
  refine awp_seq_region (fun Z hZ => ?_)
  refine sx_assign rfl rfl ?_
  refine sx_nil (hZ _ _ ?_)
  refine awp_forget [(0, _), (1, _), (5, _)] (Kn.cons rfl (Kn.cons rfl (Kn.cons rfl (Kn.nil)))) ?_
  refine awp_seq ?_
  refine awp_seq_region (fun Z hZ => ?_)
  refine sx_assign rfl rfl ?_
  refine sx_nil (hZ _ _ ?_)
  refine awp_forget [(0, _), (1, _), (5, _), (6, _)] (Kn.cons rfl (Kn.cons rfl (Kn.cons rfl (Kn.cons rfl (Kn.nil))))) ?_
  refine awp_block ?_
  refine awp_loop (ι := Nat) (fun i => [(0, .slice A O.length c), (1, iq z), (5, iq ((arZ (O.take i) z).n : Nat)), (6, iq (i : Nat))]) (fun _ => T) (fun i => i ≤ O.length) (fun i => O.length - i) 0 (Nat.zero_le _) (Kn.cons rfl (Kn.cons rfl (Kn.cons rfl (Kn.cons rfl Kn.nil)))) (HLe.refl _) ?_
  intro i hi
  refine awp_seq ?_
  refine awp_seq_region (fun Z hZ => ?_)
  refine sx_move rfl rfl ?_
  refine sx_move rfl rfl ?_
  refine sx_len Try.underlying22 rfl rfl ?_
  refine sx_lss rfl rfl rfl ?_
  refine sx_nil (hZ _ _ ?_)
  refine awp_forget [(0, _), (1, _), (5, _), (6, _), (10, _)] (Kn.cons rfl (Kn.cons rfl (Kn.cons rfl (Kn.cons rfl (Kn.cons rfl (Kn.nil)))))) ?_
  refine awp_cond rfl (fun h => ?_) (fun h => ?_)
  · have hlt : i < O.length := by simpa using h
    obtain ⟨e, he⟩ : ∃ e, O[i]? = some e := ⟨_, List.getElem?_eq_getElem hlt⟩
    have hel := hok.lt e (List.mem_of_getElem? he)
    have hzf := rzoom_fn e.id
    rw [(zN_ex hel).2.1] at hzf
    have hst := arZ_snoc he z
    have hnn := arZ_le (O.take i) z
    rw [List.length_take] at hnn
    obtain ⟨s, hs⟩ : ∃ s, arZ (O.take i) z = s := ⟨_, rfl⟩
    rw [hs] at hst hnn ⊢
    obtain ⟨g, o, rfl⟩ := hA (by omega)
    obtain rfl := hT (by omega)
    refine awp_heap [.ro g o (icells O)] (HLe.refl _) ?_
    refine awp_skip ?_
    with_reducible refine nx_normal ?_
    refine awp_seq (awp_block ?_)

    refine awp_seq_region (fun Z hZ => ?_)
    refine sx_move rfl rfl ?_
    refine sx_move rfl rfl ?_
    refine sx_indexAddr (o + i * 2) Try.underlying22 tyS78 rfl rfl (by omega) (by simp) rfl ?_
    refine sx_fieldAddr rfl tyF78_0 (by first | (simp only [Nat.reduceAdd, Nat.add_zero, Nat.zero_add]; first | done | rfl) | rfl) rfl ?_
    refine sx_loadRo 0 rfl rfl (i * 2) (by omega) tyA66 tyS66 (icells_id he) rfl ?_
    refine sx_callP (hzf) rfl rfl ?_
    refine sx_move rfl rfl ?_
    refine sx_eql rfl rfl rfl ?_
    refine sx_nil (hZ _ _ ?_)
    refine awp_forget [(0, _), (1, _), (5, _), (6, _), (20, _)] (Kn.cons rfl (Kn.cons rfl (Kn.cons rfl (Kn.cons rfl (Kn.cons rfl (Kn.nil)))))) ?_
    refine awp_cond rfl (fun h5 => ?_) (fun h5 => ?_)
    · have hz : (tz e : Int) = z := by unfold tz; simpa using h5
      have e1 : (arZ (O.take (i + 1)) z).n = s.n + 1 := by rw [hst]; unfold stepQ; rw [if_pos hz]; rfl
      refine awp_region (fun Z hZ => ?_)
      refine sx_move rfl rfl ?_
      refine sx_add rfl rfl ((s.n + 1 : Nat) : Int) (by rw [IntWalk.i64_in _ (by omega)]; omega) rfl ?_
      refine sx_assign rfl rfl ?_
      refine sx_nil (hZ _ _ ?_)
      refine nx_forget [(0, _), (1, _), (5, _), (6, _)] (Kn.cons rfl (Kn.cons rfl (Kn.cons rfl (Kn.cons rfl (Kn.nil))))) ?_
      repeat (with_reducible refine nx_block_normal ?_)
      with_reducible refine nx_normal ?_
      refine awp_region (fun Z hZ => ?_)
      refine sx_move rfl rfl ?_
      refine sx_add rfl rfl ((i + 1 : Nat) : Int) (by rw [IntWalk.i64_in _ (by omega)]; omega) rfl ?_
      refine sx_assign rfl rfl ?_
      refine sx_nil (hZ _ _ ?_)
      refine nx_forget [(0, _), (1, _), (5, _), (6, _)] (Kn.cons rfl (Kn.cons rfl (Kn.cons rfl (Kn.cons rfl (Kn.nil))))) ?_
      exact nx_round (i + 1) hlt (by omega) (Kn.cons rfl (Kn.cons rfl (Kn.cons (by rw [e1]; rfl) (Kn.cons rfl Kn.nil)))) (HLe.refl _)
    · have hz : ¬ (tz e : Int) = z := by unfold tz; simpa using h5
      have e1 : (arZ (O.take (i + 1)) z).n = s.n := by rw [hst]; unfold stepQ; rw [if_neg hz]
      refine awp_skip ?_
      repeat (with_reducible refine nx_block_normal ?_)
      with_reducible refine nx_normal ?_
      refine awp_region (fun Z hZ => ?_)
      refine sx_move rfl rfl ?_
      refine sx_add rfl rfl ((i + 1 : Nat) : Int) (by rw [IntWalk.i64_in _ (by omega)]; omega) rfl ?_
      refine sx_assign rfl rfl ?_
      refine sx_nil (hZ _ _ ?_)
      refine nx_forget [(0, _), (1, _), (5, _), (6, _)] (Kn.cons rfl (Kn.cons rfl (Kn.cons rfl (Kn.cons rfl (Kn.nil))))) ?_
      exact nx_round (i + 1) hlt (by omega) (Kn.cons rfl (Kn.cons rfl (Kn.cons (by rw [e1]; rfl) (Kn.cons rfl Kn.nil)))) (HLe.refl _)
  · refine awp_exit ?_
    repeat (with_reducible refine nx_then_exit ?_)
    with_reducible refine nx_block_exit ?_
    with_reducible refine nx_normal ?_
    have hke : i = O.length := by simp at h; omega
    subst hke
    rw [List.take_length]
    refine awp_seq_region (fun Z hZ => ?_)
    refine sx_move rfl rfl ?_
    refine sx_assign rfl rfl ?_
    refine sx_nil (hZ _ _ ?_)
    refine awp_forget [(4, _)] (Kn.cons rfl (Kn.nil)) ?_
    refine awp_ret ?_
    exact nx_ret1 rfl rfl rfl
theorem rfull_fn (A : Option Addr) (c : Nat) (O : List It) (hA : SlIn A O.length c) (hok : ChOk O) (z : Int) :
    Fn Try.prog 20 [.slice A O.length c, iq z] (roE A (icells O)) fun v _ => v = .bool (fullQx (arZ O z)) := by
  have hbx := rbox_fn A c O (roE A (icells O)) hA.arg (fun _ => rfl) hok z
  have hct := rcount_fn A c O (roE A (icells O)) hA.arg (fun _ => rfl) hok z
  obtain ⟨s, hs⟩ : ∃ s, arZ O z = s := ⟨_, rfl⟩
  rw [hs] at hbx hct ⊢
  have hsz := rSize_fn s.r
  unfold fullQx
  obtain ⟨q, hq⟩ : ∃ q, sizeQ s.r = q := ⟨_, rfl⟩
  rw [hq] at hsz ⊢
  refine Fn.enter (N := 22) Try.func20 rfl (by kernel_rfl) rfl (fun w0 => ?_)

  refine awp_seq_region (fun Z hZ => ?_)
  refine sx_assign rfl rfl ?_
  refine sx_nil (hZ _ _ ?_)
  refine awp_forget [(0, _), (1, _)] (Kn.cons rfl (Kn.cons rfl (Kn.nil))) ?_
  refine awp_seq_region (fun Z hZ => ?_)
  refine sx_move rfl rfl ?_
  refine sx_move rfl rfl ?_
  refine sx_callV (roE A (icells O)) hbx rfl (HLe.refl _) (Ro.roE _ _) rfl ?_
  refine sx_move rfl rfl ?_
  refine sx_extract rfl rfl rfl ?_
  refine sx_extract rfl rfl rfl ?_
  refine sx_alloc tyZ36 rfl (fun g1 => ?_)
  first | refine sx_store 0 rfl rfl rfl tyS36 (by first | (simp only [Value.cells]; first | done | rfl) | rfl) rfl rfl (by first | (simp only [List.length_cons, List.length_nil, Nat.reduceAdd, Nat.zero_add, Nat.add_zero]; first | done | rfl) | rfl) (by first | (simp only [List.take_succ_cons, List.take_zero, List.drop_succ_cons, List.drop_zero, List.cons_append, List.nil_append, List.append_nil, List.length_cons, List.length_nil, Nat.reduceAdd, Nat.zero_add, Nat.add_zero, Value.cells, wrV]; first | done | rfl) | rfl) (by first | (simp only [List.set_cons_succ, List.set_cons_zero]; first | done | rfl) | rfl) ?_
  refine sx_assign rfl rfl ?_
  refine sx_nil (hZ _ _ ?_)
  refine awp_forget [(0, _), (1, _), (5, _), (6, _)] (Kn.cons rfl (Kn.cons rfl (Kn.cons rfl (Kn.cons rfl (Kn.nil))))) ?_

  refine awq_seq_meet [(4, .bool (decide (0 < s.n ∧ s.n = q)))] [] mixed (by kernel_rfl) (fun Z hZ => ?_) ?_
  · refine sq_move rfl rfl ?_
    refine sq_move rfl rfl ?_
    refine sq_split 14 rfl (fun hb1 => ?_) (fun hb1 => ?_)
    · refine sq_on rfl rfl rfl ?_
      refine sq_move rfl rfl ?_
      refine sq_on rfl rfl rfl ?_
      refine sq_move rfl rfl ?_
      refine sq_on rfl rfl rfl ?_
      refine sq_callV (roE A (icells O)) hct rfl (HLe.drop 1 rfl) (Ro.roE _ _) rfl ?_
      refine sq_on rfl rfl rfl ?_
      first | refine sq_loadA 0 rfl rfl tyA36 tyS36 (by first | (simp only [List.length_cons, List.length_nil, Nat.reduceAdd, Nat.zero_add, Nat.add_zero]; first | done | rfl) | rfl) (by first | (simp only [List.take_succ_cons, List.take_zero, List.drop_succ_cons, List.drop_zero, List.cons_append, List.nil_append, List.append_nil, List.length_cons, List.length_nil, Nat.reduceAdd, Nat.zero_add, Nat.add_zero, Value.cells, wrV]; first | done | rfl) | rfl) rfl ?_
      refine sq_on rfl rfl rfl ?_
      refine sq_callP (hsz) rfl rfl ?_
      refine sq_on rfl rfl rfl ?_
      refine sq_eql rfl rfl rfl ?_
      refine sq_pick rfl rfl rfl ?_
      refine sq_assign rfl rfl ?_
      refine sq_nil (hZ _ _ ?_ ?_)
      · exact Kn.cons (congrArg some (congrArg Value.bool (by first | (exfalso; simp at *; omega) | (simp at *; done) | (simp at *; omega) | (rw [Bool.eq_iff_iff]; simp at *; omega)))) Kn.nil
      · exact HLe.sub (List.nil_sublist _)
    · refine sq_off rfl rfl rfl rfl rfl ?_
      refine sq_off rfl rfl rfl rfl rfl ?_
      refine sq_off rfl rfl rfl rfl rfl ?_
      refine sq_off rfl rfl rfl rfl rfl ?_
      refine sq_off rfl rfl rfl rfl rfl ?_
      refine sq_off rfl rfl rfl rfl rfl ?_
      refine sq_pick rfl rfl rfl ?_
      refine sq_assign rfl rfl ?_
      refine sq_nil (hZ _ _ ?_ ?_)
      · exact Kn.cons (congrArg some (congrArg Value.bool (by first | (exfalso; simp at *; omega) | (simp at *; done) | (simp at *; omega) | (rw [Bool.eq_iff_iff]; simp at *; omega)))) Kn.nil
      · exact HLe.sub (List.nil_sublist _)
  refine awp_ret ?_
  exact nx_ret1 rfl rfl rfl
end Go.Proofs.Ytmebmkkllhnmlaa
