/- What the rectangle around a zoom's tiles has: plain laws; the nearest tile over one: plain laws. -/
import Derived.Test.YtmebmkkllhnmlaaGxp2
namespace Go.Proofs.Ytmebmkkllhnmlaa
open Go.RowKit
set_option linter.unusedVariables false
set_option linter.unusedSimpArgs false
set_option maxRecDepth 100000
structure ArIs (z : Int) (L : List It) (s : Ar) : Prop where
  cnt : s.n = (L.filter fun e => decide ((tz e : Int) = z)).length
  zero : s.n = 0 → s = ar0
  zz : 0 < s.n → s.r.z = z
  all : ∀ e ∈ L, (tz e : Int) = z → (s.r.a ≤ tx e ∧ tx e ≤ s.r.c) ∧ s.r.b ≤ ty e ∧ ty e ≤ s.r.d
  xa : 0 < s.n → ∃ e ∈ L, (tz e : Int) = z ∧ (tx e : Int) = s.r.a
  xc : 0 < s.n → ∃ e ∈ L, (tz e : Int) = z ∧ (tx e : Int) = s.r.c
  yb : 0 < s.n → ∃ e ∈ L, (tz e : Int) = z ∧ (ty e : Int) = s.r.b
  yd : 0 < s.n → ∃ e ∈ L, (tz e : Int) = z ∧ (ty e : Int) = s.r.d
theorem step_is {z : Int} {L : List It} {s : Ar} (h : ArIs z L s) (e : It) : ArIs z (L ++ [e]) (stepQ z s e) := by
  unfold stepQ
  by_cases hz : (tz e : Int) = z
  · rw [if_pos hz]
    have hmem : e ∈ L ++ [e] := by simp
    have hL : ∀ f ∈ L, f ∈ L ++ [e] := fun f hf => List.mem_append_left _ hf
    have up : ∀ {P : It → Prop}, (∃ f ∈ L, (tz f : Int) = z ∧ P f) → ∃ f ∈ L ++ [e], (tz f : Int) = z ∧ P f := fun ⟨f, hf, h1⟩ => ⟨f, hL f hf, h1⟩
    have hc : (L ++ [e]).filter (fun e => decide ((tz e : Int) = z)) = L.filter (fun e => decide ((tz e : Int) = z)) ++ [e] := by
      rw [List.filter_append, List.filter_cons_of_pos (by simpa using hz)]
      rfl
    by_cases h0 : s.n = 0
    · have hs := h.zero h0
      have hno : ∀ f ∈ L, ¬ (tz f : Int) = z := fun f hf hfz => by
        have hcc := h.cnt
        rw [h0] at hcc
        have := List.length_pos_of_mem (List.mem_filter.2 ⟨hf, by simpa using hfz⟩ : f ∈ L.filter fun e => decide ((tz e : Int) = z))
        omega
      have e1 : takeQ s (tz e) (tx e) (ty e) = ⟨⟨tz e, min (tx e : Int) (tx e), min (ty e : Int) (ty e), max (tx e : Int) (tx e), max (ty e : Int) (ty e)⟩, s.n + 1⟩ := by
        unfold takeQ
        simp only [if_pos h0]
      rw [e1]
      refine ⟨by rw [hc, List.length_append, ← h.cnt]; rfl, fun h => by simp at h, fun _ => hz, fun f hf hfz => ?_, fun _ => ⟨e, hmem, hz, by show _ = min (tx e : Int) (tx e); omega⟩, fun _ => ⟨e, hmem, hz, by show _ = max (tx e : Int) (tx e); omega⟩, fun _ => ⟨e, hmem, hz, by show _ = min (ty e : Int) (ty e); omega⟩, fun _ => ⟨e, hmem, hz, by show _ = max (ty e : Int) (ty e); omega⟩⟩
      rcases List.mem_append.1 hf with hf | hf
      · exact absurd hfz (hno f hf)
      · rw [List.mem_singleton.1 hf]
        exact ⟨⟨by show min (tx e : Int) (tx e) ≤ _; omega, by show _ ≤ max (tx e : Int) (tx e); omega⟩, by show min (ty e : Int) (ty e) ≤ _; omega, by show _ ≤ max (ty e : Int) (ty e); omega⟩
    · have hp : 0 < s.n := by omega
      have e1 : takeQ s (tz e) (tx e) (ty e) = ⟨⟨s.r.z, min s.r.a (tx e), min s.r.b (ty e), max s.r.c (tx e), max s.r.d (ty e)⟩, s.n + 1⟩ := by
        unfold takeQ
        simp only [if_neg h0]
      rw [e1]
      refine ⟨by rw [hc, List.length_append, ← h.cnt]; rfl, fun h => by simp at h, fun _ => h.zz hp, fun f hf hfz => ?_, fun _ => ?_, fun _ => ?_, fun _ => ?_, fun _ => ?_⟩
      · show (min s.r.a (tx e : Int) ≤ tx f ∧ (tx f : Int) ≤ max s.r.c (tx e : Int)) ∧ min s.r.b (ty e : Int) ≤ ty f ∧ (ty f : Int) ≤ max s.r.d (ty e : Int)
        rcases List.mem_append.1 hf with hf | hf
        · have := h.all f hf hfz
          omega
        · rw [List.mem_singleton.1 hf]
          omega
      · show ∃ f ∈ L ++ [e], (tz f : Int) = z ∧ (tx f : Int) = min s.r.a (tx e : Int)
        rcases Int.le_total s.r.a (tx e) with hle | hle
        · rw [Int.min_eq_left hle]; exact up (h.xa hp)
        · rw [Int.min_eq_right hle]; exact ⟨e, hmem, hz, rfl⟩
      · show ∃ f ∈ L ++ [e], (tz f : Int) = z ∧ (tx f : Int) = max s.r.c (tx e : Int)
        rcases Int.le_total s.r.c (tx e) with hle | hle
        · rw [Int.max_eq_right hle]; exact ⟨e, hmem, hz, rfl⟩
        · rw [Int.max_eq_left hle]; exact up (h.xc hp)
      · show ∃ f ∈ L ++ [e], (tz f : Int) = z ∧ (ty f : Int) = min s.r.b (ty e : Int)
        rcases Int.le_total s.r.b (ty e) with hle | hle
        · rw [Int.min_eq_left hle]; exact up (h.yb hp)
        · rw [Int.min_eq_right hle]; exact ⟨e, hmem, hz, rfl⟩
      · show ∃ f ∈ L ++ [e], (tz f : Int) = z ∧ (ty f : Int) = max s.r.d (ty e : Int)
        rcases Int.le_total s.r.d (ty e) with hle | hle
        · rw [Int.max_eq_right hle]; exact ⟨e, hmem, hz, rfl⟩
        · rw [Int.max_eq_left hle]; exact up (h.yd hp)
  · rw [if_neg hz]
    have hL : ∀ {P : It → Prop}, (∃ f ∈ L, (tz f : Int) = z ∧ P f) → ∃ f ∈ L ++ [e], (tz f : Int) = z ∧ P f := fun ⟨f, hf, h1⟩ => ⟨f, List.mem_append_left _ hf, h1⟩
    refine ⟨?_, h.zero, h.zz, fun f hf hfz => ?_, fun hp => hL (h.xa hp), fun hp => hL (h.xc hp), fun hp => hL (h.yb hp), fun hp => hL (h.yd hp)⟩
    · rw [List.filter_append, List.filter_cons_of_neg (by simpa using hz), h.cnt]
      simp
    · rcases List.mem_append.1 hf with hf | hf
      · exact h.all f hf hfz
      · rw [List.mem_singleton.1 hf] at hfz
        exact absurd hfz hz
theorem ar_is (z : Int) (O : List It) : ∀ k, k ≤ O.length → ArIs z (O.take k) (arZ (O.take k) z)
  | 0, _ => ⟨rfl, fun _ => rfl, fun h => absurd h (Nat.lt_irrefl 0), fun e he => by simp at he, fun h => absurd h (Nat.lt_irrefl 0), fun h => absurd h (Nat.lt_irrefl 0), fun h => absurd h (Nat.lt_irrefl 0), fun h => absurd h (Nat.lt_irrefl 0)⟩
  | k + 1, hk => by
    have hx : O[k]? = some O[k] := List.getElem?_eq_getElem (by omega)
    rw [arZ_snoc hx, List.take_succ_eq_append_getElem (by omega)]
    exact step_is (ar_is z O k (by omega)) _
theorem ar_is_all (z : Int) (O : List It) : ArIs z O (arZ O z) := by
  have := ar_is z O O.length (Nat.le_refl _)
  rwa [List.take_length] at this
/-- The rectangle may be. -/
theorem ar_rc {z : Int} {O : List It} (hok : ChOk O) {s : Ar} (h : ArIs z O s) (hn : 0 < s.n) : ∃ Z a b c d, s.r.Ok Z a b c d ∧ z = (Z : Int) := by
  obtain ⟨e1, m1, z1, x1⟩ := h.xa hn
  obtain ⟨e2, m2, z2, x2⟩ := h.xc hn
  obtain ⟨e3, m3, z3, x3⟩ := h.yb hn
  obtain ⟨e4, m4, z4, x4⟩ := h.yd hn
  have t1 := tile_ok (hok.lt e1 m1)
  have t2 := tile_ok (hok.lt e2 m2)
  have t3 := tile_ok (hok.lt e3 m3)
  have t4 := tile_ok (hok.lt e4 m4)
  have a1 := h.all e1 m1 z1
  have a3 := h.all e3 m3 z3
  have zz := h.zz hn
  have e12 : tz e2 = tz e1 := by omega
  have e14 : tz e4 = tz e1 := by omega
  have q2 := t2.x
  have q4 := t4.y
  rw [e12] at q2
  rw [e14] at q4
  refine ⟨tz e1, tx e1, ty e3, tx e2, ty e4, ⟨?_, t1.z, by omega, by omega, q2, q4⟩, z1.symm⟩
  obtain ⟨⟨rz, ra, rb, rc, rd⟩, n⟩ := s
  simp only at x1 x2 x3 x4 zz z1
  subst x1 x2 x3 x4
  rw [zz, ← z1]
theorem ar_cnt {z : Int} {O : List It} (hok : ChOk O) {s : Ar} (h : ArIs z O s) (hn : 0 < s.n) : cntR s.r O = s.n := by
  obtain ⟨Z, a, b, c, d, hr, rfl⟩ := ar_rc hok h hn
  rw [h.cnt]
  unfold cntR
  congr 1
  refine List.filter_congr fun e he => ?_
  rw [Bool.eq_iff_iff, inRc_ok hr, decide_eq_true_iff]
  have := h.all e he
  have hre := hr.is_
  constructor
  · rintro ⟨h1, _⟩
    omega
  · intro h1
    have h2 := this h1
    rw [hre] at h2
    simp only at h2
    omega
theorem ar_has {z : Int} {O : List It} (hok : ChOk O) {s : Ar} (h : ArIs z O s) {e : It} (he : e ∈ O) (hz : (tz e : Int) = z) : hasQ s.r (tz e) (tx e) (ty e) = true := by
  have hn : 0 < s.n := by
    rw [h.cnt]
    exact List.length_pos_of_mem (List.mem_filter.2 ⟨he, by simpa using hz⟩)
  obtain ⟨Z, a, b, c, d, hr, rfl⟩ := ar_rc hok h hn
  have h1 := h.all e he hz
  have h2 := h.zz hn
  unfold hasQ
  rw [decide_eq_true_iff]
  exact ⟨hr.chk, by rw [h2]; exact hz, h1.1.1, h1.1.2, h1.2.1, h1.2.2⟩
/-- One tile more makes no rectangle smaller. -/
theorem ar_more {z : Int} {O M : List It} (hok : ChOk O) (hM : ChOk M) {s t : Ar} (hs : ArIs z O s) (ht : ArIs z M t) (hn : 0 < s.n) (hsub : ∀ e ∈ O, e.id ∈ idsI M) : 0 < t.n ∧ t.r.a ≤ s.r.a ∧ t.r.b ≤ s.r.b ∧ s.r.c ≤ t.r.c ∧ s.r.d ≤ t.r.d := by
  have key : ∀ e ∈ O, (tz e : Int) = z → (0 < t.n) ∧ (t.r.a ≤ tx e ∧ tx e ≤ t.r.c) ∧ t.r.b ≤ ty e ∧ ty e ≤ t.r.d := fun e he hz => by
    obtain ⟨f, hf, hid⟩ := List.mem_map.1 (hsub e he)
    have e1 : tz f = tz e := by unfold tz; rw [hid]
    have e2 : tx f = tx e := by unfold tx; rw [e1, hid]
    have e3 : ty f = ty e := by unfold ty; rw [e1, hid]
    have h1 := ht.all f hf (by rw [e1]; exact hz)
    rw [e2, e3] at h1
    refine ⟨?_, h1⟩
    rw [ht.cnt]
    exact List.length_pos_of_mem (List.mem_filter.2 ⟨hf, by simpa [e1] using hz⟩)
  obtain ⟨e1, m1, z1, x1⟩ := hs.xa hn
  obtain ⟨e2, m2, z2, x2⟩ := hs.xc hn
  obtain ⟨e3, m3, z3, x3⟩ := hs.yb hn
  obtain ⟨e4, m4, z4, x4⟩ := hs.yd hn
  have k1 := key e1 m1 z1
  have k2 := key e2 m2 z2
  have k3 := key e3 m3 z3
  have k4 := key e4 m4 z4
  exact ⟨k1.1, by omega, by omega, by omega, by omega⟩
/-- Where the nearest tile over a tile lies. -/
theorem above_is (O : List It) : ∀ (z x y : Nat) {n a b : Nat}, aboveQ O z x y = some (n, a, b) → hasT O n a b = true ∧ ∃ k, z = n + k ∧ a = x / 2 ^ k ∧ b = y / 2 ^ k
  | 0, x, y, n, a, b, h => by
    rw [aboveQ] at h
    split at h
    · rename_i hh
      injection h with h
      injection h with h1 h2
      injection h2 with h2 h3
      subst h1 h2 h3
      exact ⟨hh, 0, rfl, by simp, by simp⟩
    · cases h
  | z + 1, x, y, n, a, b, h => by
    rw [aboveQ] at h
    split at h
    · rename_i hh
      injection h with h
      injection h with h1 h2
      injection h2 with h2 h3
      subst h1 h2 h3
      exact ⟨hh, 0, rfl, by simp, by simp⟩
    · obtain ⟨h1, k, h2, h3, h4⟩ := above_is O z (x / 2) (y / 2) h
      refine ⟨h1, k + 1, by omega, ?_, ?_⟩
      · rw [h3, Nat.div_div_eq_div_mul, Nat.pow_succ, Nat.mul_comm 2]
      · rw [h4, Nat.div_div_eq_div_mul, Nat.pow_succ, Nat.mul_comm 2]
theorem tover_fn (n k x y : Nat) (hz : n + k ≤ 26) (hx : x < 2 ^ (n + k)) (hy : y < 2 ^ (n + k)) : Fn Try.prog 31 [tval (n : Nat) (x / 2 ^ k : Nat) (y / 2 ^ k : Nat), tval (n + k : Nat) (x : Nat) (y : Nat)] [] fun v _ => v = .bool true := by
  have hq := pow2_pos k
  have hx' : x / 2 ^ k < 2 ^ n := (Nat.div_lt_iff_lt_mul hq).2 (by rw [← Nat.pow_add]; exact hx)
  have hy' : y / 2 ^ k < 2 ^ n := (Nat.div_lt_iff_lt_mul hq).2 (by rw [← Nat.pow_add]; exact hy)
  have h1 := tID_fn (n : Nat) (x / 2 ^ k : Nat) (y / 2 ^ k : Nat)
  rw [(place_e0 (show n ≤ 26 by omega) hx' hy').1] at h1
  have h2 := tID_fn (n + k : Nat) (x : Nat) (y : Nat)
  rw [(place_e0 hz hx hy).1] at h2
  have h26 := pow2_le26 hz
  have hl := lift_fn n k x y hz (by omega) (by omega)
  obtain ⟨i1, hi1⟩ : ∃ i, idV (n : Nat) (x / 2 ^ k : Nat) (y / 2 ^ k : Nat) = i := ⟨_, rfl⟩
  obtain ⟨i2, hi2⟩ : ∃ i, idV (n + k : Nat) (x : Nat) (y : Nat) = i := ⟨_, rfl⟩
  rw [hi1] at h1
  rw [hi2] at h2
  obtain ⟨p, hp⟩ : ∃ p, x / 2 ^ k = p := ⟨_, rfl⟩
  obtain ⟨q, hq⟩ : ∃ q, y / 2 ^ k = q := ⟨_, rfl⟩
  rw [hp, hq] at h1 hl ⊢
  refine Fn.enter (N := 43) Try.func31 rfl (by kernel_rfl) rfl (fun w0 => ?_)

  refine awp_seq_region (fun Z hZ => ?_)
  refine sx_box rfl rfl rfl (fun g1 => ?_)
  refine sx_box rfl rfl rfl (fun g2 => ?_)
  refine sx_assign rfl rfl ?_
  refine sx_nil (hZ _ _ ?_)
  refine awp_forget [(2, _), (3, _)] (Kn.cons rfl (Kn.cons rfl (Kn.nil))) ?_

  refine awp_seq_region (fun Z hZ => ?_)
  refine sx_loadA 1 rfl rfl tyA39 tyS39 (by first | (simp only [List.length_cons, List.length_nil, Nat.reduceAdd, Nat.zero_add, Nat.add_zero]; first | done | rfl) | rfl) (by first | (simp only [List.take_succ_cons, List.take_zero, List.drop_succ_cons, List.drop_zero, List.cons_append, List.nil_append, List.append_nil, List.length_cons, List.length_nil, Nat.reduceAdd, Nat.zero_add, Nat.add_zero, Value.cells, wrV]; first | done | rfl) | rfl) rfl ?_
  refine sx_callP (h1) rfl rfl ?_
  refine sx_move rfl rfl ?_
  refine sx_extract rfl rfl rfl ?_
  refine sx_extract rfl rfl rfl ?_
  refine sx_assign rfl rfl ?_
  refine sx_assign rfl rfl ?_
  refine sx_nil (hZ _ _ ?_)
  refine awp_forget [(2, _), (3, _), (6, _)] (Kn.cons rfl (Kn.cons rfl (Kn.cons rfl (Kn.nil)))) ?_
  refine awp_seq_region (fun Z hZ => ?_)
  refine sx_loadA 0 rfl rfl tyA39 tyS39 (by first | (simp only [List.length_cons, List.length_nil, Nat.reduceAdd, Nat.zero_add, Nat.add_zero]; first | done | rfl) | rfl) (by first | (simp only [List.take_succ_cons, List.take_zero, List.drop_succ_cons, List.drop_zero, List.cons_append, List.nil_append, List.append_nil, List.length_cons, List.length_nil, Nat.reduceAdd, Nat.zero_add, Nat.add_zero, Value.cells, wrV]; first | done | rfl) | rfl) rfl ?_
  refine sx_callP (h2) rfl rfl ?_
  refine sx_move rfl rfl ?_
  refine sx_extract rfl rfl rfl ?_
  refine sx_extract rfl rfl rfl ?_
  refine sx_assign rfl rfl ?_
  refine sx_assign rfl rfl ?_
  refine sx_nil (hZ _ _ ?_)
  refine awp_forget [(2, _), (3, _), (6, _), (8, _)] (Kn.cons rfl (Kn.cons rfl (Kn.cons rfl (Kn.cons rfl (Kn.nil))))) ?_
  refine awq_seq_meet [(4, .bool true)] [] mixed (by kernel_rfl) (fun Z hZ => ?_) ?_
  · refine sq_move rfl rfl ?_
    refine sq_eql rfl rfl rfl ?_
    refine sq_move rfl rfl ?_
    refine sq_force 21 rfl true (by first | rfl | (simp; done) | (simp; omega)) ?_
    refine sq_on rfl rfl rfl ?_
    refine sq_move rfl rfl ?_
    refine sq_on rfl rfl rfl ?_
    refine sq_eql rfl rfl rfl ?_
    refine sq_pick rfl rfl rfl ?_
    refine sq_move rfl rfl ?_
    refine sq_force 25 rfl true (by first | rfl | (simp; done) | (simp; omega)) ?_
    refine sq_on rfl rfl rfl ?_
    refine sq_fieldAddr rfl tyF39_0 (by first | (simp only [Nat.reduceAdd, Nat.add_zero, Nat.zero_add]; first | done | rfl) | rfl) rfl ?_
    refine sq_on rfl rfl rfl ?_
    refine sq_load 0 rfl rfl tyA3 tyS3 rfl rfl ?_
    refine sq_on rfl rfl rfl ?_
    refine sq_fieldAddr rfl tyF39_0 (by first | (simp only [Nat.reduceAdd, Nat.add_zero, Nat.zero_add]; first | done | rfl) | rfl) rfl ?_
    refine sq_on rfl rfl rfl ?_
    refine sq_load 1 rfl rfl tyA3 tyS3 rfl rfl ?_
    refine sq_on rfl rfl rfl ?_
    refine sq_geq rfl rfl rfl ?_
    refine sq_pick rfl rfl rfl ?_
    refine sq_move rfl rfl ?_
    refine sq_force 32 rfl true (by first | rfl | (simp; done) | (simp; omega)) ?_
    refine sq_on rfl rfl rfl ?_
    refine sq_loadA 0 rfl rfl tyA39 tyS39 (by first | (simp only [List.length_cons, List.length_nil, Nat.reduceAdd, Nat.zero_add, Nat.add_zero]; first | done | rfl) | rfl) (by first | (simp only [List.take_succ_cons, List.take_zero, List.drop_succ_cons, List.drop_zero, List.cons_append, List.nil_append, List.append_nil, List.length_cons, List.length_nil, Nat.reduceAdd, Nat.zero_add, Nat.add_zero, Value.cells, wrV]; first | done | rfl) | rfl) rfl ?_
    refine sq_on rfl rfl rfl ?_
    refine sq_fieldAddr rfl tyF39_0 (by first | (simp only [Nat.reduceAdd, Nat.add_zero, Nat.zero_add]; first | done | rfl) | rfl) rfl ?_
    refine sq_on rfl rfl rfl ?_
    refine sq_load 0 rfl rfl tyA3 tyS3 rfl rfl ?_
    refine sq_on rfl rfl rfl ?_
    refine sq_fieldAddr rfl tyF39_0 (by first | (simp only [Nat.reduceAdd, Nat.add_zero, Nat.zero_add]; first | done | rfl) | rfl) rfl ?_
    refine sq_on rfl rfl rfl ?_
    refine sq_load 1 rfl rfl tyA3 tyS3 rfl rfl ?_
    refine sq_on rfl rfl rfl ?_
    refine sq_sub rfl rfl ((k : Nat) : Int) (by rw [IntWalk.i64_in _ (by omega)]; omega) rfl ?_
    refine sq_on rfl rfl rfl ?_
    refine sq_callP (hl) rfl rfl ?_
    refine sq_on rfl rfl rfl ?_
    refine sq_loadA 1 rfl rfl tyA39 tyS39 (by first | (simp only [List.length_cons, List.length_nil, Nat.reduceAdd, Nat.zero_add, Nat.add_zero]; first | done | rfl) | rfl) (by first | (simp only [List.take_succ_cons, List.take_zero, List.drop_succ_cons, List.drop_zero, List.cons_append, List.nil_append, List.append_nil, List.length_cons, List.length_nil, Nat.reduceAdd, Nat.zero_add, Nat.add_zero, Value.cells, wrV]; first | done | rfl) | rfl) rfl ?_
    refine sq_on rfl rfl rfl ?_
    refine sq_aeql (ti_eqC (n : Nat) (p : Nat) (q : Nat) (n : Nat) (p : Nat) (q : Nat)) guard_tiC rfl rfl rfl ?_
    rw [tiq_self]
    refine sq_pick rfl rfl rfl ?_
    refine sq_assign rfl rfl ?_
    refine sq_nil (hZ _ _ ?_ ?_)
    · exact Kn.cons rfl Kn.nil
    · exact HLe.sub (List.nil_sublist _)
  refine awp_ret ?_
  exact nx_ret1 rfl rfl rfl
end Go.Proofs.Ytmebmkkllhnmlaa
