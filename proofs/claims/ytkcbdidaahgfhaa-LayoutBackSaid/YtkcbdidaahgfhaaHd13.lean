/- A header's bytes tell it, and it tells them: plain laws. No conditions. -/
import Derived.Test.YtkcbdidaahgfhaaHd12
namespace Go.Proofs.Ytkcbdidaahgfhaa
open Go.RowKit
set_option linter.unusedVariables false
set_option linter.unusedSimpArgs false
theorem numL_leB : ∀ n x, numL (leB n x) = x % 256 ^ n
  | 0, x => by simp [leB, numL, Nat.mod_one]
  | n + 1, x => by
    have h : (UInt8.ofNat (x % 256)).toNat = x % 256 := by simp
    rw [leB, numL, h, numL_leB n, Nat.pow_succ, Nat.mul_comm (256 ^ n) 256, Nat.mod_mul]
theorem leB_numL : ∀ l : List UInt8, leB l.length (numL l) = l
  | [] => rfl
  | c :: l => by
    have hc := c.toNat_lt
    rw [List.length_cons, leB, numL, show (c.toNat + 256 * numL l) % 256 = c.toNat by omega, show (c.toNat + 256 * numL l) / 256 = numL l by omega, leB_numL l]
    simp
def flat : List (Nat × Nat) → List UInt8
  | [] => []
  | (n, x) :: r => leB n x ++ flat r
theorem atL_here (p t : List UInt8) (n x : Nat) : atL (p ++ (leB n x ++ t)) p.length n = x % 256 ^ n := by
  unfold atL
  rw [List.drop_left, List.take_append_of_le_length (by rw [leB_length]; omega), List.take_of_length_le (by rw [leB_length]; omega), numL_leB]
theorem atL_flat (t : List UInt8) : ∀ (fs : List (Nat × Nat)) (p : List UInt8) (k n x : Nat), fs[k]? = some (n, x) → atL (p ++ (flat fs ++ t)) (p.length + ((fs.take k).map Prod.fst).sum) n = x % 256 ^ n
  | [], _, _, _, _, h => by simp at h
  | (m, y) :: r, p, 0, n, x, h => by
    simp at h
    obtain ⟨rfl, rfl⟩ := h
    simp only [List.take_zero, List.map_nil, List.sum_nil, Nat.add_zero, flat, List.append_assoc]
    exact atL_here _ _ _ _
  | (m, y) :: r, p, k + 1, n, x, h => by
    have := atL_flat t r (p ++ leB m y) k n x (by simpa using h)
    rw [List.length_append, leB_length] at this
    rw [List.take_succ_cons, List.map_cons, List.sum_cons, ← Nat.add_assoc]
    simpa [flat, List.append_assoc] using this
def uv (v : Int) : Nat := (unsV v 4).toNat
def fld (h : Hdr) : List (Nat × Nat) :=
  [(8, h.r0), (8, h.r1), (8, h.m0), (8, h.m1), (8, h.l0), (8, h.l1), (8, h.d0), (8, h.d1), (8, h.ad), (8, h.en), (8, h.co), (1, clN h), (1, h.ic), (1, h.oc), (1, h.ki), (1, h.z0.toNat), (1, h.z1.toNat),
    (4, uv h.lo0), (4, uv h.la0), (4, uv h.lo1), (4, uv h.la1), (1, h.zo.toNat), (4, uv h.lon), (4, uv h.lat)]
def mag8 : List UInt8 := [80, 77, 84, 105, 108, 101, 115, 3]
theorem enc_flat (h : Hdr) : enc5 h = mag8 ++ flat (fld h) := by
  simp only [enc5, enc4, enc3, enc2, enc1, secB, sgB, flat, fld, mag8, uv, List.append_assoc, List.append_nil]
theorem atL_fld (h : Hdr) (t : List UInt8) (k : Nat) {n x i : Nat} (hk : (fld h)[k]? = some (n, x)) (hi : 8 + (((fld h).take k).map Prod.fst).sum = i) (hx : x < 256 ^ n) : atL (enc5 h ++ t) i n = x := by
  rw [enc_flat, List.append_assoc, ← hi]
  exact (atL_flat t (fld h) mag8 k n x hk).trans (Nat.mod_eq_of_lt hx)
theorem uns_small {v : Int} (hv : -1800000000 ≤ v ∧ v ≤ 1800000000) : unsV v 4 = v % 4294967296 := by
  have h1 : unsE v 4 = 0 := by
    unfold unsE
    rw [if_pos (by omega), if_pos (by simp only [show (8 * (4 : Int) - 1).toNat = 31 from rfl]; omega)]
  unfold unsV
  rw [if_pos h1]
  rfl
theorem uv_lt (v : Int) : uv v < 256 ^ 4 := by have := unsV4 v; unfold uv; omega
theorem sgn_uv {v : Int} (hv : -1800000000 ≤ v ∧ v ≤ 1800000000) : sgnV (uv v : Int) 4 = v := by
  unfold uv sgnV
  rw [uns_small hv, if_pos (by omega)]
  simp only [show (8 * (4 : Int) - 1).toNat = 31 from rfl, show (8 * (4 : Int)).toNat = 32 from rfl]
  omega
theorem uv_sgn {x : Nat} (hx : x < 4294967296) : uv (sgnV (x : Int) 4) = x := by
  have hs : sgnV (x : Int) 4 = ((x : Int) + 2147483648) % 4294967296 - 2147483648 := by
    unfold sgnV
    rw [if_pos (by omega)]
    rfl
  have h1 : unsE (sgnV (x : Int) 4) 4 = 0 := by
    unfold unsE
    rw [if_pos (by omega), if_pos (by simp only [show (8 * (4 : Int) - 1).toNat = 31 from rfl]; omega)]
  unfold uv unsV
  rw [if_pos h1]
  simp only [show (8 * (4 : Int)).toNat = 32 from rfl]
  omega
theorem dec_enc {h : Hdr} (hk : h.Ok) (hc : checkV h = 0) (t : List UInt8) : decH (enc5 h ++ t) = h ∧ decE (enc5 h ++ t) = 0 := by
  obtain ⟨_, ⟨c1, c2, c3⟩, ⟨⟨z0a, z0b⟩, ⟨z1a, z1b⟩, ⟨zoa, zob⟩, _⟩, ⟨lo0, lo1, lon, _⟩, ⟨la0, la1, lat, _⟩⟩ := check_ok hc
  have hcl : clN h ≤ 1 := by unfold clN; split <;> omega
  have e96 : atL (enc5 h ++ t) 96 1 = clN h := atL_fld h t 11 (by kernel_rfl) (by kernel_rfl) (by omega)
  have hH : decH (enc5 h ++ t) = h := by
    have q1 := hk.r0
    have q2 := hk.r1
    have q3 := hk.m0
    have q4 := hk.m1
    have q5 := hk.l0
    have q6 := hk.l1
    have q7 := hk.d0
    have q8 := hk.d1
    have q9 := hk.ad
    have q10 := hk.en
    have q11 := hk.co
    have e8 : atL (enc5 h ++ t) 8 8 = h.r0 := atL_fld h t 0 (by kernel_rfl) (by kernel_rfl) (by omega)
    have e16 : atL (enc5 h ++ t) 16 8 = h.r1 := atL_fld h t 1 (by kernel_rfl) (by kernel_rfl) (by omega)
    have e24 : atL (enc5 h ++ t) 24 8 = h.m0 := atL_fld h t 2 (by kernel_rfl) (by kernel_rfl) (by omega)
    have e32 : atL (enc5 h ++ t) 32 8 = h.m1 := atL_fld h t 3 (by kernel_rfl) (by kernel_rfl) (by omega)
    have e40 : atL (enc5 h ++ t) 40 8 = h.l0 := atL_fld h t 4 (by kernel_rfl) (by kernel_rfl) (by omega)
    have e48 : atL (enc5 h ++ t) 48 8 = h.l1 := atL_fld h t 5 (by kernel_rfl) (by kernel_rfl) (by omega)
    have e56 : atL (enc5 h ++ t) 56 8 = h.d0 := atL_fld h t 6 (by kernel_rfl) (by kernel_rfl) (by omega)
    have e64 : atL (enc5 h ++ t) 64 8 = h.d1 := atL_fld h t 7 (by kernel_rfl) (by kernel_rfl) (by omega)
    have e72 : atL (enc5 h ++ t) 72 8 = h.ad := atL_fld h t 8 (by kernel_rfl) (by kernel_rfl) (by omega)
    have e80 : atL (enc5 h ++ t) 80 8 = h.en := atL_fld h t 9 (by kernel_rfl) (by kernel_rfl) (by omega)
    have e88 : atL (enc5 h ++ t) 88 8 = h.co := atL_fld h t 10 (by kernel_rfl) (by kernel_rfl) (by omega)
    have e97 : atL (enc5 h ++ t) 97 1 = h.ic := atL_fld h t 12 (by kernel_rfl) (by kernel_rfl) (by omega)
    have e98 : atL (enc5 h ++ t) 98 1 = h.oc := atL_fld h t 13 (by kernel_rfl) (by kernel_rfl) (by omega)
    have e99 : atL (enc5 h ++ t) 99 1 = h.ki := atL_fld h t 14 (by kernel_rfl) (by kernel_rfl) (by omega)
    have e100 : atL (enc5 h ++ t) 100 1 = h.z0.toNat := atL_fld h t 15 (by kernel_rfl) (by kernel_rfl) (by omega)
    have e101 : atL (enc5 h ++ t) 101 1 = h.z1.toNat := atL_fld h t 16 (by kernel_rfl) (by kernel_rfl) (by omega)
    have e102 : atL (enc5 h ++ t) 102 4 = uv h.lo0 := atL_fld h t 17 (by kernel_rfl) (by kernel_rfl) (uv_lt _)
    have e106 : atL (enc5 h ++ t) 106 4 = uv h.la0 := atL_fld h t 18 (by kernel_rfl) (by kernel_rfl) (uv_lt _)
    have e110 : atL (enc5 h ++ t) 110 4 = uv h.lo1 := atL_fld h t 19 (by kernel_rfl) (by kernel_rfl) (uv_lt _)
    have e114 : atL (enc5 h ++ t) 114 4 = uv h.la1 := atL_fld h t 20 (by kernel_rfl) (by kernel_rfl) (uv_lt _)
    have e118 : atL (enc5 h ++ t) 118 1 = h.zo.toNat := atL_fld h t 21 (by kernel_rfl) (by kernel_rfl) (by omega)
    have e119 : atL (enc5 h ++ t) 119 4 = uv h.lon := atL_fld h t 22 (by kernel_rfl) (by kernel_rfl) (uv_lt _)
    have e123 : atL (enc5 h ++ t) 123 4 = uv h.lat := atL_fld h t 23 (by kernel_rfl) (by kernel_rfl) (uv_lt _)
    unfold decH dgL
    rw [e8, e16, e24, e32, e40, e48, e56, e64, e72, e80, e88, e96, e97, e98, e99, e100, e101, e102, e106, e110, e114, e118, e119, e123, sgn_uv (by omega), sgn_uv (by omega), sgn_uv (by omega), sgn_uv (by omega), sgn_uv (by omega), sgn_uv (by omega), Int.toNat_of_nonneg z0a, Int.toNat_of_nonneg z1a, Int.toNat_of_nonneg zoa]
    have : decide (clN h = 1) = h.cl := by unfold clN; cases h.cl <;> simp
    rw [this]
  refine ⟨hH, ?_⟩
  have hl := enc5_length h
  unfold decE
  rw [hH, e96, if_neg (by rw [List.length_append]; omega), if_neg, if_neg, if_neg (by omega), hc]
  · rw [enc_flat]; simp [mag8]
  · rw [enc_flat]; simp [mag8, magic7]
theorem decV_enc {h : Hdr} (hk : h.Ok) (hc : checkV h = 0) (t : List UInt8) : decV (encV h ++ t) = h ∧ decE (encV h ++ t) = 0 := by
  unfold encV decV
  rw [if_pos hc, (dec_enc hk hc t).2, if_pos rfl, (dec_enc hk hc t).1]
  exact ⟨rfl, rfl⟩
/-- Back: the bytes of what bytes tell. -/
def walkF (l : List UInt8) : List Nat → Nat → List (Nat × Nat)
  | [], _ => []
  | n :: r, i => (n, atL l i n) :: walkF l r (i + n)
theorem leB_atL (l : List UInt8) (i n : Nat) (h : i + n ≤ l.length) : leB n (atL l i n) = (l.drop i).take n := by
  have := leB_numL ((l.drop i).take n)
  have e : ((l.drop i).take n).length = n := by simp; omega
  rw [e] at this
  exact this
theorem flat_walk (l : List UInt8) : ∀ (ns : List Nat) (i : Nat), i + ns.sum ≤ l.length → flat (walkF l ns i) = (l.drop i).take ns.sum
  | [], i, _ => by simp [flat, walkF]
  | n :: r, i, h => by
    rw [List.sum_cons] at h
    rw [walkF, flat, leB_atL l i n (by omega), flat_walk l r (i + n) (by omega), List.sum_cons, List.take_add, List.drop_drop]
def lens : List Nat := [8, 8, 8, 8, 8, 8, 8, 8, 8, 8, 8, 1, 1, 1, 1, 1, 1, 4, 4, 4, 4, 1, 4, 4]
theorem atL_four (l : List UInt8) (i : Nat) : atL l i 4 < 4294967296 := by
  have h1 := numL_lt ((l.drop i).take 4)
  unfold atL
  have h2 : ((l.drop i).take 4).length ≤ 4 := by simp; omega
  have : 256 ^ ((l.drop i).take 4).length ≤ 256 ^ 4 := Nat.pow_le_pow_right (by omega) h2
  omega
theorem fld_dec {l : List UInt8} (h : atL l 96 1 ≤ 1) : fld (decH l) = walkF l lens 8 := by
  have hc : clN (decH l) = atL l 96 1 := by
    unfold clN decH
    simp only [decide_eq_true_eq]
    split <;> omega
  unfold fld
  rw [hc]
  unfold decH dgL
  simp only [walkF, lens, uv_sgn (atL_four _ _), Int.toNat_natCast]
theorem decE_ok {l : List UInt8} (h : decE l = 0) : 127 ≤ l.length ∧ l.take 7 = magic7 ∧ l[7]? = some 3 ∧ atL l 96 1 ≤ 1 ∧ checkV (decH l) = 0 := by
  unfold decE at h
  by_cases h1 : l.length < 127
  · simp [h1] at h
  by_cases h2 : l.take 7 ≠ magic7
  · simp [h1, h2] at h
  by_cases h3 : l[7]? ≠ some 3
  · simp [h1, h2, h3] at h
  by_cases h4 : 1 < atL l 96 1
  · simp [h1, h2, h3, h4] at h
  rw [if_neg h1, if_neg h2, if_neg h3, if_neg h4] at h
  exact ⟨by omega, Classical.byContradiction h2, Classical.byContradiction h3, by omega, h⟩
theorem take8 {l : List UInt8} (h1 : l.take 7 = magic7) (h2 : l[7]? = some 3) : l.take 8 = mag8 := by
  rw [List.take_add_one, h1, h2]
  rfl
theorem enc_dec {l : List UInt8} (h : decE l = 0) : encV (decV l) = l.take 127 := by
  obtain ⟨h1, h2, h3, h4, h5⟩ := decE_ok h
  have hv : decV l = decH l := by unfold decV; rw [if_pos h]
  rw [hv, encV, if_pos h5, enc_flat, fld_dec h4, flat_walk l lens 8 (by simp [lens]; omega)]
  have : l.take 127 = l.take 8 ++ (l.drop 8).take 119 := by rw [← List.take_add]
  rw [this, take8 h2 h3]
  rfl
theorem dec_ok (l : List UInt8) : (decH l).Ok := by
  constructor <;> first | exact atL_lt l _ _ (by omega) | exact atL_byte l _
theorem decV_ok (l : List UInt8) : (decV l).Ok := by
  unfold decV
  split
  · exact dec_ok l
  · constructor <;> decide
end Go.Proofs.Ytkcbdidaahgfhaa
