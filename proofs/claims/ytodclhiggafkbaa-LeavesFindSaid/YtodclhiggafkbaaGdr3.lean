/- The walks of dirs.Each, and of what it hands out. Conditions: the text is not too long. The walk of the small example of directories that each law asks. No conditions. What the laws of directories share: arguments. No conditions. Plain: numbers as bytes, there and back; what a directory told of bytes has. No conditions. Plain: directories as bytes, there and back. No conditions. Plain: what is told of a directory's bytes, of fewer, of more; and of which bytes a directory is told. No conditions. -/
import Derived.Test.YtodclhiggafkbaaGdr2
import Derived.Test.YtodclhiggafkbaaGop2
namespace Go.Proofs.Ytodclhiggafkbaa
open Go.RowKit
set_option linter.unusedVariables false
set_option linter.unusedSimpArgs false
end Go.Proofs.Ytodclhiggafkbaa

namespace Go.Proofs.Ytodclhiggafkbaa
open Go.RowKit
set_option linter.unusedVariables false
set_option linter.unusedSimpArgs false
def awL : List En := [⟨1, 0, 5, 1⟩, ⟨300, 5, 1, 0⟩]
def awB : List UInt8 := [2, 1, 171, 2, 1, 0, 5, 1, 1, 0]
theorem aw_row : rowC awL = 0 := rfl
theorem aw_ok : EnsOk awL := fun e he => by
  simp only [awL, List.mem_cons, List.not_mem_nil, or_false] at he
  rcases he with rfl | rfl <;> exact ⟨by decide, by decide, by decide, by decide⟩
theorem aw_all : allB (numsQ awL) = awB := by
  rw [show numsQ awL = [2, 1, 299, 1, 0, 5, 1, 1, 0] from rfl]
  have h : ∀ x, x < 128 → vb x = [UInt8.ofNat x] := fun x => vb_lt
  have h2 : vb 299 = [171, 2] := by rw [vb_ge (by omega), h _ (by omega)]; rfl
  simp only [allB, List.flatMap_cons, List.flatMap_nil, h2]
  rw [h 2 (by omega), h 1 (by omega), h 0 (by omega), h 5 (by omega)]
  rfl
theorem aw_enc : encQ awL = (awB, 0) := by
  unfold encQ
  rw [if_pos aw_row, sumB, aw_all]
  rfl
theorem aw_enc0 : encQ [] = ([0], 0) := by
  have h : allB (numsQ []) = [0] := by
    rw [show numsQ [] = [0] from rfl]
    simp only [allB, List.flatMap_cons, List.flatMap_nil]
    rw [vb_lt (by omega)]
    rfl
  unfold encQ
  rw [if_pos (by rfl), sumB, h]
  rfl
theorem aw_dec : decQ awB = (awL, 10, 0) := by kernel_rfl
theorem aw_dec1 : decQ [1, 1, 1, 5, 0] = ([], 4, 4) := by kernel_rfl
theorem aw_size : sizeQ awL = 10 := by
  unfold sizeQ
  rw [if_pos aw_row, sumB, aw_all]
  rfl
end Go.Proofs.Ytodclhiggafkbaa

namespace Go.Proofs.Ytodclhiggafkbaa
open Go.RowKit
set_option linter.unusedVariables false
set_option linter.unusedSimpArgs false
set_option maxRecDepth 100000
theorem leaves_en : leaves Try.prog 5 58 = some [.int .u64, .int .u64, .int .u32, .int .u32] := by kernel_rfl
theorem en_of (r : List Value) (h : Alike [.int .u64, .int .u64, .int .u32, .int .u32] r) : ∃ x : En, x.ok ∧ r = x.cells := by
  obtain ⟨a, c, rfl, ha, a1⟩ := alike_u64 h
  obtain ⟨b, c, rfl, hb, a2⟩ := alike_u64 a1
  obtain ⟨l, c, rfl, hl, a3⟩ := alike_u32 a2
  obtain ⟨n, c, rfl, hn, a4⟩ := alike_u32 a3
  cases a4
  exact ⟨⟨a, b, l, n⟩, ⟨ha, hb, hl, hn⟩, rfl⟩
theorem open_ens {H : Type} {enc : TypeId × Value → H} {w : World} {b0 : Nat} {r : Reach} {v : Value} {d : DataW H} {p : List MemPlace}
    (hv : Value.okWide Try.prog w r b0 22 v) (h : DataW.Trod enc Try.prog w 0 (fun _ => true) true 22 v d p) :
    ∃ A c, ∃ L : List En, ∃ T : Heap, v = .slice A L.length c ∧ ArgOk A L.length ∧ L.length ≤ maxLen ∧ EnsOk L ∧ (0 < L.length → T = roE A (ecells L)) ∧ Ro T ∧ Sat w [] T w := by
  obtain ⟨A, n, c, rows, rfl, h1, h2, h3, h4⟩ := open_rows 5 Try.underlying22 leaves_en (by kernel_rfl) (Nat.succ_pos _) hv h
  obtain ⟨L, h5, h6, h7⟩ := rows_as (f := En.cells) (ok := En.ok) en_of rows h3
  have hn : L.length = n := by omega
  subst hn
  rw [h5] at h4
  by_cases h0 : 0 < L.length
  · exact ⟨A, c, L, roE A (ecells L), rfl, arg_ok h4, h2, h7, fun _ => rfl, Ro.roE _ _, arg_sat h4 h0⟩
  · exact ⟨A, c, L, [], rfl, arg_ok h4, h2, h7, fun h => absurd h h0, Ro.nil, Sat.nil w⟩
theorem open_text {H : Type} {enc : TypeId × Value → H} {w : World} {base b0 : Nat} {spare : Nat → Bool} {held : Bool} {r : Reach} {v : Value} {d : DataW H} {p : List MemPlace}
    (hv : Value.okWide Try.prog w r b0 9 v) (h : DataW.Trod enc Try.prog w base spare held 9 v d p) : ∃ l : List UInt8, v = .string (str l) := by
  obtain ⟨s, rfl, _⟩ := ChangeMaps.open_string Try.underlying9 hv h
  obtain ⟨l⟩ := s
  exact ⟨l.toList, rfl⟩
end Go.Proofs.Ytodclhiggafkbaa

namespace Go.Proofs.Ytodclhiggafkbaa
open Go.RowKit
set_option linter.unusedVariables false
set_option linter.unusedSimpArgs false
theorem decG_ok {s : List UInt8} : ∀ (k j : Nat) (M : List En) (p : Nat), M.length ≤ 4096 → EnsOk M → p ≤ s.length →
    (decG s k j M p).1.length ≤ 4096 ∧ EnsOk (decG s k j M p).1 ∧ (decG s k j M p).2.1 ≤ s.length ∧ ((decG s k j M p).2.2 ≠ 0 → (decG s k j M p).1 = [])
  | 0, j, M, p, hM, hE, hp => by
    rw [decG_0]
    have he : EnsOk [] := fun e h => by cases h
    split
    · exact ⟨Nat.zero_le _, he, hp, fun _ => rfl⟩
    split
    · exact ⟨Nat.zero_le _, he, Nat.le_refl _, fun _ => rfl⟩
    · exact ⟨hM, hE, Nat.le_refl _, fun h => absurd rfl h⟩
  | k + 1, j, M, p, hM, hE, hp => by
    have he : EnsOk [] := fun e h => by cases h
    obtain ⟨f1, f2, _⟩ := getQ_facts s p hp
    rw [decG]
    split
    · exact ⟨Nat.zero_le _, he, hp, fun _ => rfl⟩
    split
    · exact ⟨Nat.zero_le _, he, hp, fun _ => rfl⟩
    · exact decG_ok k (j + 1) _ _ (by simpa using hM) (ens_set hE (putQ_ok (atE_ok hE _) f1)) f2
theorem decQ_ok (s : List UInt8) : (decQ s).1.length ≤ 4096 ∧ EnsOk (decQ s).1 ∧ (decQ s).2.1 ≤ s.length ∧ ((decQ s).2.2 ≠ 0 → (decQ s).1 = []) := by
  have he : EnsOk [] := fun e h => by cases h
  unfold decQ
  split
  · exact ⟨Nat.zero_le _, he, Nat.zero_le _, fun _ => rfl⟩
  split
  · exact ⟨Nat.zero_le _, he, Nat.zero_le _, fun _ => rfl⟩
  split
  · exact ⟨Nat.zero_le _, he, Nat.zero_le _, fun _ => rfl⟩
  · exact decG_ok _ _ _ _ (by simp; omega) (ens_zero _) (getQ_facts s 0 (by omega)).2.1
theorem u8_of {x : Nat} (h : x < 256) : (UInt8.ofNat x).toNat = x := by simp; omega
theorem valL_vb (x : Nat) : valL (vb x) = x := by
  induction x using Nat.strongRecOn with
  | _ x ih =>
    rcases Nat.lt_or_ge x 128 with h | h
    · rw [vb_lt h]
      simp only [valL, u8_of (show x < 256 by omega)]
      omega
    · rw [vb_ge h]
      simp only [valL, u8_of (show x % 128 + 128 < 256 by omega), ih (x / 128) (by omega)]
      omega
theorem cnt_vb (x : Nat) : ∀ (k : Nat) (r : List UInt8), (vb x).length ≤ k → cnt k (vb x ++ r) = (vb x).length - 1 := by
  induction x using Nat.strongRecOn with
  | _ x ih =>
    intro k r hk
    have := vb_pos x
    obtain ⟨k, rfl⟩ : ∃ m, k = m + 1 := ⟨k - 1, by omega⟩
    rcases Nat.lt_or_ge x 128 with h | h
    · rw [vb_lt h, List.singleton_append, cnt, if_neg (by rw [u8_of (by omega)]; omega)]
      rfl
    · have hp := vb_pos (x / 128)
      rw [vb_ge h, List.length_cons] at hk
      rw [vb_ge h, List.cons_append, cnt, if_pos (by rw [u8_of (by omega)]; omega), ih (x / 128) (by omega) k r (by omega), List.length_cons]
      omega
theorem last_vb (x : Nat) : ∀ r : List UInt8, dat (vb x ++ r) ((vb x).length - 1) = x / 128 ^ ((vb x).length - 1) ∧ ((vb x).length = 1 ∨ 128 ^ ((vb x).length - 1) ≤ x) := by
  induction x using Nat.strongRecOn with
  | _ x ih =>
    intro r
    rcases Nat.lt_or_ge x 128 with h | h
    · rw [vb_lt h]
      refine ⟨?_, .inl rfl⟩
      show (UInt8.ofNat x).toNat = x / 128 ^ 0
      rw [u8_of (by omega)]
      simp
    · have hp := vb_pos (x / 128)
      obtain ⟨h1, h2⟩ := ih (x / 128) (by omega) r
      rw [vb_ge h, List.length_cons, List.cons_append, Nat.add_sub_cancel]
      obtain ⟨m, hm⟩ : ∃ m, (vb (x / 128)).length = m + 1 := ⟨_, (Nat.sub_add_cancel hp).symm⟩
      rw [hm, Nat.add_sub_cancel] at h1 h2
      rw [hm, dat_cons, h1, Nat.pow_succ, Nat.mul_comm (128 ^ m), ← Nat.div_div_eq_div_mul]
      refine ⟨rfl, .inr ?_⟩
      rcases h2 with h2 | h2
      · obtain rfl : m = 0 := by omega
        simpa using h
      · calc 128 * 128 ^ m ≤ 128 * (x / 128) := Nat.mul_le_mul_left _ h2
          _ ≤ x := Nat.mul_div_le _ _
/-- A number's bytes tell it, whatever stands behind them. -/
theorem wrong_vb {x : Nat} (hx : x < 18446744073709551616) (r : List UInt8) : wrongQ (vb x ++ r) = (0, (vb x).length) := by
  have h10 := vb_len10 hx
  have hp := vb_pos x
  have hc := cnt_vb x 10 r h10
  obtain ⟨hl, ho⟩ := last_vb x r
  have h1 : cnt 10 (vb x ++ r) ≠ 10 := by omega
  have h2 : cnt 10 (vb x ++ r) ≠ (vb x ++ r).length := by rw [hc, List.length_append]; omega
  have h3 : ¬ (cnt 10 (vb x ++ r) = 9 ∧ 1 < dat (vb x ++ r) 9) := by
    rintro ⟨h3, h4⟩
    rw [hc] at h3
    rw [h3] at hl
    rw [hl] at h4
    have : x / 128 ^ 9 < 2 := Nat.div_lt_of_lt_mul (by omega)
    omega
  have h4 : ¬ (0 < cnt 10 (vb x ++ r) ∧ dat (vb x ++ r) (cnt 10 (vb x ++ r)) = 0) := by
    rintro ⟨h4, h5⟩
    rw [hc] at h4 h5
    rw [hl] at h5
    rcases ho with ho | ho
    · omega
    · have := Nat.div_pos ho (Nat.pow_pos (by omega))
      omega
  unfold wrongQ
  rw [if_neg h1, if_neg h2, if_neg h3, if_neg h4, hc, Nat.sub_add_cancel hp]
theorem get_vb {s r : List UInt8} {p x : Nat} (hx : x < 18446744073709551616) (h : s.drop p = vb x ++ r) : getQ s p = (x, p + (vb x).length, 0) := by
  unfold getQ
  rw [h, wrong_vb hx r, if_pos rfl, List.take_left, valL_vb]
theorem cnt_cut (x : Nat) : ∀ (k m : Nat), m < (vb x).length → (vb x).length ≤ k → cnt k ((vb x).take m) = m := by
  induction x using Nat.strongRecOn with
  | _ x ih =>
    intro k m hm hk
    obtain ⟨k, rfl⟩ : ∃ j, k = j + 1 := ⟨k - 1, by omega⟩
    cases m with
    | zero => simp [cnt]
    | succ m =>
      rcases Nat.lt_or_ge x 128 with h | h
      · rw [vb_lt h] at hm
        simp at hm
      · rw [vb_ge h, List.length_cons] at hm hk
        rw [vb_ge h, List.take_succ_cons, cnt, if_pos (by rw [u8_of (by omega)]; omega), ih (x / 128) (by omega) k m (by omega) (by omega)]
theorem get_cut {s : List UInt8} {p x m : Nat} (hx : x < 18446744073709551616) (hm : m < (vb x).length) (h : s.drop p = (vb x).take m) : getQ s p = (0, p, 3) := by
  have h10 := vb_len10 hx
  have hc := cnt_cut x 10 m hm h10
  have hw : wrongQ ((vb x).take m) = (3, 0) := by
    unfold wrongQ
    rw [if_neg (by omega), if_pos (by rw [hc, List.length_take]; omega)]
  unfold getQ
  rw [h, hw, if_neg (by decide)]
/-- Bytes of which all but the last say that more follow, and the last is not zero. -/
def tailG : List UInt8 → Prop
  | [] => False
  | [b] => b.toNat < 128 ∧ b.toNat ≠ 0
  | b :: c :: r => 128 ≤ b.toNat ∧ tailG (c :: r)
theorem tailG_vb : ∀ l : List UInt8, tailG l → 0 < valL l ∧ vb (valL l) = l
  | [], h => h.elim
  | [b], h => by
    obtain ⟨h1, h2⟩ := h
    have e : valL [b] = b.toNat := by simp only [valL]; omega
    rw [e, vb_lt h1]
    exact ⟨by omega, by simp⟩
  | b :: c :: r, h => by
    obtain ⟨h1, h2⟩ := h
    obtain ⟨h3, h4⟩ := tailG_vb (c :: r) h2
    have hb := b.toNat_lt
    have e : valL (b :: c :: r) = b.toNat % 128 + 128 * valL (c :: r) := rfl
    rw [e]
    refine ⟨by omega, ?_⟩
    rw [vb_ge (by omega), show (b.toNat % 128 + 128 * valL (c :: r)) / 128 = valL (c :: r) by omega, h4, show (b.toNat % 128 + 128 * valL (c :: r)) % 128 + 128 = b.toNat by omega]
    simp
theorem tailG_cnt : ∀ (k : Nat) (t : List UInt8), cnt k t < k → cnt k t < t.length → dat t (cnt k t) ≠ 0 → tailG (t.take (cnt k t + 1))
  | 0, t, h, _, _ => by omega
  | k + 1, [], _, h, _ => by simp [cnt] at h
  | k + 1, b :: r, h1, h2, h3 => by
    simp only [cnt] at h1 h2 h3 ⊢
    split
    · rename_i hb
      rw [if_pos hb] at h1 h2 h3
      rw [dat_cons] at h3
      have hl : cnt k r < r.length := by simpa using h2
      have ih := tailG_cnt k r (by omega) hl h3
      rw [List.take_succ_cons]
      cases hr : r.take (cnt k r + 1) with
      | nil => rw [hr] at ih; exact ih.elim
      | cons c q => rw [hr] at ih; exact ⟨hb, ih⟩
    · rename_i hb
      rw [if_neg hb] at h3
      simp only [Nat.zero_add, List.take_succ_cons, List.take_zero]
      exact ⟨by omega, by simpa [dat] using h3⟩
/-- Bytes that tell a number are its own. -/
theorem vb_get {s : List UInt8} {p x q : Nat} (hp : p ≤ s.length) (h : getQ s p = (x, q, 0)) : s.drop p = vb x ++ s.drop q ∧ q ≤ s.length := by
  obtain ⟨t, ht⟩ : ∃ t, s.drop p = t := ⟨_, rfl⟩
  have htl : t.length = s.length - p := by rw [← ht, List.length_drop]
  unfold getQ at h
  rw [ht] at h
  by_cases h0 : (wrongQ t).1 = 0
  · rw [if_pos h0] at h
    obtain ⟨h1, h2, h3, h4⟩ := wrong_ok h0
    rw [h1] at h
    obtain ⟨rfl, hq⟩ := Prod.mk.inj h
    obtain ⟨rfl, _⟩ := Prod.mk.inj hq
    have hz : 0 < cnt 10 t → dat t (cnt 10 t) ≠ 0 := fun hc hd => by
      unfold wrongQ at h0
      rw [if_neg (by omega), if_neg (by omega)] at h0
      split at h0
      · cases h0
      rw [if_pos ⟨hc, hd⟩] at h0
      cases h0
    have hv : vb (valL (t.take (cnt 10 t + 1))) = t.take (cnt 10 t + 1) := by
      by_cases hd : dat t (cnt 10 t) = 0
      · have hc : cnt 10 t = 0 := by
          rcases Nat.eq_zero_or_pos (cnt 10 t) with hc | hc
          · exact hc
          · exact absurd hd (hz hc)
        rw [hc] at hd h3 ⊢
        cases t with
        | nil => simp at h3
        | cons b r =>
          have hb : b.toNat = 0 := by simpa [dat] using hd
          simp only [Nat.zero_add, List.take_succ_cons, List.take_zero, valL, hb]
          rw [vb_lt (by omega)]
          have : b = 0 := UInt8.toNat_inj.1 hb
          rw [this]
          rfl
      · exact (tailG_vb _ (tailG_cnt 10 t h2 h3 hd)).2
    rw [ht, hv]
    refine ⟨?_, by omega⟩
    rw [← List.drop_drop, ht]
    exact (List.take_append_drop _ _).symm
  · rw [if_neg h0] at h
    obtain ⟨_, hq⟩ := Prod.mk.inj h
    obtain ⟨_, he⟩ := Prod.mk.inj hq
    exact absurd he h0
end Go.Proofs.Ytodclhiggafkbaa

namespace Go.Proofs.Ytodclhiggafkbaa
open Go.RowKit
set_option linter.unusedVariables false
set_option linter.unusedSimpArgs false
def fld (c : Nat) (e : En) : Nat := if c = 0 then e.id else if c = 1 then e.run else if c = 2 then e.len else e.off
def valE (c : Nat) (a : En) (x : Nat) : Nat := if c = 0 then (a.id + x) % 18446744073709551616 else if c = 1 then x % 4294967296 else if c = 2 then x % 4294967296 else if x = 0 then a.next else x - 1
/-- Two entries that the ones behind them cannot tell apart in a column. -/
def likeE (c : Nat) (a b : En) : Prop := (c = 0 → a.id = b.id) ∧ (c = 3 → a.next = b.next)
theorem fld_put {c : Nat} (hc : c < 4) (a e : En) (x : Nat) : fld c (putQ c a e x) = valE c a x := by
  match c, hc with
  | 0, _ => rfl
  | 1, _ => rfl
  | 2, _ => rfl
  | 3, _ => rfl
theorem fld_put_ne {c d : Nat} (hc : c < 4) (hd : d < 4) (h : d ≠ c) (a e : En) (x : Nat) : fld d (putQ c a e x) = fld d e := by
  match c, hc, d, hd with
  | 0, _, 0, _ => omega
  | 0, _, 1, _ => rfl
  | 0, _, 2, _ => rfl
  | 0, _, 3, _ => rfl
  | 1, _, 0, _ => rfl
  | 1, _, 1, _ => omega
  | 1, _, 2, _ => rfl
  | 1, _, 3, _ => rfl
  | 2, _, 0, _ => rfl
  | 2, _, 1, _ => rfl
  | 2, _, 2, _ => omega
  | 2, _, 3, _ => rfl
  | 3, _, 0, _ => rfl
  | 3, _, 1, _ => rfl
  | 3, _, 2, _ => rfl
  | 3, _, 3, _ => omega
theorem numQ_like {c i : Nat} {a b e f : En} (hc : c < 4) (h : likeE c a b) (hf : fld c e = fld c f) : numQ c i a e = numQ c i b f := by
  obtain ⟨h0, h3⟩ := h
  match c, hc with
  | 0, _ => rw [numQ_0, numQ_0, h0 rfl, show e.id = f.id from hf]
  | 1, _ => rw [numQ_1, numQ_1]; exact hf
  | 2, _ => rw [numQ_2, numQ_2]; exact hf
  | 3, _ => rw [numQ_3, numQ_3, h3 rfl, show e.off = f.off from hf]
theorem errQ_0 (i : Nat) (a : En) (x : Nat) : errQ 0 i a x = if (a.id + x) % 18446744073709551616 < x then 11 else 0 := by unfold errQ; rw [if_pos rfl]
theorem errQ_12 {c : Nat} (h : c = 1 ∨ c = 2) (i : Nat) (a : En) (x : Nat) : errQ c i a x = if 4294967296 ≤ x then 11 else 0 := by unfold errQ; rw [if_neg (by omega), if_pos h]
theorem errQ_3 (i : Nat) (a : En) (x : Nat) : errQ 3 i a x = if i = 0 ∧ x = 0 ∨ 0 < i ∧ 0 < x ∧ x - 1 = a.next then 4 else 0 := by unfold errQ; rw [if_neg (by decide), if_neg (by decide)]
theorem errQ_like {c i x : Nat} {a b : En} (hc : c < 4) (h : likeE c a b) : errQ c i a x = errQ c i b x := by
  obtain ⟨h0, h3⟩ := h
  match c, hc with
  | 0, _ => rw [errQ_0, errQ_0, h0 rfl]
  | 1, _ => rw [errQ_12 (.inl rfl), errQ_12 (.inl rfl)]
  | 2, _ => rw [errQ_12 (.inr rfl), errQ_12 (.inr rfl)]
  | 3, _ => rw [errQ_3, errQ_3, h3 rfl]
theorem valE_like {c x : Nat} {a b : En} (hc : c < 4) (h : likeE c a b) : valE c a x = valE c b x := by
  obtain ⟨h0, h3⟩ := h
  match c, hc with
  | 0, _ => show (a.id + x) % _ = (b.id + x) % _; rw [h0 rfl]
  | 1, _ => rfl
  | 2, _ => rfl
  | 3, _ => show (if x = 0 then a.next else x - 1) = (if x = 0 then b.next else x - 1); rw [h3 rfl]
/-- A number that may be is told by what it makes. -/
theorem num_val {c i x : Nat} {a e : En} (hc : c < 4) (hx : x < 18446744073709551616) (ha : a.ok) (he : errQ c i a x = 0) (hf : fld c e = valE c a x) : numQ c i a e = x := by
  obtain ⟨a1, a2, a3, a4⟩ := ha
  match c, hc with
  | 0, _ =>
    have h1 : e.id = (a.id + x) % 18446744073709551616 := hf
    rw [numQ_0, h1]
    omega
  | 1, _ =>
    have h1 : e.run = x % 4294967296 := hf
    rw [errQ_12 (.inl rfl)] at he
    split at he
    · cases he
    rw [numQ_1, h1]
    omega
  | 2, _ =>
    have h1 : e.len = x % 4294967296 := hf
    rw [errQ_12 (.inr rfl)] at he
    split at he
    · cases he
    rw [numQ_2, h1]
    omega
  | 3, _ =>
    have h1 : e.off = if x = 0 then a.next else x - 1 := hf
    rw [errQ_3] at he
    split at he
    · cases he
    rename_i hne
    rw [numQ_3, h1]
    by_cases hx0 : x = 0
    · rw [if_pos hx0, if_pos ⟨by omega, rfl⟩, hx0]
    · rw [if_neg hx0, if_neg (fun h => hne (.inr ⟨h.1, by omega, h.2⟩))]
      omega
/-- An entry's number may be, and makes it, if it does not stand ahead of the one ahead of it. -/
theorem val_num {c i : Nat} {a e : En} (hc : c < 4) (ha : a.ok) (he : e.ok) (hid : a.id ≤ e.id) (ho : e.off ≤ 1099511627776) : errQ c i a (numQ c i a e) = 0 ∧ valE c a (numQ c i a e) = fld c e := by
  obtain ⟨a1, a2, a3, a4⟩ := ha
  obtain ⟨e1, e2, e3, e4⟩ := he
  match c, hc with
  | 0, _ =>
    have h1 : (e.id + 18446744073709551616 - a.id) % 18446744073709551616 = e.id - a.id := by omega
    rw [numQ_0, errQ_0, h1]
    refine ⟨by rw [if_neg (by omega)], ?_⟩
    show (a.id + (e.id - a.id)) % 18446744073709551616 = e.id
    omega
  | 1, _ =>
    rw [numQ_1, errQ_12 (.inl rfl)]
    exact ⟨by rw [if_neg (by omega)], by show e.run % 4294967296 = e.run; omega⟩
  | 2, _ =>
    rw [numQ_2, errQ_12 (.inr rfl)]
    exact ⟨by rw [if_neg (by omega)], by show e.len % 4294967296 = e.len; omega⟩
  | 3, _ =>
    rw [numQ_3, errQ_3]
    by_cases h : 0 < i ∧ e.off = a.next
    · rw [if_pos h]
      refine ⟨by rw [if_neg (by omega)], ?_⟩
      exact h.2.symm
    · rw [if_neg h, show (e.off + 1) % 18446744073709551616 = e.off + 1 by omega]
      refine ⟨by rw [if_neg (by omega)], ?_⟩
      show (if e.off + 1 = 0 then a.next else e.off + 1 - 1) = e.off
      rw [if_neg (by omega)]
      omega
/-- What two rows have together, up to the j-th number. -/
def Agr (j : Nat) (M L : List En) : Prop := M.length = L.length ∧ ∀ c i, c < 4 → i < L.length → c * L.length + i < j → fld c (atE M i) = fld c (atE L i)
theorem Agr.like {c i : Nat} {M L : List En} (hc : c < 4) (hi : i < L.length) (h : Agr (c * L.length + i) M L) : likeE c (prevE M i) (prevE L i) := by
  rcases Nat.eq_zero_or_pos i with h0 | h0
  · subst h0
    exact ⟨fun _ => rfl, fun _ => rfl⟩
  · have hp : ∀ N : List En, prevE N i = atE N (i - 1) := fun N => by simp [prevE, atE, Nat.ne_of_gt h0]
    rw [hp, hp]
    refine ⟨fun hc0 => ?_, fun hc3 => ?_⟩
    · subst hc0
      exact h.2 0 (i - 1) (by omega) (by omega) (by omega)
    · subst hc3
      have h1 : (atE M (i - 1)).off = (atE L (i - 1)).off := h.2 3 (i - 1) (by omega) (by omega) (by omega)
      have h2 : (atE M (i - 1)).len = (atE L (i - 1)).len := h.2 2 (i - 1) (by omega) (by omega) (by omega)
      simp only [En.next, h1, h2]
theorem atE_set (M : List En) {i : Nat} (y : En) (hi : i < M.length) : atE (M.set i y) i = y := by simp [atE, hi]
theorem atE_set_ne (M : List En) {i k : Nat} (y : En) (h : i ≠ k) : atE (M.set i y) k = atE M k := by simp [atE, h]
theorem Agr.step {c i x : Nat} {M L : List En} (hc : c < 4) (hi : i < L.length) (h : Agr (c * L.length + i) M L) (hv : valE c (prevE M i) x = fld c (atE L i)) : Agr (c * L.length + i + 1) (M.set i (putQ c (prevE M i) (atE M i) x)) L := by
  refine ⟨by rw [List.length_set]; exact h.1, fun d k hd hk hlt => ?_⟩
  by_cases hik : i = k
  · subst hik
    rw [atE_set _ _ (by rw [h.1]; exact hi)]
    by_cases hdc : d = c
    · subst hdc
      rw [fld_put hc]
      exact hv
    · rw [fld_put_ne hc hd hdc]
      refine h.2 d i hd hk ?_
      have : d * L.length ≠ c * L.length := fun he => hdc (Nat.eq_of_mul_eq_mul_right (by omega) he)
      omega
  · rw [atE_set_ne _ _ hik]
    refine h.2 d k hd hk ?_
    have hne : d * L.length + k ≠ c * L.length + i := fun he => by
      have h1 := congrArg (· % L.length) he
      simp only [Nat.mul_comm _ L.length, Nat.mul_add_mod, Nat.mod_eq_of_lt hk, Nat.mod_eq_of_lt hi] at h1
      omega
    omega
theorem Agr.back {c i x : Nat} {M L : List En} (hc : c < 4) (hi : i < L.length) (h : Agr (c * L.length + i + 1) (M.set i (putQ c (prevE M i) (atE M i) x)) L) : Agr (c * L.length + i) M L ∧ valE c (prevE M i) x = fld c (atE L i) := by
  have hl : M.length = L.length := by have := h.1; rwa [List.length_set] at this
  refine ⟨⟨hl, fun d k hd hk hlt => ?_⟩, ?_⟩
  · have h1 := h.2 d k hd hk (by omega)
    by_cases hik : i = k
    · subst hik
      rw [atE_set _ _ (by omega)] at h1
      have hdc : d ≠ c := fun he => by subst he; omega
      rw [fld_put_ne hc hd hdc] at h1
      exact h1
    · rwa [atE_set_ne _ _ hik] at h1
  · have h1 := h.2 c i hc hi (by omega)
    rw [atE_set _ _ (by omega), fld_put hc] at h1
    exact h1
theorem en_ext {a b : En} (h0 : a.id = b.id) (h1 : a.off = b.off) (h2 : a.len = b.len) (h3 : a.run = b.run) : a = b := by
  obtain ⟨a0, a1, a2, a3⟩ := a
  obtain ⟨b0, b1, b2, b3⟩ := b
  simp only at h0 h1 h2 h3
  subst h0 h1 h2 h3
  rfl
theorem Agr.all {M L : List En} (h : Agr (4 * L.length) M L) : M = L := by
  refine List.ext_getElem h.1 fun i h1 h2 => ?_
  have hat : ∀ (N : List En) (hi : i < N.length), N[i] = atE N i := fun N hi => by simp [atE, hi]
  rw [hat M h1, hat L h2]
  have hf : ∀ c, c < 4 → fld c (atE M i) = fld c (atE L i) := fun c hc => h.2 c i hc h2 (by
    have : c * L.length ≤ 3 * L.length := Nat.mul_le_mul_right _ (by omega)
    omega)
  have f0 : (atE M i).id = (atE L i).id := hf 0 (by omega)
  have f1 : (atE M i).run = (atE L i).run := hf 1 (by omega)
  have f2 : (atE M i).len = (atE L i).len := hf 2 (by omega)
  have f3 : (atE M i).off = (atE L i).off := hf 3 (by omega)
  exact en_ext f0 f3 f2 f1
theorem Agr.zero (L : List En) : Agr 0 (List.replicate L.length zeroEn) L := ⟨by simp, fun _ _ _ _ h => by omega⟩
end Go.Proofs.Ytodclhiggafkbaa

namespace Go.Proofs.Ytodclhiggafkbaa
open Go.RowKit
set_option linter.unusedVariables false
set_option linter.unusedSimpArgs false
/-- Entries one behind the other, each of which may be. -/
theorem rowQ_at : ∀ (L : List En) (free : Nat), rowQ free L = 0 → EnsOk L → ∀ i, i < L.length → chkE (atE L i) = 0 ∧ (i = 0 → free ≤ (atE L i).id) ∧ (0 < i → (atE L (i - 1)).id ≤ (atE L i).id)
  | [], _, _, _, i, hi => by simp at hi
  | e :: r, free, h, hE, i, hi => by
    rw [rowQ] at h
    split at h
    · rename_i hc
      split at h
      · cases h
      rename_i hf
      have he : e.ok := hE e List.mem_cons_self
      have hr : EnsOk r := fun x hx => hE x (List.mem_cons_of_mem _ hx)
      cases i with
      | zero => exact ⟨hc, fun _ => by show free ≤ e.id; omega, fun h => by omega⟩
      | succ i =>
        have hi' : i < r.length := by simpa using hi
        obtain ⟨h1, h2, h3⟩ := rowQ_at r _ h hr i hi'
        have e1 : ∀ k, atE (e :: r) (k + 1) = atE r k := fun k => by simp [atE]
        refine ⟨by rw [e1]; exact h1, fun h => by omega, fun _ => ?_⟩
        rw [e1, Nat.add_sub_cancel]
        cases i with
        | zero =>
          have h4 := h2 rfl
          have hl : e.id ≤ lastE e := by
            have := he.wide
            unfold lastE
            rw [if_pos hc]
            omega
          show e.id ≤ _
          omega
        | succ i => rw [e1]; exact h3 (by omega)
    · rename_i hc
      exact absurd h hc
theorem rowC_at {L : List En} (h : rowC L = 0) (hE : EnsOk L) : L.length ≤ 4096 ∧ ∀ i, i < L.length → (prevE L i).id ≤ (atE L i).id ∧ (atE L i).off ≤ 1099511627776 := by
  unfold rowC at h
  split at h
  · cases h
  rename_i hl
  refine ⟨by omega, fun i hi => ?_⟩
  obtain ⟨h1, h2, h3⟩ := rowQ_at L 0 h hE i hi
  refine ⟨?_, (chk_ok (atE_ok hE i) h1).2.2.1⟩
  rcases Nat.eq_zero_or_pos i with h0 | h0
  · subst h0; exact Nat.zero_le _
  · have := h3 h0
    rwa [show prevE L i = atE L (i - 1) by simp [prevE, atE, Nat.ne_of_gt h0]]
theorem numsQ_from {c i : Nat} {L : List En} (hc : c < 4) (hi : i < L.length) : (numsQ L).drop (1 + (c * L.length + i)) = numQ c i (prevE L i) (atE L i) :: (numsQ L).drop (1 + (c * L.length + i + 1)) := by
  have h := numsQ_at (L := L) hc hi
  rw [Nat.add_assoc] at h
  obtain ⟨h1, h2⟩ := List.getElem?_eq_some_iff.1 h
  rw [List.drop_eq_getElem_cons h1, h2, Nat.add_assoc 1]
theorem allB_cons (x : Nat) (l : List Nat) : allB (x :: l) = vb x ++ allB l := by simp [allB]
theorem split_j {j n : Nat} (h : j < 4 * n) : ∃ c i, c < 4 ∧ i < n ∧ j = c * n + i := by
  have hn : 0 < n := by omega
  exact ⟨j / n, j % n, (Nat.div_lt_iff_lt_mul hn).2 h, Nat.mod_lt _ hn, by have := Nat.div_add_mod j n; rw [Nat.mul_comm] at this; exact this.symm⟩
theorem dec_fwd {s rest : List UInt8} {L : List En} (hr : rowC L = 0) (hE : EnsOk L) : ∀ (k j : Nat) (M : List En) (p : Nat), k + j = 4 * L.length → Agr j M L → s.drop p = allB ((numsQ L).drop (1 + j)) ++ rest → p ≤ s.length →
    decG s k j M p = if 0 < rest.length then ([], s.length - rest.length, 4) else (L, s.length, 0)
  | 0, j, M, p, hk, hA, hs, hp => by
    obtain rfl : j = 4 * L.length := by omega
    have hM := hA.all
    subst hM
    have hz : (numsQ M).drop (1 + 4 * M.length) = [] := List.drop_of_length_le (by rw [numsQ_len]; omega)
    rw [hz] at hs
    have hl := congrArg List.length hs
    simp only [allB, List.flatMap_nil, List.nil_append, List.length_drop] at hl
    rw [decG_0]
    by_cases h0 : 0 < rest.length
    · rw [if_pos (by omega), if_pos h0, show p = s.length - rest.length by omega]
    · rw [if_neg (by omega), if_neg (by simpa using hr), if_neg h0]
  | k + 1, j, M, p, hk, hA, hs, hp => by
    obtain ⟨c, i, hc, hi, rfl⟩ := split_j (j := j) (n := L.length) (by omega)
    obtain ⟨hid, ho⟩ := (rowC_at hr hE).2 i hi
    obtain ⟨h1, h2⟩ := val_num (i := i) hc (prevE_ok hE i) (atE_ok hE i) hid ho
    have hlt := numQ_lt (c := c) (i := i) (a := prevE L i) (atE_ok hE i)
    have hlike := hA.like hc hi
    rw [numsQ_from hc hi, allB_cons, List.append_assoc] at hs
    generalize numQ c i (prevE L i) (atE L i) = x at h1 h2 hlt hs
    have hg := get_vb hlt hs
    have hlen := congrArg List.length hs
    rw [List.length_drop, List.length_append] at hlen
    rw [decG_s hA.1 rfl hi hg, errQ_like hc hlike, h1, if_neg (by simp)]
    refine dec_fwd hr hE k _ _ _ (by omega) (hA.step hc hi (by rw [valE_like hc hlike]; exact h2)) ?_ (by omega)
    rw [← List.drop_drop, hs, List.drop_left]
theorem dec_cut {s : List UInt8} {L : List En} (hr : rowC L = 0) (hE : EnsOk L) : ∀ (k j : Nat) (M : List En) (p m : Nat), k + j = 4 * L.length → Agr j M L → m < (allB ((numsQ L).drop (1 + j))).length → s.drop p = (allB ((numsQ L).drop (1 + j))).take m → p ≤ s.length →
    ∃ q, q ≤ s.length ∧ decG s k j M p = ([], q, 3)
  | 0, j, M, p, m, hk, hA, hm, hs, hp => by
    rw [List.drop_of_length_le (by rw [numsQ_len]; omega)] at hm
    simp [allB] at hm
  | k + 1, j, M, p, m, hk, hA, hm, hs, hp => by
    obtain ⟨c, i, hc, hi, rfl⟩ := split_j (j := j) (n := L.length) (by omega)
    obtain ⟨hid, ho⟩ := (rowC_at hr hE).2 i hi
    obtain ⟨h1, h2⟩ := val_num (i := i) hc (prevE_ok hE i) (atE_ok hE i) hid ho
    have hlt := numQ_lt (c := c) (i := i) (a := prevE L i) (atE_ok hE i)
    have hlike := hA.like hc hi
    rw [numsQ_from hc hi, allB_cons] at hs hm
    generalize numQ c i (prevE L i) (atE L i) = x at h1 h2 hlt hs hm
    rw [List.length_append] at hm
    rcases Nat.lt_or_ge m (vb x).length with hx | hx
    · rw [List.take_append_of_le_length (by omega)] at hs
      have hg := get_cut hlt hx hs
      exact ⟨p, hp, decG_e hg (by decide)⟩
    · obtain ⟨m', rfl⟩ : ∃ m', m = (vb x).length + m' := ⟨m - (vb x).length, by omega⟩
      rw [List.take_append, List.take_of_length_le (by omega), Nat.add_sub_cancel_left] at hs
      have hg := get_vb hlt hs
      have hlen := congrArg List.length hs
      rw [List.length_drop, List.length_append] at hlen
      rw [decG_s hA.1 rfl hi hg, errQ_like hc hlike, h1, if_neg (by simp)]
      refine dec_cut hr hE k _ _ _ m' (by omega) (hA.step hc hi (by rw [valE_like hc hlike]; exact h2)) (by omega) ?_ (by omega)
      rw [← List.drop_drop, hs, List.drop_left]
theorem dec_bwd {s : List UInt8} {L : List En} {q n : Nat} : ∀ (k j : Nat) (M : List En) (p : Nat), k + j = 4 * n → M.length = n → EnsOk M → p ≤ s.length → decG s k j M p = (L, q, 0) →
    L.length = n ∧ Agr j M L ∧ rowC L = 0 ∧ q = s.length ∧ s.drop p = allB ((numsQ L).drop (1 + j))
  | 0, j, M, p, hk, hM, hE, hp, h => by
    obtain rfl : j = 4 * n := by omega
    rw [decG_0] at h
    split at h
    · cases h
    rename_i hps
    split at h
    · rename_i hr
      have := congrArg (·.2.2) h
      exact absurd this hr
    rename_i hr
    obtain ⟨rfl, h2⟩ := Prod.mk.inj h
    obtain ⟨rfl, _⟩ := Prod.mk.inj h2
    refine ⟨hM, ⟨rfl, fun _ _ _ _ _ => rfl⟩, by simpa using hr, rfl, ?_⟩
    rw [List.drop_of_length_le (by omega), List.drop_of_length_le (by rw [numsQ_len]; omega)]
    rfl
  | k + 1, j, M, p, hk, hM, hE, hp, h => by
    obtain ⟨c, i, hc, hi, rfl⟩ := split_j (j := j) (n := n) (by omega)
    obtain ⟨x, p', e, hg⟩ : ∃ x p' e, getQ s p = (x, p', e) := ⟨_, _, _, rfl⟩
    obtain ⟨f1, f2, _⟩ := getQ_facts s p hp
    rw [hg] at f1 f2
    simp only at f1 f2
    by_cases he : e = 0
    · subst he
      rw [decG_s hM rfl hi hg] at h
      by_cases hz : errQ c i (prevE M i) x = 0
      · rw [if_neg (by simpa using hz)] at h
        obtain ⟨hL, hA, hr, hq, hs⟩ := dec_bwd (n := n) k (c * n + i + 1) _ _ (by omega) (by simpa using hM) (ens_set hE (putQ_ok (atE_ok hE i) f1)) f2 h
        subst hL
        obtain ⟨hA0, hv⟩ := hA.back hc hi
        have hlike := hA0.like hc hi
        have hnum := num_val (i := i) (e := atE L i) hc f1 (prevE_ok hE i) hz hv.symm
        rw [numQ_like hc hlike rfl] at hnum
        refine ⟨rfl, hA0, hr, hq, ?_⟩
        rw [numsQ_from hc hi, allB_cons, hnum, (vb_get hp hg).1, hs]
      · rw [if_pos hz] at h
        have := congrArg (·.2.2) h
        exact absurd this hz
    · rw [decG_e hg he] at h
      have := congrArg (·.2.2) h
      exact absurd this he
/-- A directory is told by its bytes; with more behind them it is told that they are too many. -/
theorem decQ_enc {L : List En} (hE : EnsOk L) (hr : rowC L = 0) (rest : List UInt8) (hs : sumB (numsQ L) + rest.length ≤ 65536) :
    decQ (allB (numsQ L) ++ rest) = if 0 < rest.length then ([], sumB (numsQ L), 4) else (L, sumB (numsQ L), 0) := by
  obtain ⟨hl, _⟩ := rowC_at hr hE
  have hlen : (allB (numsQ L) ++ rest).length = sumB (numsQ L) + rest.length := by simp [sumB]
  have h0 : (allB (numsQ L) ++ rest).drop 0 = vb L.length ++ (allB ((numsQ L).drop 1) ++ rest) := by
    rw [List.drop_zero, ← List.append_assoc, ← allB_cons]
    rfl
  have hg := get_vb (p := 0) (x := L.length) (by omega) h0
  rw [Nat.zero_add] at hg
  unfold decQ
  rw [if_neg (by omega), hg, if_neg (by simp), if_neg (by simp; omega)]
  rw [dec_fwd (rest := rest) hr hE _ _ _ _ (by simp) (Agr.zero L) (by rw [List.drop_zero] at h0; rw [h0, List.drop_left]) (by rw [hlen]; simp only [sumB, numsQ, allB_cons, List.length_append]; omega)]
  rw [hlen]
  by_cases h : 0 < rest.length
  · rw [if_pos h, if_pos h, Nat.add_sub_cancel]
  · rw [if_neg h, if_neg h, show rest.length = 0 by omega, Nat.add_zero]
theorem decQ_cut {L : List En} (hE : EnsOk L) (hr : rowC L = 0) (m : Nat) (hm : m < sumB (numsQ L)) (hs : sumB (numsQ L) ≤ 65536) : ∃ q, q ≤ m ∧ decQ ((allB (numsQ L)).take m) = ([], q, 3) := by
  obtain ⟨hl, _⟩ := rowC_at hr hE
  have hlen : ((allB (numsQ L)).take m).length = m := by rw [List.length_take]; exact Nat.min_eq_left (by unfold sumB at hm; omega)
  have hall : allB (numsQ L) = vb L.length ++ allB ((numsQ L).drop 1) := by rw [← allB_cons]; rfl
  have hp := vb_pos L.length
  unfold decQ
  rw [if_neg (by omega)]
  rcases Nat.lt_or_ge m (vb L.length).length with hx | hx
  · have hg : getQ ((allB (numsQ L)).take m) 0 = (0, 0, 3) := get_cut (x := L.length) (m := m) (by omega) hx (by rw [List.drop_zero, hall, List.take_append_of_le_length (by omega)])
    rw [hg, if_pos (by decide)]
    exact ⟨0, by omega, rfl⟩
  · have hs0 : ((allB (numsQ L)).take m).drop 0 = vb L.length ++ (allB ((numsQ L).drop 1)).take (m - (vb L.length).length) := by
      rw [List.drop_zero, hall, List.take_append, List.take_of_length_le (by omega)]
    have hg := get_vb (p := 0) (x := L.length) (by omega) hs0
    rw [Nat.zero_add] at hg
    rw [hg, if_neg (by simp), if_neg (by simp; omega)]
    have hml : sumB (numsQ L) = (vb L.length).length + (allB ((numsQ L).drop 1)).length := by unfold sumB; rw [hall, List.length_append]
    obtain ⟨q, h1, h2⟩ := dec_cut (s := (allB (numsQ L)).take m) hr hE (4 * L.length) 0 _ (vb L.length).length (m - (vb L.length).length) (by simp) (Agr.zero L) (by show _ < (allB ((numsQ L).drop 1)).length; omega) (by rw [List.drop_zero] at hs0; rw [hs0, List.drop_left]) (by omega)
    exact ⟨q, by omega, h2⟩
/-- Bytes that tell a directory are its own. -/
theorem enc_decQ {s : List UInt8} {L : List En} {q : Nat} (h : decQ s = (L, q, 0)) : EnsOk L ∧ encQ L = (s, 0) ∧ q = s.length ∧ rowC L = 0 := by
  have hE : EnsOk L := by have := (decQ_ok s).2.1; rw [h] at this; exact this
  obtain ⟨n, p0, e0, hg0⟩ : ∃ n p0 e0, getQ s 0 = (n, p0, e0) := ⟨_, _, _, rfl⟩
  obtain ⟨f1, f2, f3⟩ := getQ_facts s 0 (by omega)
  unfold decQ at h
  rw [hg0] at h f1 f2 f3
  simp only at f1 f2 f3
  split at h
  · cases h
  rename_i hl
  split at h
  · rename_i he
    have := congrArg (·.2.2) h
    exact absurd this he
  rename_i he
  have he : e0 = 0 := by simpa using he
  subst he
  split at h
  · cases h
  rename_i hn
  obtain ⟨h1, h2, h3, h4, h5⟩ := dec_bwd (n := n) (4 * n) 0 _ _ (by simp) (by simp) (ens_zero n) f2 h
  have hs : s = allB (numsQ L) := by
    have := (vb_get (Nat.zero_le _) hg0).1
    rw [List.drop_zero, h5, ← h1, ← allB_cons] at this
    exact this
  refine ⟨hE, ?_, h4, h3⟩
  unfold encQ sumB
  rw [if_pos h3, ← hs, if_neg hl]
theorem encQ_ok {L : List En} (h : (encQ L).2 = 0) : rowC L = 0 ∧ sumB (numsQ L) ≤ 65536 ∧ encQ L = (allB (numsQ L), 0) := by
  unfold encQ at h ⊢
  by_cases h0 : rowC L = 0
  · rw [if_pos h0] at h ⊢
    by_cases h1 : 65536 < sumB (numsQ L)
    · rw [if_pos h1] at h
      cases h
    · rw [if_neg h1]
      exact ⟨h0, by omega, rfl⟩
  · rw [if_neg h0] at h
    exact absurd h h0
theorem encQ_nil {L : List En} (h : (encQ L).2 ≠ 0) : (encQ L).1 = [] := by
  unfold encQ at h ⊢
  split
  · split
    · rfl
    · rename_i h0 h1
      rw [if_pos h0, if_neg h1] at h
      exact absurd rfl h
  · rfl
theorem sumB_300 {L : List En} (hE : EnsOk L) (h : L.length ≤ 300) : sumB (numsQ L) ≤ 12010 := by
  have h1 := allB_len (numsQ_lt hE (by omega))
  rw [numsQ_len] at h1
  unfold sumB
  omega
end Go.Proofs.Ytodclhiggafkbaa
