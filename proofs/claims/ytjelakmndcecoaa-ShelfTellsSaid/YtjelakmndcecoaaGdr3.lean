/- The walks of dirs.Each, and of what it hands out. Conditions: the text is not too long. The walk of the small example of directories that each law asks. No conditions. What the laws of directories share: arguments. No conditions. Plain: numbers as bytes, there and back; what a directory told of bytes has. No conditions. Plain: directories as bytes, there and back. No conditions. Plain: what is told of a directory's bytes, of fewer, of more; and of which bytes a directory is told. No conditions. -/
import Derived.Test.YtjelakmndcecoaaGdr2
import Derived.Test.YtjelakmndcecoaaGop2
namespace Go.Proofs.Ytjelakmndcecoaa
open Go.RowKit
set_option linter.unusedVariables false
set_option linter.unusedSimpArgs false
end Go.Proofs.Ytjelakmndcecoaa

namespace Go.Proofs.Ytjelakmndcecoaa
open Go.RowKit
set_option linter.unusedVariables false
set_option linter.unusedSimpArgs false
def awL : List En := [⟨1, 0, 5, 1⟩, ⟨300, 5, 1, 0⟩]
def awB : List UInt8 := [2, 1, 171, 2, 1, 0, 5, 1, 1, 0]
end Go.Proofs.Ytjelakmndcecoaa

namespace Go.Proofs.Ytjelakmndcecoaa
open Go.RowKit
set_option linter.unusedVariables false
set_option linter.unusedSimpArgs false
set_option maxRecDepth 100000
end Go.Proofs.Ytjelakmndcecoaa

namespace Go.Proofs.Ytjelakmndcecoaa
open Go.RowKit
set_option linter.unusedVariables false
set_option linter.unusedSimpArgs false
theorem decG_ok {s : List UInt8} : ∀ (k j : Nat) (M : List En) (p : Nat), M.length ≤ 4096 → EnsOk M → p ≤ s.length →
    (decG s k j M p).1.length ≤ 4096 ∧ EnsOk (decG s k j M p).1 ∧ (decG s k j M p).2.1 ≤ s.length ∧ ((decG s k j M p).2.2 ≠ 0 → (decG s k j M p).1 = [])
  | 0, j, M, p, hM, hE, hp => by
    rw [decG_0]
    have he : EnsOk [] := fun e h => by cases h
    split
    · exact ⟨Nat.zero_le _, he, hp, fun _ => rfl⟩
    split
    · exact ⟨Nat.zero_le _, he, Nat.le_refl _, fun _ => rfl⟩
    · exact ⟨hM, hE, Nat.le_refl _, fun h => absurd rfl h⟩
  | k + 1, j, M, p, hM, hE, hp => by
    have he : EnsOk [] := fun e h => by cases h
    obtain ⟨f1, f2, _⟩ := getQ_facts s p hp
    rw [decG]
    split
    · exact ⟨Nat.zero_le _, he, hp, fun _ => rfl⟩
    split
    · exact ⟨Nat.zero_le _, he, hp, fun _ => rfl⟩
    · exact decG_ok k (j + 1) _ _ (by simpa using hM) (ens_set hE (putQ_ok (atE_ok hE _) f1)) f2
theorem decQ_ok (s : List UInt8) : (decQ s).1.length ≤ 4096 ∧ EnsOk (decQ s).1 ∧ (decQ s).2.1 ≤ s.length ∧ ((decQ s).2.2 ≠ 0 → (decQ s).1 = []) := by
  have he : EnsOk [] := fun e h => by cases h
  unfold decQ
  split
  · exact ⟨Nat.zero_le _, he, Nat.zero_le _, fun _ => rfl⟩
  split
  · exact ⟨Nat.zero_le _, he, Nat.zero_le _, fun _ => rfl⟩
  split
  · exact ⟨Nat.zero_le _, he, Nat.zero_le _, fun _ => rfl⟩
  · exact decG_ok _ _ _ _ (by simp; omega) (ens_zero _) (getQ_facts s 0 (by omega)).2.1
/-- Bytes of which all but the last say that more follow, and the last is not zero. -/
def tailG : List UInt8 → Prop
  | [] => False
  | [b] => b.toNat < 128 ∧ b.toNat ≠ 0
  | b :: c :: r => 128 ≤ b.toNat ∧ tailG (c :: r)
end Go.Proofs.Ytjelakmndcecoaa

namespace Go.Proofs.Ytjelakmndcecoaa
open Go.RowKit
set_option linter.unusedVariables false
set_option linter.unusedSimpArgs false
def fld (c : Nat) (e : En) : Nat := if c = 0 then e.id else if c = 1 then e.run else if c = 2 then e.len else e.off
def valE (c : Nat) (a : En) (x : Nat) : Nat := if c = 0 then (a.id + x) % 18446744073709551616 else if c = 1 then x % 4294967296 else if c = 2 then x % 4294967296 else if x = 0 then a.next else x - 1
/-- Two entries that the ones behind them cannot tell apart in a column. -/
def likeE (c : Nat) (a b : En) : Prop := (c = 0 → a.id = b.id) ∧ (c = 3 → a.next = b.next)
theorem fld_put {c : Nat} (hc : c < 4) (a e : En) (x : Nat) : fld c (putQ c a e x) = valE c a x := by
  match c, hc with
  | 0, _ => rfl
  | 1, _ => rfl
  | 2, _ => rfl
  | 3, _ => rfl
theorem fld_put_ne {c d : Nat} (hc : c < 4) (hd : d < 4) (h : d ≠ c) (a e : En) (x : Nat) : fld d (putQ c a e x) = fld d e := by
  match c, hc, d, hd with
  | 0, _, 0, _ => omega
  | 0, _, 1, _ => rfl
  | 0, _, 2, _ => rfl
  | 0, _, 3, _ => rfl
  | 1, _, 0, _ => rfl
  | 1, _, 1, _ => omega
  | 1, _, 2, _ => rfl
  | 1, _, 3, _ => rfl
  | 2, _, 0, _ => rfl
  | 2, _, 1, _ => rfl
  | 2, _, 2, _ => omega
  | 2, _, 3, _ => rfl
  | 3, _, 0, _ => rfl
  | 3, _, 1, _ => rfl
  | 3, _, 2, _ => rfl
  | 3, _, 3, _ => omega
/-- What two rows have together, up to the j-th number. -/
def Agr (j : Nat) (M L : List En) : Prop := M.length = L.length ∧ ∀ c i, c < 4 → i < L.length → c * L.length + i < j → fld c (atE M i) = fld c (atE L i)
theorem atE_set (M : List En) {i : Nat} (y : En) (hi : i < M.length) : atE (M.set i y) i = y := by simp [atE, hi]
theorem atE_set_ne (M : List En) {i k : Nat} (y : En) (h : i ≠ k) : atE (M.set i y) k = atE M k := by simp [atE, h]
theorem Agr.step {c i x : Nat} {M L : List En} (hc : c < 4) (hi : i < L.length) (h : Agr (c * L.length + i) M L) (hv : valE c (prevE M i) x = fld c (atE L i)) : Agr (c * L.length + i + 1) (M.set i (putQ c (prevE M i) (atE M i) x)) L := by
  refine ⟨by rw [List.length_set]; exact h.1, fun d k hd hk hlt => ?_⟩
  by_cases hik : i = k
  · subst hik
    rw [atE_set _ _ (by rw [h.1]; exact hi)]
    by_cases hdc : d = c
    · subst hdc
      rw [fld_put hc]
      exact hv
    · rw [fld_put_ne hc hd hdc]
      refine h.2 d i hd hk ?_
      have : d * L.length ≠ c * L.length := fun he => hdc (Nat.eq_of_mul_eq_mul_right (by omega) he)
      omega
  · rw [atE_set_ne _ _ hik]
    refine h.2 d k hd hk ?_
    have hne : d * L.length + k ≠ c * L.length + i := fun he => by
      have h1 := congrArg (· % L.length) he
      simp only [Nat.mul_comm _ L.length, Nat.mul_add_mod, Nat.mod_eq_of_lt hk, Nat.mod_eq_of_lt hi] at h1
      omega
    omega
theorem Agr.back {c i x : Nat} {M L : List En} (hc : c < 4) (hi : i < L.length) (h : Agr (c * L.length + i + 1) (M.set i (putQ c (prevE M i) (atE M i) x)) L) : Agr (c * L.length + i) M L ∧ valE c (prevE M i) x = fld c (atE L i) := by
  have hl : M.length = L.length := by have := h.1; rwa [List.length_set] at this
  refine ⟨⟨hl, fun d k hd hk hlt => ?_⟩, ?_⟩
  · have h1 := h.2 d k hd hk (by omega)
    by_cases hik : i = k
    · subst hik
      rw [atE_set _ _ (by omega)] at h1
      have hdc : d ≠ c := fun he => by subst he; omega
      rw [fld_put_ne hc hd hdc] at h1
      exact h1
    · rwa [atE_set_ne _ _ hik] at h1
  · have h1 := h.2 c i hc hi (by omega)
    rw [atE_set _ _ (by omega), fld_put hc] at h1
    exact h1
theorem en_ext {a b : En} (h0 : a.id = b.id) (h1 : a.off = b.off) (h2 : a.len = b.len) (h3 : a.run = b.run) : a = b := by
  obtain ⟨a0, a1, a2, a3⟩ := a
  obtain ⟨b0, b1, b2, b3⟩ := b
  simp only at h0 h1 h2 h3
  subst h0 h1 h2 h3
  rfl
theorem Agr.all {M L : List En} (h : Agr (4 * L.length) M L) : M = L := by
  refine List.ext_getElem h.1 fun i h1 h2 => ?_
  have hat : ∀ (N : List En) (hi : i < N.length), N[i] = atE N i := fun N hi => by simp [atE, hi]
  rw [hat M h1, hat L h2]
  have hf : ∀ c, c < 4 → fld c (atE M i) = fld c (atE L i) := fun c hc => h.2 c i hc h2 (by
    have : c * L.length ≤ 3 * L.length := Nat.mul_le_mul_right _ (by omega)
    omega)
  have f0 : (atE M i).id = (atE L i).id := hf 0 (by omega)
  have f1 : (atE M i).run = (atE L i).run := hf 1 (by omega)
  have f2 : (atE M i).len = (atE L i).len := hf 2 (by omega)
  have f3 : (atE M i).off = (atE L i).off := hf 3 (by omega)
  exact en_ext f0 f3 f2 f1
theorem Agr.zero (L : List En) : Agr 0 (List.replicate L.length zeroEn) L := ⟨by simp, fun _ _ _ _ h => by omega⟩
end Go.Proofs.Ytjelakmndcecoaa

namespace Go.Proofs.Ytjelakmndcecoaa
open Go.RowKit
set_option linter.unusedVariables false
set_option linter.unusedSimpArgs false
end Go.Proofs.Ytjelakmndcecoaa
