/- Charts of entries and contents, plain. No conditions. -/
import Derived.Test.YtffahimbmpddpaaGen1
import Derived.Test.YtffahimbmpddpaaGch2
namespace Go.Proofs.Ytffahimbmpddpaa.V
open Go.RowKit
set_option linter.unusedVariables false
set_option linter.unusedSimpArgs false
def mwrQ (e : En) (many : Nat) (data : List UInt8) : Nat := if e.run = 0 then 14 else if data.length < e.off + e.len then 8 else if 2048 < many then 21 else if 65536 < e.len then 5 else 0
def txOf (x : En) (data : List UInt8) : List UInt8 := (data.drop x.off).take x.len
def itsOf (x : En) (data : List UInt8) : List It := (List.range x.run).map fun k => ⟨x.id + k, txOf x data⟩
def mbR (data : List UInt8) : Nat → List It → List En → Nat × List It
  | _, out, [] => (0, out)
  | many, out, x :: r => if mwrQ x (many + x.run) data = 0 then mbR data (many + x.run) (out ++ itsOf x data) r else (mwrQ x (many + x.run) data, [])
def mbQ (L : List En) (data : List UInt8) : Nat × List It := if rowC L = 0 then mbR data 0 [] L else (rowC L, [])
theorem mwr_zero {e : En} {many : Nat} {data : List UInt8} (h : mwrQ e many data = 0) : e.run ≠ 0 ∧ e.off + e.len ≤ data.length ∧ many ≤ 2048 ∧ e.len ≤ 65536 := by
  unfold mwrQ at h
  repeat' split at h
  all_goals first | omega | skip
  all_goals exact ⟨by assumption, by omega, by omega, by omega⟩
theorem its_len (x : En) (data : List UInt8) : (itsOf x data).length = x.run := by simp [itsOf]
theorem its_take {x : En} {data : List UInt8} {k : Nat} (h : k < x.run) : (itsOf x data).take (k + 1) = (itsOf x data).take k ++ [⟨x.id + k, txOf x data⟩] := by
  rw [List.take_add_one]
  congr 1
  simp [itsOf, h]
theorem mbR_ok (data : List UInt8) : ∀ (L : List En) (free many : Nat) (out : List It), EnsOk L → rowQ free L = 0 → Rise out → (∀ e ∈ out, e.id < free ∧ e.id < 6004799503160661 ∧ e.tx ≠ [] ∧ e.tx.length ≤ 65536) → out.length = many → many ≤ 2048 → ∀ O, mbR data many out L = (0, O) → ChOk O
  | [], _, _, out, _, _, hr, ho, hl, hm, O, h => by
    rw [mbR] at h
    injection h with _ h
    subst h
    exact ⟨hr, fun e he => (ho e he).2.1, fun e he => (ho e he).2.2, by omega⟩
  | x :: r, free, many, out, hE, hq, hr, ho, hl, hm, O, h => by
    have hx := hE x List.mem_cons_self
    rw [rowQ] at hq
    split at hq
    · rename_i hc
      split at hq
      · cases hq
      · rename_i hf
        rw [mbR] at h
        split at h
        · rename_i hw
          obtain ⟨w1, w2, w3, w4⟩ := mwr_zero hw
          obtain ⟨c1, c2, c3, c4⟩ := chk_ok hx hc
          have hwide : x.wide = x.run := by unfold En.wide; omega
          have hlast : lastE x + 1 = x.id + x.run := by unfold lastE; rw [if_pos hc, hwide]; omega
          have htx : (txOf x data).length = x.len := by unfold txOf; rw [List.length_take, List.length_drop]; omega
          refine mbR_ok data r (lastE x + 1) (many + x.run) _ (fun e he => hE e (List.mem_cons_of_mem _ he)) hq ?_ (fun e he => ?_) (by rw [List.length_append, its_len, hl]) w3 O h
          · refine List.pairwise_append.2 ⟨hr, List.pairwise_map.2 (List.pairwise_lt_range.imp fun h => by show x.id + _ < x.id + _; omega), fun a ha b hb => ?_⟩
            obtain ⟨k, _, rfl⟩ := List.mem_map.1 hb
            have := (ho a ha).1
            show a.id < x.id + k
            omega
          · rcases List.mem_append.1 he with he | he
            · obtain ⟨h1, h2, h3⟩ := ho e he
              exact ⟨by omega, h2, h3⟩
            · obtain ⟨k, hk, rfl⟩ := List.mem_map.1 he
              have hk := List.mem_range.1 hk
              refine ⟨by show x.id + k < _; omega, by show x.id + k < _; omega, fun hn => ?_, by show (txOf x data).length ≤ _; omega⟩
              have : (txOf x data).length = 0 := by rw [show txOf x data = [] from hn]; rfl
              omega
        · rename_i hw
          injection h with h _
          exact absurd h hw
    · rename_i hc
      exact absurd hq hc
theorem mb_nil {data : List UInt8} : ∀ (L : List En) (many : Nat) (out : List It), (mbR data many out L).1 ≠ 0 → (mbR data many out L).2 = []
  | [], _, _, h => absurd rfl h
  | x :: r, many, out, h => by
    rw [mbR] at h ⊢
    split
    · rename_i hw
      rw [if_pos hw] at h
      exact mb_nil r _ _ h
    · rfl
theorem mb_ok {L : List En} (hE : EnsOk L) (data : List UInt8) : ChOk (mbQ L data).2 := by
  unfold mbQ
  split
  · rename_i hr
    have hq : rowQ 0 L = 0 := by
      unfold rowC at hr
      split at hr
      · cases hr
      · exact hr
    by_cases h0 : (mbR data 0 [] L).1 = 0
    · exact mbR_ok data L 0 0 [] hE hq List.Pairwise.nil (fun e he => by cases he) rfl (by omega) _ (Prod.ext h0 rfl)
    · rw [mb_nil L 0 [] h0]; exact ChOk.nil
  · exact ChOk.nil
end Go.Proofs.Ytffahimbmpddpaa.V
