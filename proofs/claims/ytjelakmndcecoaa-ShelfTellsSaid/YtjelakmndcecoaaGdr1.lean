/- The walks of package dirs: the numbers of a directory. Conditions: the lists are not too long. The walk of package dirs: the numbers of a directory, gone through. Conditions: the lists are not too long. The walks of package dirs: Encode and Size. Conditions: the lists are not too long. The walks of package dirs: Encode; and of the document's answer. Conditions: the lists are not too long. The walks of the document's answer for directories: text, Encode and Size. Conditions: the lists are not too long. -/
import Derived.Test.YtjelakmndcecoaaGen1
namespace Go.Proofs.Ytjelakmndcecoaa
open Go.RowKit
set_option linter.unusedVariables false
set_option linter.unusedSimpArgs false
def zeroEn : En := ⟨0, 0, 0, 0⟩
def prevE (L : List En) (i : Nat) : En := if i = 0 then zeroEn else L.getD (i - 1) zeroEn
def atE (L : List En) (i : Nat) : En := L.getD i zeroEn
/-- The number of an entry in a column. -/
def numQ (c i : Nat) (a e : En) : Nat :=
  if c = 0 then (e.id + 18446744073709551616 - a.id) % 18446744073709551616 else if c = 1 then e.run else if c = 2 then e.len
  else if 0 < i ∧ e.off = a.next then 0 else (e.off + 1) % 18446744073709551616
def colQ (L : List En) (c : Nat) : List Nat := (List.range L.length).map fun i => numQ c i (prevE L i) (atE L i)
def numsQ (L : List En) : List Nat := L.length :: (colQ L 0 ++ (colQ L 1 ++ (colQ L 2 ++ colQ L 3)))
theorem zero_ok : zeroEn.ok := ⟨by decide, by decide, by decide, by decide⟩
theorem atE_ok {L : List En} (h : EnsOk L) (i : Nat) : (atE L i).ok := by
  unfold atE
  rcases Nat.lt_or_ge i L.length with hl | hl
  · rw [List.getD_eq_getElem?_getD, List.getElem?_eq_getElem hl]; exact h _ (List.getElem_mem _)
  · rw [List.getD_eq_getElem?_getD, List.getElem?_eq_none hl]; exact zero_ok
theorem prevE_ok {L : List En} (h : EnsOk L) (i : Nat) : (prevE L i).ok := by
  unfold prevE
  split
  · exact zero_ok
  · exact atE_ok h (i - 1)
theorem atE_at {L : List En} {i : Nat} (h : i < L.length) : L[i]? = some (atE L i) := by simp [atE, h]
theorem prevE_succ (L : List En) (i : Nat) : prevE L (i + 1) = atE L i := by simp [prevE, atE]
theorem dnext_fn (e : En) (h : e.ok) : Fn Try.prog 50 [e.val] [] fun v _ => v = uq e.next := by
  obtain ⟨h1, h2, h3, h4⟩ := h
  refine Fn.enter (N := 9) Try.func50 rfl (by kernel_rfl) rfl (fun w0 => ?_)
  refine awp_seq_region (fun Z hZ => ?_)
  refine sx_box rfl rfl rfl (fun g1 => ?_)
  refine sx_assign rfl rfl ?_
  refine sx_nil (hZ _ _ ?_)
  refine awp_forget [(1, _)] (Kn.cons rfl (Kn.nil)) ?_
  refine awp_seq_region (fun Z hZ => ?_)
  refine sx_fieldAddr rfl tyF65_1 (by first | (simp only [Nat.reduceAdd, Nat.add_zero, Nat.zero_add]; first | done | rfl) | rfl) rfl ?_
  first | refine sx_load 0 rfl rfl tyA35 tyS35 rfl rfl ?_
  refine sx_fieldAddr rfl tyF65_2 (by first | (simp only [Nat.reduceAdd, Nat.add_zero, Nat.zero_add]; first | done | rfl) | rfl) rfl ?_
  first | refine sx_load 0 rfl rfl tyA63 tyS63 rfl rfl ?_
  refine sx_conv Try.underlying63 Try.underlying35 rfl ((e.len : Nat) : Int) (by rw [IntWalk.u64_in _ (by omega)]) rfl ?_
  refine sx_add rfl rfl ((e.next : Nat) : Int) (by rw [← Int.natCast_add, u64_w]; rfl) rfl ?_
  refine sx_assign rfl rfl ?_
  refine sx_nil (hZ _ _ ?_)
  refine awp_forget [(2, _)] (Kn.cons rfl (Kn.nil)) ?_
  refine awp_ret ?_
  repeat (with_reducible (first | refine nx_then_ret ?_ | refine nx_block_ret ?_ | refine nx_scope_ret ?_))
  exact nx_ret1 rfl rfl rfl
end Go.Proofs.Ytjelakmndcecoaa

namespace Go.Proofs.Ytjelakmndcecoaa
open Go.RowKit
set_option linter.unusedVariables false
set_option linter.unusedSimpArgs false
end Go.Proofs.Ytjelakmndcecoaa

namespace Go.Proofs.Ytjelakmndcecoaa
open Go.RowKit
set_option linter.unusedVariables false
set_option linter.unusedSimpArgs false
def sumB (l : List Nat) : Nat := (allB l).length
def sizeQ (L : List En) : Nat := if rowC L = 0 then sumB (numsQ L) else 0
end Go.Proofs.Ytjelakmndcecoaa

namespace Go.Proofs.Ytjelakmndcecoaa
open Go.RowKit
set_option linter.unusedVariables false
set_option linter.unusedSimpArgs false
def encQ (L : List En) : List UInt8 × Nat := if rowC L = 0 then (if 65536 < sumB (numsQ L) then ([], 5) else (allB (numsQ L), 0)) else ([], rowC L)
end Go.Proofs.Ytjelakmndcecoaa

namespace Go.Proofs.Ytjelakmndcecoaa
open Go.RowKit
set_option linter.unusedVariables false
set_option linter.unusedSimpArgs false
def colB (L : List En) (c k : Nat) : List UInt8 := allB ((colQ L c).take k)
end Go.Proofs.Ytjelakmndcecoaa
