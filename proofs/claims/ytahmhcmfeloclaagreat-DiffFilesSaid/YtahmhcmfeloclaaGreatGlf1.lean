/- The walks of package leaves: pointers among entries, copies of rows. Conditions: the lists are not too long. The walks of package leaves: rows cut into pieces. Conditions: the lists are not too long. The walk of leaves.Cut. Conditions: the lists are not too long. Plain: a row cut into a root and leaves. The walk of leaves.Split. Conditions: the lists are not too long. The walk of leaves.Split. Conditions: the lists are not too long. The walks of leaves.Join and of what it stands on. Conditions: the lists and texts are not too long. The walk of leaves.Join. Conditions: the lists and texts are not too long. The walks of the document's answer for leaves: Leaves, piece. Conditions: the lists and texts are not too long. The walk of the document's Join. Conditions: the lists and texts are not too long. -/
import Derived.Test.YtahmhcmfeloclaaGreatGdr3
import Derived.Test.YtahmhcmfeloclaaGreatSxZ
import Derived.Test.YtahmhcmfeloclaaGreatSxX
import Derived.Test.YtahmhcmfeloclaaGreatSxS
namespace Go.Proofs.YtahmhcmfeloclaaGreat.V
open Go.RowKit
set_option linter.unusedVariables false
set_option linter.unusedSimpArgs false
def isPtr (e : En) : Bool := decide (e.run = 0)
def hasPtr (L : List En) : Bool := L.any isPtr
theorem pointer_fn (e : En) (h : e.ok) : Fn Tryz.prog 63 [e.val] [] fun v _ => v = .bool (isPtr e) := by
  refine Fn.enter (N := 6) Tryz.func63 rfl (by kernel_rfl) rfl (fun w0 => ?_)

  refine awp_seq_region (fun Z hZ => ?_)
  refine sx_box rfl rfl rfl (fun g1 => ?_)
  refine sx_assign rfl rfl ?_
  refine sx_nil (hZ _ _ ?_)
  refine awp_forget [(1, _)] (Kn.cons rfl (Kn.nil)) ?_
  refine awp_seq_region (fun Z hZ => ?_)
  refine sx_fieldAddr rfl tyF97_3 (by first | (simp only [Nat.reduceAdd, Nat.add_zero, Nat.zero_add]; first | done | rfl) | rfl) rfl ?_
  first | refine sx_load 0 rfl rfl tyA95 tyS95 rfl rfl ?_
  refine sx_eql rfl rfl rfl ?_
  refine sx_assign rfl rfl ?_
  refine sx_nil (hZ _ _ ?_)
  refine awp_forget [(2, _)] (Kn.cons rfl (Kn.nil)) ?_
  refine awp_ret ?_
  exact nx_ret1 rfl rfl (congrArg Value.bool (by rw [Bool.eq_iff_iff]; simp [isPtr]))
theorem index_fn (A : Option Addr) (c : Nat) (L : List En) (T : Heap) (hA : ArgOk A L.length) (hT : 0 < L.length → T = roE A (ecells L)) (hL : L.length ≤ maxLen) (hE : EnsOk L) :
    Fn Tryz.prog 107 [.slice A L.length c, .func (.func 63) #[] #[]] T fun v _ => ∃ i : Int, v = iq i ∧ (0 ≤ i ↔ hasPtr L = true) := by
  have hL' : L.length ≤ 9223372036854775807 := hL
  refine Fn.enter (N := 19) Tryz.func107 rfl (by kernel_rfl) rfl (fun w0 => ?_)

  refine awp_seq_region (fun Z hZ => ?_)
  refine sx_assign rfl rfl ?_
  refine sx_nil (hZ _ _ ?_)
  refine awp_forget [(0, _), (1, _)] (Kn.cons rfl (Kn.cons rfl (Kn.nil))) ?_
  refine awp_seq ?_
  refine awp_seq_region (fun Z hZ => ?_)
  refine sx_move rfl rfl ?_
  refine sx_len Tryz.underlying63 rfl rfl ?_
  refine sx_move rfl rfl ?_
  refine sx_nil (hZ _ _ ?_)
  refine awp_forget [(0, _), (1, _), (7, _), (8, _)] (Kn.cons rfl (Kn.cons rfl (Kn.cons rfl (Kn.cons rfl (Kn.nil))))) ?_
  refine awp_block ?_
  refine awp_loop (ι := Nat) (fun k => [(0, .slice A L.length c), (1, .func (.func 63) #[] #[]), (7, iq (L.length : Nat)), (8, iq (k : Nat))]) (fun _ => T)
    (fun k => k ≤ L.length ∧ hasPtr (L.drop k) = hasPtr L) (fun k => L.length - k) 0 ⟨by simp, rfl⟩ (Kn.cons rfl (Kn.cons rfl (Kn.cons rfl (Kn.cons rfl Kn.nil)))) (HLe.refl _) ?_
  rintro k ⟨hk, hq⟩
  refine awp_seq_region (fun Z hZ => ?_)
  refine sx_lss rfl rfl rfl ?_
  refine sx_nil (hZ _ _ ?_)
  refine awp_forget [(0, _), (1, _), (7, _), (8, _), (9, _)] (Kn.cons rfl (Kn.cons rfl (Kn.cons rfl (Kn.cons rfl (Kn.cons rfl (Kn.nil)))))) ?_
  refine awp_seq (awp_cond rfl (fun h => ?_) (fun h => ?_))
  · have hlt : k < L.length := by simpa using h
    obtain ⟨x, hx⟩ : ∃ x, L[k]? = some x := ⟨_, List.getElem?_eq_getElem hlt⟩
    have hxe : L[k] = x := Option.some.inj ((List.getElem?_eq_getElem hlt).symm.trans hx)
    have hok : x.ok := hE x (List.mem_of_getElem? hx)
    rw [List.drop_eq_getElem_cons hlt, hxe, hasPtr, List.any_cons] at hq
    obtain ⟨g, o, rfl⟩ := hA (by omega)
    obtain rfl := hT (by omega)
    refine awp_skip ?_
    with_reducible refine nx_normal ?_
    refine awp_seq (awp_block ?_)

    refine awp_seq_region (fun Z hZ => ?_)
    refine sx_move rfl rfl ?_
    refine sx_assign rfl rfl ?_
    refine sx_nil (hZ _ _ ?_)
    refine awp_forget [(0, _), (1, _), (5, _), (7, _), (8, _)] (Kn.cons rfl (Kn.cons rfl (Kn.cons rfl (Kn.cons rfl (Kn.cons rfl (Kn.nil)))))) ?_
    refine awp_seq_region (fun Z hZ => ?_)
    refine sx_move rfl rfl ?_
    refine sx_move rfl rfl ?_
    refine sx_move rfl rfl ?_
    refine sx_indexAddr (o + k * 4) Tryz.underlying63 tyS97 rfl rfl (by omega) (by simp) rfl ?_
    refine sx_loadRo 0 rfl rfl (k * 4) rfl tyA97 tyS97 (ecells_all hx) rfl ?_
    refine sx_callFV (caps := []) (vs := [x.val]) [] (pointer_fn x hok) rfl rfl (HLe.sub (List.nil_sublist _)) Ro.nil rfl ?_
    refine sx_nil (hZ _ _ ?_)
    refine awp_forget [(0, _), (1, _), (5, _), (7, _), (8, _), (16, _)] (Kn.cons rfl (Kn.cons rfl (Kn.cons rfl (Kn.cons rfl (Kn.cons rfl (Kn.cons rfl (Kn.nil))))))) ?_
    refine awp_cond rfl (fun hb => ?_) (fun hb => ?_)
    · have hb' : isPtr x = true := hb
      rw [hb', Bool.true_or] at hq
      refine awp_seq_region (fun Z hZ => ?_)
      refine sx_move rfl rfl ?_
      refine sx_assign rfl rfl ?_
      refine sx_nil (hZ _ _ ?_)
      refine awp_forget [(4, _)] (Kn.cons rfl (Kn.nil)) ?_
      refine awp_ret ?_
      repeat (with_reducible (first | refine nx_then_ret ?_ | refine nx_block_ret ?_))
      exact nx_ret1 rfl rfl ⟨(k : Int), rfl, fun _ => hq.symm, fun _ => by omega⟩
    have hb' : isPtr x = false := hb
    rw [hb', Bool.false_or] at hq
    refine awp_skip ?_
    repeat (with_reducible refine nx_block_normal ?_)
    with_reducible refine nx_normal ?_
    refine awp_region (fun Z hZ => ?_)
    refine sx_add rfl rfl ((k + 1 : Nat) : Int) (by rw [IntWalk.i64_in _ (by omega)]; omega) rfl ?_
    refine sx_move rfl rfl ?_
    refine sx_nil (hZ _ _ ?_)
    refine nx_forget [(0, _), (1, _), (7, _), (8, _)] (Kn.cons rfl (Kn.cons rfl (Kn.cons rfl (Kn.cons rfl (Kn.nil))))) ?_
    exact nx_round (k + 1) ⟨by omega, hq⟩ (by omega) (Kn.cons rfl (Kn.cons rfl (Kn.cons rfl (Kn.cons rfl Kn.nil)))) (HLe.refl _)
  · refine awp_exit ?_
    repeat (with_reducible refine nx_then_exit ?_)
    with_reducible refine nx_block_exit ?_
    with_reducible refine nx_normal ?_
    have hke : k = L.length := by simp at h; omega
    subst hke
    rw [List.drop_length] at hq
    refine awp_seq_region (fun Z hZ => ?_)
    refine sx_assign rfl rfl ?_
    refine sx_nil (hZ _ _ ?_)
    refine awp_forget [(4, _)] (Kn.cons rfl (Kn.nil)) ?_
    refine awp_ret ?_
    exact nx_ret1 rfl rfl ⟨-1, rfl, fun h => by omega, fun h => by rw [← hq] at h; simp [hasPtr] at h⟩
theorem contains_fn (A : Option Addr) (c : Nat) (L : List En) (T : Heap) (hA : ArgOk A L.length) (hT : 0 < L.length → T = roE A (ecells L)) (hro : Ro T) (hL : L.length ≤ maxLen) (hE : EnsOk L) :
    Fn Tryz.prog 89 [.slice A L.length c, .func (.func 63) #[] #[]] T fun v _ => v = .bool (hasPtr L) := by
  refine Fn.enter (N := 9) Tryz.func89 rfl (by kernel_rfl) rfl (fun w0 => ?_)

  refine awp_seq_region (fun Z hZ => ?_)
  refine sx_assign rfl rfl ?_
  refine sx_nil (hZ _ _ ?_)
  refine awp_forget [(0, _), (1, _)] (Kn.cons rfl (Kn.cons rfl (Kn.nil))) ?_
  refine awp_seq_region (fun Z hZ => ?_)
  refine sx_move rfl rfl ?_
  refine sx_move rfl rfl ?_
  refine sx_callO T [] (index_fn A c L T hA hT hL hE) rfl (by rw [List.append_nil]; exact HLe.refl _) rfl ?_
  rintro v H' ⟨i, rfl, hi⟩
  refine sx_heap [] (HLe.sub (List.nil_sublist _)) ?_
  refine sx_geq rfl rfl rfl ?_
  refine sx_assign rfl rfl ?_
  refine sx_nil (hZ _ _ ?_)
  refine awp_forget [(4, _)] (Kn.cons rfl (Kn.nil)) ?_
  refine awp_ret ?_
  exact nx_ret1 rfl rfl (congrArg Value.bool (by rw [Bool.eq_iff_iff, ← hi]; simp))
end Go.Proofs.YtahmhcmfeloclaaGreat.V

namespace Go.Proofs.YtahmhcmfeloclaaGreat.V
open Go.RowKit
set_option linter.unusedVariables false
set_option linter.unusedSimpArgs false
def cntP (n z : Nat) : Nat := (n + z - 1) / z
def pAddr (A : Option Addr) (k : Nat) : Option Addr := A.map fun a => ⟨a.block, a.off + k, a.spot⟩
def pcL (L : List En) (z q : Nat) : List En := (L.drop (q * z)).take z
def pcV (A : Option Addr) (n z q : Nat) : Value := .slice (pAddr A (q * z * 4)) (min z (n - q * z)) (min z (n - q * z))
end Go.Proofs.YtahmhcmfeloclaaGreat.V

namespace Go.Proofs.YtahmhcmfeloclaaGreat.V
open Go.RowKit
set_option linter.unusedVariables false
set_option linter.unusedSimpArgs false
/-- Pieces that are rows of one's own. -/
def pcH (us : List (Value × List En)) : Heap := us.flatMap fun x => rowE x.1 97 4 (ecells x.2)
end Go.Proofs.YtahmhcmfeloclaaGreat.V

namespace Go.Proofs.YtahmhcmfeloclaaGreat.V
open Go.RowKit
set_option linter.unusedVariables false
set_option linter.unusedSimpArgs false
def pcs (L : List En) (z : Nat) : List (List En) := (List.range (cntP L.length z)).map (pcL L z)
def textP (ps : List (List En)) : List UInt8 := ps.flatMap fun P => (encQ P).1
def rootE (t : Nat) (P : List En) : En := ⟨(atE P 0).id, t, (encQ P).1.length, 0⟩
def rootR (t : Nat) : List (List En) → List En
  | [] => []
  | P :: r => rootE t P :: rootR (t + (encQ P).1.length) r
def okQ (L : List En) (b : Int) (z : Nat) : Bool := ((pcs L z).all fun P => decide ((encQ P).2 = 0)) && decide ((sizeQ (rootR 0 (pcs L z)) : Int) ≤ b)
def splitG (L : List En) (b : Int) : Nat → Nat → List En × List UInt8 × Nat × Nat
  | 0, _ => ([], [], 0, 15)
  | k + 1, z => if okQ L b z = true then (rootR 0 (pcs L z), textP (pcs L z), z, 0) else splitG L b k (2 * z)
def splitQ (L : List En) (b : Int) : List En × List UInt8 × Nat × Nat :=
  if b < 1 ∨ 16257 < b then ([], [], 0, 2) else if rowC L ≠ 0 then ([], [], 0, rowC L) else if hasPtr L = true then ([], [], 0, 14)
  else if (sizeQ L : Int) ≤ b then (L, [], 0, 0) else splitG L b 13 1
def slA : Value → Option Addr
  | .slice A _ _ => A
  | _ => none
/-- Pieces that are only read. -/
def pcR (us : List (Value × List En)) : Heap := us.flatMap fun x => roE (slA x.1) (ecells x.2)
end Go.Proofs.YtahmhcmfeloclaaGreat.V

namespace Go.Proofs.YtahmhcmfeloclaaGreat.V
open Go.RowKit
set_option linter.unusedVariables false
set_option linter.unusedSimpArgs false
end Go.Proofs.YtahmhcmfeloclaaGreat.V

namespace Go.Proofs.YtahmhcmfeloclaaGreat.V
open Go.RowKit
set_option linter.unusedVariables false
set_option linter.unusedSimpArgs false
def pieceQ (p : En) (t : List UInt8) : List En × Nat :=
  if t.length < p.off + p.len then ([], 8)
  else if (decQ ((t.drop p.off).take p.len)).2.2 ≠ 0 then ([], (decQ ((t.drop p.off).take p.len)).2.2)
  else if hasPtr (decQ ((t.drop p.off).take p.len)).1 = true then ([], 20)
  else if (decQ ((t.drop p.off).take p.len)).1.length = 0 ∨ (atE (decQ ((t.drop p.off).take p.len)).1 0).id ≠ p.id then ([], 10)
  else ((decQ ((t.drop p.off).take p.len)).1, 0)
def joinG (t : List UInt8) : List En → List En → List En × Nat
  | out, [] => if rowC out ≠ 0 then ([], rowC out) else (out, 0)
  | out, x :: r => if isPtr x = true then (if (pieceQ x t).2 ≠ 0 then ([], (pieceQ x t).2) else joinG t (out ++ (pieceQ x t).1) r) else joinG t (out ++ [x]) r
def joinQ (L : List En) (t : List UInt8) : List En × Nat := if rowC L ≠ 0 then ([], rowC L) else joinG t [] L
theorem pieceQ_ok (p : En) (t : List UInt8) : (pieceQ p t).1.length ≤ 4096 ∧ EnsOk (pieceQ p t).1 := by
  have he : EnsOk [] := fun e h => by cases h
  obtain ⟨h1, h2, _⟩ := decQ_ok ((t.drop p.off).take p.len)
  unfold pieceQ
  split
  · exact ⟨Nat.zero_le _, he⟩
  split
  · exact ⟨Nat.zero_le _, he⟩
  split
  · exact ⟨Nat.zero_le _, he⟩
  split
  · exact ⟨Nat.zero_le _, he⟩
  · exact ⟨h1, h2⟩
theorem piece_fn (p : En) (hp : p.ok) (ho : p.off ≤ 1099511627776) (t : List UInt8) (ht : t.length ≤ 1000000) :
    Fn Tryz.prog 64 [p.val, .string (str t)] [] fun v H' => ∃ u, v = .tuple #[u, iq (pieceQ p t).2] ∧ RowOk u (pieceQ p t).1.length ∧ H' = rowE u 97 4 (ecells (pieceQ p t).1) := by
  obtain ⟨p1, p2, p3, p4⟩ := hp
  refine Fn.enter (N := 55) Tryz.func64 rfl (by kernel_rfl) rfl (fun w0 => ?_)

  refine awp_seq_region (fun Z hZ => ?_)
  refine sx_box rfl rfl rfl (fun g1 => ?_)
  refine sx_assign rfl rfl ?_
  refine sx_assign rfl rfl ?_
  refine sx_nil (hZ _ _ ?_)
  refine awp_forget [(1, _), (2, _)] (Kn.cons rfl (Kn.cons rfl (Kn.nil))) ?_
  refine awp_seq ?_
  refine awp_seq_region (fun Z hZ => ?_)
  refine sx_fieldAddr rfl tyF97_1 (by first | (simp only [Nat.reduceAdd, Nat.add_zero, Nat.zero_add]; first | done | rfl) | rfl) rfl ?_
  first | refine sx_load 0 rfl rfl tyA38 tyS38 rfl rfl ?_
  refine sx_fieldAddr rfl tyF97_2 (by first | (simp only [Nat.reduceAdd, Nat.add_zero, Nat.zero_add]; first | done | rfl) | rfl) rfl ?_
  first | refine sx_load 0 rfl rfl tyA95 tyS95 rfl rfl ?_
  refine sx_conv Tryz.underlying95 Tryz.underlying38 rfl ((p.len : Nat) : Int) (by rw [IntWalk.u64_in _ (by omega)]) rfl ?_
  refine sx_add rfl rfl ((p.off + p.len : Nat) : Int) (by rw [IntWalk.u64_in _ (by omega)]; omega) rfl ?_
  refine sx_move rfl rfl ?_
  refine sx_lenS Tryz.underlying9 rfl rfl ?_
  refine sx_conv Tryz.underlying3 Tryz.underlying38 rfl ((t.length : Nat) : Int) (by rw [IntWalk.u64_in _ (by omega)]) rfl ?_
  refine sx_gtr rfl rfl rfl ?_
  refine sx_nil (hZ _ _ ?_)
  refine awp_forget [(1, _), (2, _), (18, _)] (Kn.cons rfl (Kn.cons rfl (Kn.cons rfl (Kn.nil)))) ?_
  refine awp_cond rfl (fun h => ?_) (fun h => ?_)
  · have h1 : t.length < p.off + p.len := by simp at h; omega
    rw [show pieceQ p t = ([], 8) by unfold pieceQ; rw [if_pos h1]]
    refine awp_seq_region (fun Z hZ => ?_)
    refine sx_assign rfl rfl ?_
    refine sx_assign rfl rfl ?_
    refine sx_nil (hZ _ _ ?_)
    refine awp_forget [(4, _), (5, _)] (Kn.cons rfl (Kn.cons rfl (Kn.nil))) ?_
    refine awp_ret ?_
    repeat (with_reducible refine nx_then_ret ?_)
    exact nx_ret2h [] rfl rfl rfl (HLe.sub (List.nil_sublist _)) ⟨_, rfl, RowOk.nil, rfl⟩
  have h1 : ¬ t.length < p.off + p.len := by simp at h; omega
  obtain ⟨s, hs⟩ : ∃ s, (t.drop p.off).take p.len = s := ⟨_, rfl⟩
  have hsl : s.length ≤ 1000000 := by rw [← hs, List.length_take, List.length_drop]; omega
  have hD := ddecode_fn s hsl
  obtain ⟨d1, d2, d3, d4⟩ := decQ_ok s
  obtain ⟨M, hM⟩ : ∃ M, (decQ s).1 = M := ⟨_, rfl⟩
  obtain ⟨e, he⟩ : ∃ e, (decQ s).2.2 = e := ⟨_, rfl⟩
  rw [hM, he] at hD
  rw [hM] at d1 d2
  have hmax : M.length ≤ maxLen := by show _ ≤ 9223372036854775807; omega
  refine awp_skip ?_
  with_reducible refine nx_normal ?_
  refine awp_seq_region (fun Z hZ => ?_)
  refine sx_move rfl rfl ?_
  refine sx_fieldAddr rfl tyF97_1 (by first | (simp only [Nat.reduceAdd, Nat.add_zero, Nat.zero_add]; first | done | rfl) | rfl) rfl ?_
  first | refine sx_load 0 rfl rfl tyA38 tyS38 rfl rfl ?_
  refine sx_fieldAddr rfl tyF97_1 (by first | (simp only [Nat.reduceAdd, Nat.add_zero, Nat.zero_add]; first | done | rfl) | rfl) rfl ?_
  first | refine sx_load 0 rfl rfl tyA38 tyS38 rfl rfl ?_
  refine sx_fieldAddr rfl tyF97_2 (by first | (simp only [Nat.reduceAdd, Nat.add_zero, Nat.zero_add]; first | done | rfl) | rfl) rfl ?_
  first | refine sx_load 0 rfl rfl tyA95 tyS95 rfl rfl ?_
  refine sx_conv Tryz.underlying95 Tryz.underlying38 rfl ((p.len : Nat) : Int) (by rw [IntWalk.u64_in _ (by omega)]) rfl ?_
  refine sx_add rfl rfl ((p.off + p.len : Nat) : Int) (by rw [IntWalk.u64_in _ (by omega)]; omega) rfl ?_
  refine sx_sliceS s Tryz.underlying9 rfl rfl rfl (by omega) (by omega) (by omega) (by rw [← hs]; simp only [Int.toNat_natCast]; rw [Nat.add_sub_cancel_left]) rfl ?_
  refine sx_callO [] [_] hD rfl (HLe.refl _) rfl ?_
  rintro v H' ⟨u, rfl, hu, rfl⟩
  rw [rowE_flt]
  obtain ⟨A1, c1, rfl, hA1, hle1⟩ := hu.ro
  refine sx_heap ([_] ++ rowE (.slice A1 M.length c1) 97 4 (ecells M)) (HLe.swap _ _) ?_
  refine sx_move rfl rfl ?_
  refine sx_extract rfl rfl rfl ?_
  refine sx_extract rfl rfl rfl ?_
  refine sx_extract rfl rfl rfl ?_
  refine sx_assign rfl rfl ?_
  refine sx_assign rfl rfl ?_
  refine sx_assign rfl rfl ?_
  refine sx_nil (hZ _ _ ?_)
  refine awp_forget [(2, _), (6, _), (8, _)] (Kn.cons rfl (Kn.cons rfl (Kn.cons rfl (Kn.nil)))) ?_
  refine awp_seq (awp_block ?_)

  refine awp_seq_region (fun Z hZ => ?_)
  refine sx_move rfl rfl ?_
  refine sx_neq rfl rfl rfl ?_
  refine sx_assign rfl rfl ?_
  refine sx_nil (hZ _ _ ?_)
  refine awp_forget [(2, _), (6, _), (8, _), (34, _)] (Kn.cons rfl (Kn.cons rfl (Kn.cons rfl (Kn.cons rfl (Kn.nil))))) ?_
  refine awp_cond rfl (fun h2 => ?_) (fun h2 => ?_)
  · have he0 : e ≠ 0 := by simp at h2; omega
    rw [show pieceQ p t = ([], e) by unfold pieceQ; rw [if_neg h1, hs, he, if_pos he0]]
    refine awp_seq_region (fun Z hZ => ?_)
    refine sx_move rfl rfl ?_
    refine sx_assign rfl rfl ?_
    refine sx_assign rfl rfl ?_
    refine sx_nil (hZ _ _ ?_)
    refine awp_forget [(4, _), (5, _)] (Kn.cons rfl (Kn.cons rfl (Kn.nil))) ?_
    refine awp_ret ?_
    repeat (with_reducible (first | refine nx_then_ret ?_ | refine nx_block_ret ?_))
    exact nx_ret2h [] rfl rfl rfl (HLe.sub (List.nil_sublist _)) ⟨_, rfl, RowOk.nil, rfl⟩
  have he0 : e = 0 := by simp at h2; omega
  refine awp_seq_region (fun Z hZ => ?_)
  refine sx_move rfl rfl ?_
  refine sx_callV (roE A1 (ecells M)) (contains_fn A1 c1 M _ hA1.arg (fun _ => rfl) (Ro.roE _ _) hmax d2) rfl (row_view hle1 [.own g1 97 p.cells] _ _ _) (Ro.roE _ _) rfl ?_
  refine sx_assign rfl rfl ?_
  refine sx_nil (hZ _ _ ?_)
  refine awp_forget [(2, _), (6, _), (38, _)] (Kn.cons rfl (Kn.cons rfl (Kn.cons rfl (Kn.nil)))) ?_
  refine awp_cond rfl (fun h3 => ?_) (fun h3 => ?_)
  · have h3' : hasPtr M = true := h3
    rw [show pieceQ p t = ([], 20) by unfold pieceQ; rw [if_neg h1, hs, he, if_neg (by simpa using he0), hM, if_pos h3']]
    refine awp_seq_region (fun Z hZ => ?_)
    refine sx_assign rfl rfl ?_
    refine sx_assign rfl rfl ?_
    refine sx_nil (hZ _ _ ?_)
    refine awp_forget [(4, _), (5, _)] (Kn.cons rfl (Kn.cons rfl (Kn.nil))) ?_
    refine awp_ret ?_
    repeat (with_reducible (first | refine nx_then_ret ?_ | refine nx_block_ret ?_))
    exact nx_ret2h [] rfl rfl rfl (HLe.sub (List.nil_sublist _)) ⟨_, rfl, RowOk.nil, rfl⟩
  have h3' : ¬ hasPtr M = true := by rw [show hasPtr M = false from h3]; decide
  have hAs : 0 < M.length → ∃ g, A1 = some ⟨g, 0, none⟩ := fun h0 => by
    obtain ⟨g, c', hh⟩ := hu.some h0
    injection hh with hh _ _
    exact ⟨g, hh⟩
  obtain ⟨gz, hgz⟩ : ∃ g, 0 < M.length → A1 = some ⟨g, 0, none⟩ := by
    rcases Nat.eq_zero_or_pos M.length with h0 | h0
    · exact ⟨0, fun h => by omega⟩
    · obtain ⟨g, hg⟩ := hAs h0
      exact ⟨g, fun _ => hg⟩
  have hpos : ((M.length : Int) == 0) = false → 0 < M.length := fun h => by simp at h; exact List.length_pos_iff.2 h
  refine awq_seq_meet [(6, .slice A1 M.length c1), (41, .bool (decide (M.length = 0 ∨ (atE M 0).id ≠ p.id)))] ([.own g1 97 p.cells] ++ rowE (.slice A1 M.length c1) 97 4 (ecells M)) mixed (by kernel_rfl) (fun Z hZ => ?_) ?_
  · refine sq_move rfl rfl ?_
    refine sq_len Tryz.underlying63 rfl rfl ?_
    refine sq_eql rfl rfl rfl ?_
    refine sq_move rfl rfl ?_
    refine sq_split 45 rfl (fun hb3 => ?_) (fun hb3 => ?_)
    · refine sq_off rfl rfl rfl rfl rfl ?_
      refine sq_off rfl rfl rfl rfl rfl ?_
      refine sq_off rfl rfl rfl rfl rfl ?_
      refine sq_off rfl rfl rfl rfl rfl ?_
      refine sq_off rfl rfl rfl rfl rfl ?_
      refine sq_off rfl rfl rfl rfl rfl ?_
      refine sq_off rfl rfl rfl rfl rfl ?_
      refine sq_pick rfl rfl rfl ?_
      refine sq_assign rfl rfl ?_
      refine sq_nil (hZ _ _ ?_ ?_)
      · exact Kn.cons rfl (Kn.cons (congrArg some (congrArg Value.bool (by first | (simp at hb3; subst hb3; rfl) | (simp at hb3; rw [Bool.eq_iff_iff]; simp [hb3]; omega) | (simp at hb3; rw [Bool.eq_iff_iff]; simp [hb3])))) Kn.nil)
      · exact HLe.refl _
    · refine sq_on rfl rfl rfl ?_
      refine sq_move rfl rfl ?_
      refine sq_on rfl rfl rfl ?_
      refine sq_indexAddr 0 Tryz.underlying63 tyS97 (by rw [hgz (hpos hb3)]; rfl) rfl (by have := hpos hb3; omega) (by simp) rfl ?_
      refine sq_on rfl rfl rfl ?_
      refine sq_fieldAddr rfl tyF97_0 (by first | (simp only [Nat.reduceAdd, Nat.add_zero, Nat.zero_add]; first | done | rfl) | rfl) rfl ?_
      refine sq_on rfl rfl rfl ?_
      refine sq_loadRd (o := 0) (n := M.length) (size := 4) (xs := ecells M) 0 rfl rfl (fun w hw => by have hg := hgz (hpos hb3); subst hg; exact rd_rowE hu (ecells_len M) (fun y hy => List.mem_append_right _ hy) hw) (hpos hb3) tyA38 tyS38 (rd_id (k := 0) (atE_at (hpos hb3))) rfl ?_
      refine sq_on rfl rfl rfl ?_
      refine sq_fieldAddr rfl tyF97_0 (by first | (simp only [Nat.reduceAdd, Nat.add_zero, Nat.zero_add]; first | done | rfl) | rfl) rfl ?_
      refine sq_on rfl rfl rfl ?_
      first | refine sq_load 0 rfl rfl tyA38 tyS38 rfl rfl ?_
      refine sq_on rfl rfl rfl ?_
      refine sq_neq rfl rfl rfl ?_
      refine sq_pick rfl rfl rfl ?_
      refine sq_assign rfl rfl ?_
      refine sq_nil (hZ _ _ ?_ ?_)
      · exact Kn.cons rfl (Kn.cons (congrArg some (congrArg Value.bool (by first | (simp at hb3; subst hb3; rfl) | (simp at hb3; rw [Bool.eq_iff_iff]; simp [hb3]; omega) | (simp at hb3; rw [Bool.eq_iff_iff]; simp [hb3])))) Kn.nil)
      · exact HLe.refl _
  refine awp_cond rfl (fun h4 => ?_) (fun h4 => ?_)
  · have h4' : M.length = 0 ∨ (atE M 0).id ≠ p.id := by simpa using h4
    rw [show pieceQ p t = ([], 10) by unfold pieceQ; rw [if_neg h1, hs, he, if_neg (by simpa using he0), hM, if_neg h3', if_pos h4']]
    refine awp_seq_region (fun Z hZ => ?_)
    refine sx_assign rfl rfl ?_
    refine sx_assign rfl rfl ?_
    refine sx_nil (hZ _ _ ?_)
    refine awp_forget [(4, _), (5, _)] (Kn.cons rfl (Kn.cons rfl (Kn.nil))) ?_
    refine awp_ret ?_
    repeat (with_reducible (first | refine nx_then_ret ?_ | refine nx_block_ret ?_))
    exact nx_ret2h [] rfl rfl rfl (HLe.sub (List.nil_sublist _)) ⟨_, rfl, RowOk.nil, rfl⟩
  have h4' : ¬ (M.length = 0 ∨ (atE M 0).id ≠ p.id) := by simpa using h4
  rw [show pieceQ p t = (M, 0) by unfold pieceQ; rw [if_neg h1, hs, he, if_neg (by simpa using he0), hM, if_neg h3', if_neg h4']]
  refine awp_skip ?_
  repeat (with_reducible refine nx_block_normal ?_)
  with_reducible refine nx_normal ?_
  refine awp_seq_region (fun Z hZ => ?_)
  refine sx_move rfl rfl ?_
  refine sx_assign rfl rfl ?_
  refine sx_assign rfl rfl ?_
  refine sx_nil (hZ _ _ ?_)
  refine awp_forget [(4, _), (5, _)] (Kn.cons rfl (Kn.cons rfl (Kn.nil))) ?_
  refine awp_ret ?_
  exact nx_ret2h _ rfl rfl rfl (HLe.sub (List.sublist_append_right _ _)) ⟨_, rfl, hu, rfl⟩
end Go.Proofs.YtahmhcmfeloclaaGreat.V

namespace Go.Proofs.YtahmhcmfeloclaaGreat.V
open Go.RowKit
set_option linter.unusedVariables false
set_option linter.unusedSimpArgs false
theorem join_fn (A : Option Addr) (c : Nat) (L : List En) (T : Heap) (hA : ArgOk A L.length) (hT : 0 < L.length → T = roE A (ecells L)) (hro : Ro T) (hL : L.length ≤ maxLen) (hE : EnsOk L) (t : List UInt8) (ht : t.length ≤ 1000000) :
    Fn Tryz.prog 39 [.slice A L.length c, .string (str t)] T fun v H' => ∃ u, v = .tuple #[u, iq (joinQ L t).2] ∧ RowOk u (joinQ L t).1.length ∧ H' = rowE u 97 4 (ecells (joinQ L t).1) := by
  have hL' : L.length ≤ 9223372036854775807 := hL
  refine Fn.enter (N := 50) Tryz.func39 rfl (by kernel_rfl) rfl (fun w0 => ?_)

  refine awp_seq_region (fun Z hZ => ?_)
  refine sx_assign rfl rfl ?_
  refine sx_assign rfl rfl ?_
  refine sx_nil (hZ _ _ ?_)
  refine awp_forget [(0, _), (1, _)] (Kn.cons rfl (Kn.cons rfl (Kn.nil))) ?_
  refine awp_seq ?_
  refine awp_seq_region (fun Z hZ => ?_)
  refine sx_move rfl rfl ?_
  refine sx_callPT T (erow_fn A c L T hA hT hro hL hE) rfl (List.Sublist.refl _) hro rfl ?_
  refine sx_assign rfl rfl ?_
  refine sx_nil (hZ _ _ ?_)
  refine awp_forget [(0, _), (1, _), (6, _)] (Kn.cons rfl (Kn.cons rfl (Kn.cons rfl (Kn.nil)))) ?_
  refine awp_seq_region (fun Z hZ => ?_)
  refine sx_move rfl rfl ?_
  refine sx_neq rfl rfl rfl ?_
  refine sx_nil (hZ _ _ ?_)
  refine awp_forget [(0, _), (1, _), (6, _), (16, _)] (Kn.cons rfl (Kn.cons rfl (Kn.cons rfl (Kn.cons rfl (Kn.nil))))) ?_
  refine awp_cond rfl (fun h => ?_) (fun h => ?_)
  · have hr : rowC L ≠ 0 := by simp at h; omega
    rw [show joinQ L t = ([], rowC L) by unfold joinQ; rw [if_pos hr]]
    refine awp_seq_region (fun Z hZ => ?_)
    refine sx_move rfl rfl ?_
    refine sx_assign rfl rfl ?_
    refine sx_assign rfl rfl ?_
    refine sx_nil (hZ _ _ ?_)
    refine awp_forget [(4, _), (5, _)] (Kn.cons rfl (Kn.cons rfl (Kn.nil))) ?_
    refine awp_ret ?_
    repeat (with_reducible refine nx_then_ret ?_)
    exact nx_ret2h [] rfl rfl rfl (HLe.sub (List.nil_sublist _)) ⟨_, rfl, RowOk.nil, rfl⟩
  have hr : rowC L = 0 := by simp at h; omega
  obtain ⟨hl, hat⟩ := rowC_at hr hE
  obtain ⟨D, hD⟩ : ∃ D, joinG t [] L = D := ⟨_, rfl⟩
  rw [show joinQ L t = D by unfold joinQ; rw [if_neg (by simpa using hr), hD]]
  refine awp_skip ?_
  with_reducible refine nx_normal ?_
  refine awp_seq_region (fun Z hZ => ?_)
  refine sx_assign rfl rfl ?_
  refine sx_nil (hZ _ _ ?_)
  refine awp_forget [(0, _), (1, _), (7, _)] (Kn.cons rfl (Kn.cons rfl (Kn.cons rfl (Kn.nil)))) ?_
  refine awp_seq ?_
  refine awp_seq_region (fun Z hZ => ?_)
  refine sx_move rfl rfl ?_
  refine sx_len Tryz.underlying63 rfl rfl ?_
  refine sx_move rfl rfl ?_
  refine sx_nil (hZ _ _ ?_)
  refine awp_forget [(1, _), (7, _), (18, _), (19, _), (20, _)] (Kn.cons rfl (Kn.cons rfl (Kn.cons rfl (Kn.cons rfl (Kn.cons rfl (Kn.nil)))))) ?_
  refine awp_block ?_
  refine awp_loop (ι := Nat × Value × List En) (fun i => [(1, .string (str t)), (7, i.2.1), (18, .slice A L.length c), (19, iq (L.length : Nat)), (20, iq (i.1 : Nat))]) (fun i => T ++ rowE i.2.1 97 4 (ecells i.2.2))
    (fun i => i.1 ≤ L.length ∧ RowOk i.2.1 i.2.2.length ∧ EnsOk i.2.2 ∧ i.2.2.length ≤ i.1 * 4096 ∧ joinG t i.2.2 (L.drop i.1) = D) (fun i => L.length - i.1) (0, .slice none 0 0, []) ⟨by simp, RowOk.nil, fun e he => (by cases he), by simp, hD⟩ (Kn.cons rfl (Kn.cons rfl (Kn.cons rfl (Kn.cons rfl (Kn.cons rfl Kn.nil))))) (by simp [rowE]; exact HLe.refl _) ?_
  rintro ⟨k, v, out⟩ ⟨hk, hv, hO, hol, hq⟩
  simp only at hk hv hO hol hq
  refine awp_seq_region (fun Z hZ => ?_)
  refine sx_lss rfl rfl rfl ?_
  refine sx_nil (hZ _ _ ?_)
  refine awp_forget [(1, _), (7, _), (18, _), (19, _), (20, _), (21, _)] (Kn.cons rfl (Kn.cons rfl (Kn.cons rfl (Kn.cons rfl (Kn.cons rfl (Kn.cons rfl (Kn.nil))))))) ?_
  refine awp_seq (awp_cond rfl (fun h1 => ?_) (fun h1 => ?_))
  · have hlt : k < L.length := by simpa using h1
    have hx := atE_at hlt
    have hxo := atE_ok hE k
    have hoff := (hat k hlt).2
    obtain ⟨x, hxe⟩ : ∃ x, atE L k = x := ⟨_, rfl⟩
    rw [hxe] at hx hxo hoff
    have hdr : L.drop k = x :: L.drop (k + 1) := by rw [List.drop_eq_getElem_cons hlt]; congr 1; exact (List.getElem?_eq_some_iff.1 hx).2
    rw [hdr, joinG] at hq
    obtain ⟨ga, o, rfl⟩ := hA (by omega)
    obtain rfl := hT (by omega)
    refine awp_skip ?_
    with_reducible refine nx_normal ?_
    refine awp_cut (ι := Value × List En) (fun i => [(1, .string (str t)), (7, i.1), (18, .slice (some ⟨ga, o, none⟩) L.length c), (19, iq (L.length : Nat)), (20, iq (k : Nat))]) (fun i => [.ro ga o (ecells L)] ++ rowE i.1 97 4 (ecells i.2)) (fun i => RowOk i.1 i.2.length ∧ EnsOk i.2 ∧ i.2.length ≤ (k + 1) * 4096 ∧ joinG t i.2 (L.drop (k + 1)) = D) ?_ ?_
    · refine awp_block ?_

      refine awp_seq_region (fun Z hZ => ?_)
      refine sx_indexAddr (o + k * 4) Tryz.underlying63 tyS97 rfl rfl (by omega) (by simp) rfl ?_
      refine sx_loadRo 0 rfl rfl (k * 4) rfl tyA97 tyS97 (ecells_all hx) rfl ?_
      refine sx_alloc tyZ97 rfl (fun g1 => ?_)
      refine sx_store 0 rfl rfl rfl tyS97 (by first | (simp only [Value.cells]; first | done | rfl) | rfl) rfl rfl (by first | (simp only [List.length_cons, List.length_nil, Nat.reduceAdd, Nat.zero_add, Nat.add_zero]; first | done | rfl) | rfl) (by first | (simp only [List.take_succ_cons, List.take_zero, List.drop_succ_cons, List.drop_zero, List.cons_append, List.nil_append, List.append_nil, List.length_cons, List.length_nil, Nat.reduceAdd, Nat.zero_add, Nat.add_zero, Value.cells, wrV]; first | done | rfl) | rfl) (by first | (simp only [List.set_cons_succ, List.set_cons_zero]; first | done | rfl) | rfl) ?_
      refine sx_nil (hZ _ _ ?_)
      refine awp_forget [(1, _), (7, _), (9, _), (18, _), (19, _), (20, _)] (Kn.cons rfl (Kn.cons rfl (Kn.cons rfl (Kn.cons rfl (Kn.cons rfl (Kn.cons rfl (Kn.nil))))))) ?_

      refine awp_seq ?_
      refine awp_seq_region (fun Z hZ => ?_)
      refine sx_loadA 0 rfl rfl tyA97 tyS97 (by first | (simp only [List.length_cons, List.length_nil, Nat.reduceAdd, Nat.zero_add, Nat.add_zero]; first | done | rfl) | rfl) (by first | (simp only [List.take_succ_cons, List.take_zero, List.drop_succ_cons, List.drop_zero, List.cons_append, List.nil_append, List.append_nil, List.length_cons, List.length_nil, Nat.reduceAdd, Nat.zero_add, Nat.add_zero, Value.cells, wrV]; first | done | rfl) | rfl) rfl ?_
      refine sx_callP (pointer_fn x hxo) rfl rfl ?_
      refine sx_not rfl rfl ?_
      refine sx_nil (hZ _ _ ?_)
      refine awp_forget [(1, _), (7, _), (9, _), (18, _), (19, _), (20, _), (26, _)] (Kn.cons rfl (Kn.cons rfl (Kn.cons rfl (Kn.cons rfl (Kn.cons rfl (Kn.cons rfl (Kn.cons rfl (Kn.nil)))))))) ?_
      refine awp_cond rfl (fun h2 => ?_) (fun h2 => ?_)
      · have hp : isPtr x = false := by simpa using h2
        rw [hp, if_neg (by decide)] at hq
        refine awp_seq_region (fun Z hZ => ?_)
        refine sx_move rfl rfl ?_
        refine sx_loadA 0 rfl rfl tyA97 tyS97 (by first | (simp only [List.length_cons, List.length_nil, Nat.reduceAdd, Nat.zero_add, Nat.add_zero]; first | done | rfl) | rfl) (by first | (simp only [List.take_succ_cons, List.take_zero, List.drop_succ_cons, List.drop_zero, List.cons_append, List.nil_append, List.append_nil, List.length_cons, List.length_nil, Nat.reduceAdd, Nat.zero_add, Nat.add_zero, Value.cells, wrV]; first | done | rfl) | rfl) rfl ?_
        refine sx_buildSlice Tryz.underlying63 tyS97 tyZ97 rfl rfl rfl rfl (by first | (simp only [List.take_succ_cons, List.take_zero, List.drop_succ_cons, List.drop_zero, List.cons_append, List.nil_append, List.append_nil, List.length_cons, List.length_nil, Nat.reduceAdd, Nat.zero_add, Nat.add_zero, Value.cells, wrV, zrep_one, List.replicate_succ, List.replicate_zero, Nat.reduceMul, Nat.zero_mul]; first | done | rfl) | rfl) rfl (fun g2 => ?_)
        refine sx_appendE [_, _, _] elemEn rfl hv (ecells_len out) rfl (fun w hw => rd_own (i := 0) (xs := x.cells) rfl rfl hw) rfl (by show _ ≤ 9223372036854775807; omega) (by omega) (HLe.refl _) rfl (fun v2 hv2 => ?_)
        rw [show ecells out ++ x.cells = ecells (out ++ [x]) from (fm_snoc _ _).symm]
        refine sx_assign rfl rfl ?_
        refine sx_nil (hZ _ _ ?_)
        refine awp_forget [(1, _), (7, _), (18, _), (19, _), (20, _)] (Kn.cons rfl (Kn.cons rfl (Kn.cons rfl (Kn.cons rfl (Kn.cons rfl (Kn.nil)))))) ?_
        refine awp_exit ?_
        repeat (with_reducible refine nx_then_exit ?_)
        refine nx_block_exit ?_
        refine nx_cut (v2, out ++ [x]) ⟨by simpa using hv2, fun e he => ?_, by simp; omega, hq⟩ (Kn.cons rfl (Kn.cons rfl (Kn.cons rfl (Kn.cons rfl (Kn.cons rfl Kn.nil))))) (HLe.sub (List.Sublist.cons _ (List.Sublist.cons _ (List.Sublist.refl _))))
        rcases List.mem_append.1 he with he | he
        · exact hO e he
        · rw [List.mem_singleton.1 he]; exact hxo
      have hp : isPtr x = true := by simpa using h2
      rw [hp, if_pos rfl] at hq
      have hpc := piece_fn x hxo hoff t ht
      obtain ⟨q1, q2⟩ := pieceQ_ok x t
      obtain ⟨M, hM⟩ : ∃ M, (pieceQ x t).1 = M := ⟨_, rfl⟩
      obtain ⟨e, he⟩ : ∃ e, (pieceQ x t).2 = e := ⟨_, rfl⟩
      rw [hM, he] at hpc hq
      rw [hM] at q1 q2
      refine awp_skip ?_
      with_reducible refine nx_normal ?_
      refine awp_seq_region (fun Z hZ => ?_)
      refine sx_loadA 0 rfl rfl tyA97 tyS97 (by first | (simp only [List.length_cons, List.length_nil, Nat.reduceAdd, Nat.zero_add, Nat.add_zero]; first | done | rfl) | rfl) (by first | (simp only [List.take_succ_cons, List.take_zero, List.drop_succ_cons, List.drop_zero, List.cons_append, List.nil_append, List.append_nil, List.length_cons, List.length_nil, Nat.reduceAdd, Nat.zero_add, Nat.add_zero, Value.cells, wrV]; first | done | rfl) | rfl) rfl ?_
      refine sx_move rfl rfl ?_
      refine sx_callO [] (_ :: .ro ga o (ecells L) :: rowE v 97 4 (ecells out)) hpc rfl (HLe.refl _) rfl ?_
      rintro v H' ⟨u, rfl, hu, rfl⟩
      rw [rowE_flt]
      refine sx_move rfl rfl ?_
      refine sx_extract rfl rfl rfl ?_
      refine sx_extract rfl rfl rfl ?_
      refine sx_assign rfl rfl ?_
      refine sx_assign rfl rfl ?_
      refine sx_nil (hZ _ _ ?_)
      refine awp_forget [(1, _), (7, _), (10, _), (11, _), (18, _), (19, _), (20, _)] (Kn.cons rfl (Kn.cons rfl (Kn.cons rfl (Kn.cons rfl (Kn.cons rfl (Kn.cons rfl (Kn.cons rfl (Kn.nil)))))))) ?_
      refine awp_seq ?_
      refine awp_seq_region (fun Z hZ => ?_)
      refine sx_move rfl rfl ?_
      refine sx_neq rfl rfl rfl ?_
      refine sx_nil (hZ _ _ ?_)
      refine awp_forget [(1, _), (7, _), (10, _), (11, _), (18, _), (19, _), (20, _), (38, _)] (Kn.cons rfl (Kn.cons rfl (Kn.cons rfl (Kn.cons rfl (Kn.cons rfl (Kn.cons rfl (Kn.cons rfl (Kn.cons rfl (Kn.nil))))))))) ?_
      refine awp_cond rfl (fun h3 => ?_) (fun h3 => ?_)
      · have he0 : e ≠ 0 := by simp at h3; omega
        rw [if_pos he0] at hq
        rw [← hq]
        refine awp_seq_region (fun Z hZ => ?_)
        refine sx_move rfl rfl ?_
        refine sx_assign rfl rfl ?_
        refine sx_assign rfl rfl ?_
        refine sx_nil (hZ _ _ ?_)
        refine awp_forget [(4, _), (5, _)] (Kn.cons rfl (Kn.cons rfl (Kn.nil))) ?_
        refine awp_ret ?_
        repeat (with_reducible (first | refine nx_then_ret ?_ | refine nx_block_ret ?_))
        exact nx_ret2h [] rfl rfl rfl (HLe.sub (List.nil_sublist _)) ⟨_, rfl, RowOk.nil, rfl⟩
      have he0 : e = 0 := by simp at h3; omega
      rw [if_neg (by simpa using he0)] at hq
      refine awp_skip ?_
      with_reducible refine nx_normal ?_
      obtain ⟨A2, c2, rfl, hA2⟩ := hu.form
      refine awp_region (fun Z hZ => ?_)
      refine sx_move rfl rfl ?_
      refine sx_move rfl rfl ?_
      refine sx_appendE (rowE (.slice A2 M.length c2) 97 4 (ecells M) ++ [_, _]) elemEn rfl hv (ecells_len out) rfl (fun w hw => rd_rowE hu (ecells_len M) (fun y hy => List.mem_append_left _ hy) hw) (ecells_one M) (by show _ ≤ 9223372036854775807; omega) (by omega) (by rw [List.append_assoc]; exact HLe.refl _) rfl (fun v2 hv2 => ?_)
      rw [show ecells out ++ ecells M = ecells (out ++ M) from by simp [ecells]]
      refine sx_assign rfl rfl ?_
      refine sx_nil (hZ _ _ ?_)
      refine nx_forget [(1, _), (7, _), (18, _), (19, _), (20, _)] (Kn.cons rfl (Kn.cons rfl (Kn.cons rfl (Kn.cons rfl (Kn.cons rfl (Kn.nil)))))) ?_
      repeat (with_reducible refine nx_block_normal ?_)
      refine nx_cut (v2, out ++ M) ⟨by simpa using hv2, fun e he => ?_, by simp; omega, hq⟩ (Kn.cons rfl (Kn.cons rfl (Kn.cons rfl (Kn.cons rfl (Kn.cons rfl Kn.nil))))) (HLe.sub (by rw [List.append_assoc]; exact (List.Sublist.cons _ (List.Sublist.refl _)).trans (List.sublist_append_right _ _)))
      rcases List.mem_append.1 he with he | he
      · exact hO e he
      · exact q2 e he
    · rintro ⟨v2, out2⟩ ⟨hv2, hO2, hol2, hq2⟩
      refine awp_region (fun Z hZ => ?_)
      refine sx_add rfl rfl ((k + 1 : Nat) : Int) (by rw [IntWalk.i64_in _ (by omega)]; omega) rfl ?_
      refine sx_move rfl rfl ?_
      refine sx_nil (hZ _ _ ?_)
      refine nx_forget [(1, _), (7, _), (18, _), (19, _), (20, _)] (Kn.cons rfl (Kn.cons rfl (Kn.cons rfl (Kn.cons rfl (Kn.cons rfl (Kn.nil)))))) ?_
      exact nx_round (k + 1, v2, out2) ⟨by show k + 1 ≤ _; omega, hv2, hO2, hol2, hq2⟩ (by simp; omega) (Kn.cons rfl (Kn.cons rfl (Kn.cons rfl (Kn.cons rfl (Kn.cons rfl Kn.nil))))) (HLe.refl _)
  · refine awp_exit ?_
    repeat (with_reducible refine nx_then_exit ?_)
    with_reducible refine nx_block_exit ?_
    with_reducible refine nx_normal ?_
    have hke : k = L.length := by simp at h1; omega
    subst hke
    rw [List.drop_length, joinG] at hq
    have hom : out.length ≤ maxLen := by show _ ≤ 9223372036854775807; omega
    obtain ⟨A3, c3, rfl, hA3, hle3⟩ := hv.ro
    refine awp_seq ?_
    refine awp_seq_region (fun Z hZ => ?_)
    refine sx_move rfl rfl ?_
    refine sx_callV (roE A3 (ecells out)) (erow_fn A3 c3 out _ hA3.arg (fun _ => rfl) (Ro.roE _ _) hom hO) rfl (row_view hle3 T _ _ _) (Ro.roE _ _) rfl ?_
    refine sx_assign rfl rfl ?_
    refine sx_nil (hZ _ _ ?_)
    refine awp_forget [(7, _), (12, _)] (Kn.cons rfl (Kn.cons rfl (Kn.nil))) ?_
    refine awp_seq_region (fun Z hZ => ?_)
    refine sx_move rfl rfl ?_
    refine sx_neq rfl rfl rfl ?_
    refine sx_nil (hZ _ _ ?_)
    refine awp_forget [(7, _), (12, _), (47, _)] (Kn.cons rfl (Kn.cons rfl (Kn.cons rfl (Kn.nil)))) ?_
    refine awp_cond rfl (fun h2 => ?_) (fun h2 => ?_)
    · have hr2 : rowC out ≠ 0 := by simp at h2; omega
      rw [if_pos hr2] at hq
      rw [← hq]
      refine awp_seq_region (fun Z hZ => ?_)
      refine sx_move rfl rfl ?_
      refine sx_assign rfl rfl ?_
      refine sx_assign rfl rfl ?_
      refine sx_nil (hZ _ _ ?_)
      refine awp_forget [(4, _), (5, _)] (Kn.cons rfl (Kn.cons rfl (Kn.nil))) ?_
      refine awp_ret ?_
      repeat (with_reducible refine nx_then_ret ?_)
      exact nx_ret2h [] rfl rfl rfl (HLe.sub (List.nil_sublist _)) ⟨_, rfl, RowOk.nil, rfl⟩
    have hr2 : rowC out = 0 := by simp at h2; omega
    rw [if_neg (by simpa using hr2)] at hq
    rw [← hq]
    refine awp_skip ?_
    with_reducible refine nx_normal ?_
    refine awp_seq_region (fun Z hZ => ?_)
    refine sx_move rfl rfl ?_
    refine sx_assign rfl rfl ?_
    refine sx_assign rfl rfl ?_
    refine sx_nil (hZ _ _ ?_)
    refine awp_forget [(4, _), (5, _)] (Kn.cons rfl (Kn.cons rfl (Kn.nil))) ?_
    refine awp_ret ?_
    exact nx_ret2h _ rfl rfl rfl (HLe.sub (List.sublist_append_right _ _)) ⟨_, rfl, hv, rfl⟩
end Go.Proofs.YtahmhcmfeloclaaGreat.V

namespace Go.Proofs.YtahmhcmfeloclaaGreat.V
open Go.RowKit
set_option linter.unusedVariables false
set_option linter.unusedSimpArgs false
theorem hasPtr_len (L : List En) : hasPtr L = decide (0 < (L.filter isPtr).length) := by
  induction L with
  | nil => rfl
  | cons x r ih =>
    rw [hasPtr, List.any_cons, List.filter_cons]
    cases hx : isPtr x with
    | true => simp
    | false => simpa [hasPtr] using ih
theorem rleaves_fn (A : Option Addr) (c : Nat) (L : List En) (T : Heap) (hA : ArgOk A L.length) (hT : 0 < L.length → T = roE A (ecells L)) (hro : Ro T) (hL : L.length ≤ 1000000) :
    Fn Tryz.prog 98 [.slice A L.length c] T fun v H' => RowOk v (L.filter isPtr).length ∧ H' = rowE v 109 4 (ecells (L.filter isPtr)) := by
  refine Fn.enter (N := 25) Tryz.func98 rfl (by kernel_rfl) rfl (fun w0 => ?_)

  refine awp_seq_region (fun Z hZ => ?_)
  refine sx_assign rfl rfl ?_
  refine sx_nil (hZ _ _ ?_)
  refine awp_forget [(0, _)] (Kn.cons rfl (Kn.nil)) ?_
  refine awp_seq_region (fun Z hZ => ?_)
  refine sx_assign rfl rfl ?_
  refine sx_nil (hZ _ _ ?_)
  refine awp_forget [(0, _), (3, _)] (Kn.cons rfl (Kn.cons rfl (Kn.nil))) ?_
  refine awp_seq ?_
  refine awp_seq_region (fun Z hZ => ?_)
  refine sx_assign rfl rfl ?_
  refine sx_nil (hZ _ _ ?_)
  refine awp_forget [(0, _), (3, _), (4, _)] (Kn.cons rfl (Kn.cons rfl (Kn.cons rfl (Kn.nil)))) ?_
  refine awp_block ?_
  refine awp_loop (ι := Nat × Value) (fun i => [(0, .slice A L.length c), (3, i.2), (4, iq (i.1 : Nat))]) (fun i => T ++ rowE i.2 109 4 (ecells ((L.take i.1).filter isPtr)))
    (fun i => i.1 ≤ L.length ∧ RowOk i.2 ((L.take i.1).filter isPtr).length) (fun i => L.length - i.1) (0, .slice none 0 0) ⟨by simp, RowOk.nil⟩ (Kn.cons rfl (Kn.cons rfl (Kn.cons rfl Kn.nil))) (by simp [rowE]; exact HLe.refl _) ?_
  rintro ⟨k, v⟩ ⟨hk, hv⟩
  simp only at hk hv
  refine awp_seq ?_
  refine awp_seq_region (fun Z hZ => ?_)
  refine sx_move rfl rfl ?_
  refine sx_move rfl rfl ?_
  refine sx_len Tryz.underlying67 rfl rfl ?_
  refine sx_lss rfl rfl rfl ?_
  refine sx_nil (hZ _ _ ?_)
  refine awp_forget [(0, _), (3, _), (4, _), (8, _)] (Kn.cons rfl (Kn.cons rfl (Kn.cons rfl (Kn.cons rfl (Kn.nil))))) ?_
  refine awp_cond rfl (fun h => ?_) (fun h => ?_)
  · have hlt : k < L.length := by simpa using h
    obtain ⟨x, hx⟩ : ∃ x, L[k]? = some x := ⟨_, List.getElem?_eq_getElem hlt⟩
    have hfl : ((L.take k).filter isPtr).length ≤ k := by
      refine Nat.le_trans (List.length_filter_le _ _) ?_
      rw [List.length_take]
      omega
    have htk : (L.take (k + 1)).filter isPtr = (L.take k).filter isPtr ++ (if isPtr x = true then [x] else []) := by
      rw [List.take_add_one, hx, List.filter_append]
      congr 1
      simp only [Option.toList, List.filter_cons, List.filter_nil]
    obtain ⟨g, o, rfl⟩ := hA (by omega)
    obtain rfl := hT (by omega)
    refine awp_skip ?_
    with_reducible refine nx_normal ?_
    refine awp_cut (ι := Value) (fun v => [(0, .slice (some ⟨g, o, none⟩) L.length c), (3, v), (4, iq (k : Nat))]) (fun v => [.ro g o (ecells L)] ++ rowE v 109 4 (ecells ((L.take (k + 1)).filter isPtr))) (fun v => RowOk v ((L.take (k + 1)).filter isPtr).length) ?_ ?_
    · refine awp_block ?_

      refine awp_seq_region (fun Z hZ => ?_)
      refine sx_move rfl rfl ?_
      refine sx_move rfl rfl ?_
      refine sx_indexAddr (o + k * 4) Tryz.underlying67 tyS109 rfl rfl (by omega) (by simp) rfl ?_
      refine sx_fieldAddr rfl tyF109_3 (by first | (simp only [Nat.reduceAdd, Nat.add_zero, Nat.zero_add]; first | done | rfl) | rfl) rfl ?_
      refine sx_loadRo 0 rfl rfl (k * 4 + 3) rfl tyA95 tyS95 (rd_run hx) rfl ?_
      refine sx_eql rfl rfl rfl ?_
      refine sx_nil (hZ _ _ ?_)
      refine awp_forget [(0, _), (3, _), (4, _), (16, _)] (Kn.cons rfl (Kn.cons rfl (Kn.cons rfl (Kn.cons rfl (Kn.nil))))) ?_
      refine awp_cond rfl (fun h1 => ?_) (fun h1 => ?_)
      · have hp : isPtr x = true := by simp at h1; simp [isPtr]; omega
        rw [hp, if_pos rfl] at htk
        refine awp_region (fun Z hZ => ?_)
        refine sx_move rfl rfl ?_
        refine sx_move rfl rfl ?_
        refine sx_move rfl rfl ?_
        refine sx_indexAddr (o + k * 4) Tryz.underlying67 tyS109 rfl rfl (by omega) (by simp) rfl ?_
        refine sx_loadRo 0 rfl rfl (k * 4) rfl tyA109 tyS109 (ecells_all hx) rfl ?_
        refine sx_buildSlice Tryz.underlying67 tyS109 tyZ109 rfl rfl rfl rfl (by first | (simp only [List.take_succ_cons, List.take_zero, List.drop_succ_cons, List.drop_zero, List.cons_append, List.nil_append, List.append_nil, List.length_cons, List.length_nil, Nat.reduceAdd, Nat.zero_add, Nat.add_zero, Value.cells, wrV, zrep_one, List.replicate_succ, List.replicate_zero, Nat.reduceMul, Nat.zero_mul]; first | done | rfl) | rfl) rfl (fun g1 => ?_)
        refine sx_appendE [_, _] elemEnR rfl hv (ecells_len _) rfl (fun w hw => rd_own (i := 0) (xs := x.cells) rfl rfl hw) rfl (by show _ ≤ 9223372036854775807; omega) (by omega) (HLe.refl _) rfl (fun v2 hv2 => ?_)
        refine sx_assign rfl rfl ?_
        refine sx_nil (hZ _ _ ?_)
        refine nx_forget [(0, _), (3, _), (4, _)] (Kn.cons rfl (Kn.cons rfl (Kn.cons rfl (Kn.nil)))) ?_
        repeat (with_reducible refine nx_block_normal ?_)
        refine nx_cut v2 (by rw [htk]; simpa using hv2) (Kn.cons rfl (Kn.cons rfl (Kn.cons rfl Kn.nil))) ?_
        rw [htk, show ecells ((L.take k).filter isPtr ++ [x]) = ecells ((L.take k).filter isPtr) ++ x.cells from fm_snoc _ _]
        exact HLe.drop 1 rfl
      · have hp : isPtr x = false := by simp at h1; simp [isPtr]; omega
        rw [hp, if_neg (by decide), List.append_nil] at htk
        refine awp_skip ?_
        repeat (with_reducible refine nx_block_normal ?_)
        refine nx_cut v (by rw [htk]; exact hv) (Kn.cons rfl (Kn.cons rfl (Kn.cons rfl Kn.nil))) ?_
        rw [htk]
        exact HLe.refl _
    · rintro v2 hv2
      refine awp_region (fun Z hZ => ?_)
      refine sx_move rfl rfl ?_
      refine sx_add rfl rfl ((k + 1 : Nat) : Int) (by rw [IntWalk.i64_in _ (by omega)]; omega) rfl ?_
      refine sx_assign rfl rfl ?_
      refine sx_nil (hZ _ _ ?_)
      refine nx_forget [(0, _), (3, _), (4, _)] (Kn.cons rfl (Kn.cons rfl (Kn.cons rfl (Kn.nil)))) ?_
      exact nx_round (k + 1, v2) ⟨by show k + 1 ≤ _; omega, hv2⟩ (by simp; omega) (Kn.cons rfl (Kn.cons rfl (Kn.cons rfl Kn.nil))) (HLe.refl _)
  · refine awp_exit ?_
    repeat (with_reducible refine nx_then_exit ?_)
    with_reducible refine nx_block_exit ?_
    with_reducible refine nx_normal ?_
    have hke : k = L.length := by simp at h; omega
    subst hke
    rw [List.take_length] at hv ⊢
    refine awp_seq_region (fun Z hZ => ?_)
    refine sx_move rfl rfl ?_
    refine sx_assign rfl rfl ?_
    refine sx_nil (hZ _ _ ?_)
    refine awp_forget [(2, _)] (Kn.cons rfl (Kn.nil)) ?_
    refine awp_ret ?_
    exact nx_ret1h _ rfl rfl (HLe.sub (List.sublist_append_right _ _)) ⟨hv, rfl⟩
theorem rpiece_fn (p : En) (hp : p.ok) (ho : p.off ≤ 1099511627776) (t : List UInt8) (ht : t.length ≤ 1000000) :
    Fn Tryz.prog 71 [p.val, .string (str t)] [] fun v H' => ∃ u, v = .tuple #[u, iq (pieceQ p t).2] ∧ RowOk u (pieceQ p t).1.length ∧ H' = rowE u 109 4 (ecells (pieceQ p t).1) := by
  obtain ⟨p1, p2, p3, p4⟩ := hp
  refine Fn.enter (N := 54) Tryz.func71 rfl (by kernel_rfl) rfl (fun w0 => ?_)

  refine awp_seq_region (fun Z hZ => ?_)
  refine sx_box rfl rfl rfl (fun g1 => ?_)
  refine sx_assign rfl rfl ?_
  refine sx_assign rfl rfl ?_
  refine sx_nil (hZ _ _ ?_)
  refine awp_forget [(1, _), (2, _)] (Kn.cons rfl (Kn.cons rfl (Kn.nil))) ?_
  refine awp_seq ?_
  refine awp_seq_region (fun Z hZ => ?_)
  refine sx_fieldAddr rfl tyF109_1 (by first | (simp only [Nat.reduceAdd, Nat.add_zero, Nat.zero_add]; first | done | rfl) | rfl) rfl ?_
  first | refine sx_load 0 rfl rfl tyA38 tyS38 rfl rfl ?_
  refine sx_fieldAddr rfl tyF109_2 (by first | (simp only [Nat.reduceAdd, Nat.add_zero, Nat.zero_add]; first | done | rfl) | rfl) rfl ?_
  first | refine sx_load 0 rfl rfl tyA95 tyS95 rfl rfl ?_
  refine sx_conv Tryz.underlying95 Tryz.underlying38 rfl ((p.len : Nat) : Int) (by rw [IntWalk.u64_in _ (by omega)]) rfl ?_
  refine sx_add rfl rfl ((p.off + p.len : Nat) : Int) (by rw [IntWalk.u64_in _ (by omega)]; omega) rfl ?_
  refine sx_move rfl rfl ?_
  refine sx_lenS Tryz.underlying9 rfl rfl ?_
  refine sx_conv Tryz.underlying3 Tryz.underlying38 rfl ((t.length : Nat) : Int) (by rw [IntWalk.u64_in _ (by omega)]) rfl ?_
  refine sx_gtr rfl rfl rfl ?_
  refine sx_nil (hZ _ _ ?_)
  refine awp_forget [(1, _), (2, _), (18, _)] (Kn.cons rfl (Kn.cons rfl (Kn.cons rfl (Kn.nil)))) ?_
  refine awp_cond rfl (fun h => ?_) (fun h => ?_)
  · have h1 : t.length < p.off + p.len := by simp at h; omega
    rw [show pieceQ p t = ([], 8) by unfold pieceQ; rw [if_pos h1]]
    refine awp_seq_region (fun Z hZ => ?_)
    refine sx_assign rfl rfl ?_
    refine sx_assign rfl rfl ?_
    refine sx_nil (hZ _ _ ?_)
    refine awp_forget [(4, _), (5, _)] (Kn.cons rfl (Kn.cons rfl (Kn.nil))) ?_
    refine awp_ret ?_
    repeat (with_reducible refine nx_then_ret ?_)
    exact nx_ret2h [] rfl rfl rfl (HLe.sub (List.nil_sublist _)) ⟨_, rfl, RowOk.nil, rfl⟩
  have h1 : ¬ t.length < p.off + p.len := by simp at h; omega
  obtain ⟨s, hs⟩ : ∃ s, (t.drop p.off).take p.len = s := ⟨_, rfl⟩
  have hsl : s.length ≤ 1000000 := by rw [← hs, List.length_take, List.length_drop]; omega
  have hD := rdecode_fn s hsl
  obtain ⟨d1, d2, d3, d4⟩ := decQ_ok s
  obtain ⟨M, hM⟩ : ∃ M, (decQ s).1 = M := ⟨_, rfl⟩
  obtain ⟨e, he⟩ : ∃ e, (decQ s).2.2 = e := ⟨_, rfl⟩
  rw [hM, he] at hD
  rw [hM] at d1 d2
  have hfl : (M.filter isPtr).length ≤ M.length := List.length_filter_le _ _
  have hhp := hasPtr_len M
  refine awp_skip ?_
  with_reducible refine nx_normal ?_
  refine awp_seq_region (fun Z hZ => ?_)
  refine sx_move rfl rfl ?_
  refine sx_fieldAddr rfl tyF109_1 (by first | (simp only [Nat.reduceAdd, Nat.add_zero, Nat.zero_add]; first | done | rfl) | rfl) rfl ?_
  first | refine sx_load 0 rfl rfl tyA38 tyS38 rfl rfl ?_
  refine sx_fieldAddr rfl tyF109_1 (by first | (simp only [Nat.reduceAdd, Nat.add_zero, Nat.zero_add]; first | done | rfl) | rfl) rfl ?_
  first | refine sx_load 0 rfl rfl tyA38 tyS38 rfl rfl ?_
  refine sx_fieldAddr rfl tyF109_2 (by first | (simp only [Nat.reduceAdd, Nat.add_zero, Nat.zero_add]; first | done | rfl) | rfl) rfl ?_
  first | refine sx_load 0 rfl rfl tyA95 tyS95 rfl rfl ?_
  refine sx_conv Tryz.underlying95 Tryz.underlying38 rfl ((p.len : Nat) : Int) (by rw [IntWalk.u64_in _ (by omega)]) rfl ?_
  refine sx_add rfl rfl ((p.off + p.len : Nat) : Int) (by rw [IntWalk.u64_in _ (by omega)]; omega) rfl ?_
  refine sx_sliceS s Tryz.underlying9 rfl rfl rfl (by omega) (by omega) (by omega) (by rw [← hs]; simp only [Int.toNat_natCast]; rw [Nat.add_sub_cancel_left]) rfl ?_
  refine sx_callO [] [_] hD rfl (HLe.refl _) rfl ?_
  rintro v H' ⟨u, rfl, hu, rfl⟩
  rw [rowE_flt]
  obtain ⟨A1, c1, rfl, hA1, hle1⟩ := hu.ro
  refine sx_heap ([_] ++ rowE (.slice A1 M.length c1) 109 4 (ecells M)) (HLe.swap _ _) ?_
  refine sx_move rfl rfl ?_
  refine sx_extract rfl rfl rfl ?_
  refine sx_extract rfl rfl rfl ?_
  refine sx_extract rfl rfl rfl ?_
  refine sx_assign rfl rfl ?_
  refine sx_assign rfl rfl ?_
  refine sx_assign rfl rfl ?_
  refine sx_nil (hZ _ _ ?_)
  refine awp_forget [(2, _), (6, _), (8, _)] (Kn.cons rfl (Kn.cons rfl (Kn.cons rfl (Kn.nil)))) ?_

  refine awp_seq ?_
  refine awp_seq_region (fun Z hZ => ?_)
  refine sx_move rfl rfl ?_
  refine sx_neq rfl rfl rfl ?_
  refine sx_nil (hZ _ _ ?_)
  refine awp_forget [(2, _), (6, _), (8, _), (35, _)] (Kn.cons rfl (Kn.cons rfl (Kn.cons rfl (Kn.cons rfl (Kn.nil))))) ?_
  refine awp_cond rfl (fun h2 => ?_) (fun h2 => ?_)
  · have he0 : e ≠ 0 := by simp at h2; omega
    rw [show pieceQ p t = ([], e) by unfold pieceQ; rw [if_neg h1, hs, he, if_pos he0]]
    refine awp_seq_region (fun Z hZ => ?_)
    refine sx_move rfl rfl ?_
    refine sx_assign rfl rfl ?_
    refine sx_assign rfl rfl ?_
    refine sx_nil (hZ _ _ ?_)
    refine awp_forget [(4, _), (5, _)] (Kn.cons rfl (Kn.cons rfl (Kn.nil))) ?_
    refine awp_ret ?_
    repeat (with_reducible refine nx_then_ret ?_)
    exact nx_ret2h [] rfl rfl rfl (HLe.sub (List.nil_sublist _)) ⟨_, rfl, RowOk.nil, rfl⟩
  have he0 : e = 0 := by simp at h2; omega
  refine awp_skip ?_
  with_reducible refine nx_normal ?_
  refine awp_seq ?_
  refine awp_seq_region (fun Z hZ => ?_)
  refine sx_move rfl rfl ?_
  refine sx_callVU (roE A1 (ecells M)) (rleaves_fn A1 c1 M _ hA1.arg (fun _ => rfl) (Ro.roE _ _) (by omega)) rfl (row_view hle1 [.own g1 109 p.cells] _ _ _) (Ro.roE _ _) rfl ?_
  rintro v H' ⟨hv, rfl⟩
  refine sx_heap ([.own g1 109 p.cells] ++ rowE (.slice A1 M.length c1) 109 4 (ecells M)) (HLe.sub (List.sublist_append_right _ _)) ?_
  obtain ⟨A5, c5, rfl, _⟩ := hv.form
  refine sx_len Tryz.underlying67 rfl rfl ?_
  refine sx_gtr rfl rfl rfl ?_
  refine sx_nil (hZ _ _ ?_)
  refine awp_forget [(2, _), (6, _), (40, _)] (Kn.cons rfl (Kn.cons rfl (Kn.cons rfl (Kn.nil)))) ?_
  refine awp_cond rfl (fun h3 => ?_) (fun h3 => ?_)
  · have h3' : hasPtr M = true := by rw [hhp]; simpa using h3
    rw [show pieceQ p t = ([], 20) by unfold pieceQ; rw [if_neg h1, hs, he, if_neg (by simpa using he0), hM, if_pos h3']]
    refine awp_seq_region (fun Z hZ => ?_)
    refine sx_assign rfl rfl ?_
    refine sx_assign rfl rfl ?_
    refine sx_nil (hZ _ _ ?_)
    refine awp_forget [(4, _), (5, _)] (Kn.cons rfl (Kn.cons rfl (Kn.nil))) ?_
    refine awp_ret ?_
    repeat (with_reducible refine nx_then_ret ?_)
    exact nx_ret2h [] rfl rfl rfl (HLe.sub (List.nil_sublist _)) ⟨_, rfl, RowOk.nil, rfl⟩
  have h3' : ¬ hasPtr M = true := by rw [hhp]; simpa using h3
  refine awp_skip ?_
  with_reducible refine nx_normal ?_
  have hAs : 0 < M.length → ∃ g, A1 = some ⟨g, 0, none⟩ := fun h0 => by
    obtain ⟨g, c', hh⟩ := hu.some h0
    injection hh with hh _ _
    exact ⟨g, hh⟩
  obtain ⟨gz, hgz⟩ : ∃ g, 0 < M.length → A1 = some ⟨g, 0, none⟩ := by
    rcases Nat.eq_zero_or_pos M.length with h0 | h0
    · exact ⟨0, fun h => by omega⟩
    · obtain ⟨g, hg⟩ := hAs h0
      exact ⟨g, fun _ => hg⟩
  have hpos : ((M.length : Int) == 0) = false → 0 < M.length := fun h => by simp at h; exact List.length_pos_iff.2 h
  refine awp_seq ?_
  refine awq_seq_meet [(6, .slice A1 M.length c1), (52, .bool (decide (M.length = 0 ∨ (atE M 0).id ≠ p.id)))] ([.own g1 109 p.cells] ++ rowE (.slice A1 M.length c1) 109 4 (ecells M)) mixed (by kernel_rfl) (fun Z hZ => ?_) ?_
  · refine sq_move rfl rfl ?_
    refine sq_len Tryz.underlying67 rfl rfl ?_
    refine sq_eql rfl rfl rfl ?_
    refine sq_move rfl rfl ?_
    refine sq_split 44 rfl (fun hb3 => ?_) (fun hb3 => ?_)
    · refine sq_off rfl rfl rfl rfl rfl ?_
      refine sq_off rfl rfl rfl rfl rfl ?_
      refine sq_off rfl rfl rfl rfl rfl ?_
      refine sq_off rfl rfl rfl rfl rfl ?_
      refine sq_off rfl rfl rfl rfl rfl ?_
      refine sq_off rfl rfl rfl rfl rfl ?_
      refine sq_off rfl rfl rfl rfl rfl ?_
      refine sq_pick rfl rfl rfl ?_
      refine sq_nil (hZ _ _ ?_ ?_)
      · exact Kn.cons rfl (Kn.cons (congrArg some (congrArg Value.bool (by first | (simp at hb3; subst hb3; rfl) | (simp at hb3; rw [Bool.eq_iff_iff]; simp [hb3]; omega) | (simp at hb3; rw [Bool.eq_iff_iff]; simp [hb3])))) Kn.nil)
      · exact HLe.refl _
    · refine sq_on rfl rfl rfl ?_
      refine sq_move rfl rfl ?_
      refine sq_on rfl rfl rfl ?_
      refine sq_indexAddr 0 Tryz.underlying67 tyS109 (by rw [hgz (hpos hb3)]; rfl) rfl (by have := hpos hb3; omega) (by simp) rfl ?_
      refine sq_on rfl rfl rfl ?_
      refine sq_fieldAddr rfl tyF109_0 (by first | (simp only [Nat.reduceAdd, Nat.add_zero, Nat.zero_add]; first | done | rfl) | rfl) rfl ?_
      refine sq_on rfl rfl rfl ?_
      refine sq_loadRd (o := 0) (n := M.length) (size := 4) (xs := ecells M) 0 rfl rfl (fun w hw => by have hg := hgz (hpos hb3); subst hg; exact rd_rowE hu (ecells_len M) (fun y hy => List.mem_append_right _ hy) hw) (hpos hb3) tyA38 tyS38 (rd_id (k := 0) (atE_at (hpos hb3))) rfl ?_
      refine sq_on rfl rfl rfl ?_
      refine sq_fieldAddr rfl tyF109_0 (by first | (simp only [Nat.reduceAdd, Nat.add_zero, Nat.zero_add]; first | done | rfl) | rfl) rfl ?_
      refine sq_on rfl rfl rfl ?_
      first | refine sq_load 0 rfl rfl tyA38 tyS38 rfl rfl ?_
      refine sq_on rfl rfl rfl ?_
      refine sq_neq rfl rfl rfl ?_
      refine sq_pick rfl rfl rfl ?_
      refine sq_nil (hZ _ _ ?_ ?_)
      · exact Kn.cons rfl (Kn.cons (congrArg some (congrArg Value.bool (by first | (simp at hb3; subst hb3; rfl) | (simp at hb3; rw [Bool.eq_iff_iff]; simp [hb3]; omega) | (simp at hb3; rw [Bool.eq_iff_iff]; simp [hb3])))) Kn.nil)
      · exact HLe.refl _
  refine awp_cond rfl (fun h4 => ?_) (fun h4 => ?_)
  · have h4' : M.length = 0 ∨ (atE M 0).id ≠ p.id := by simpa using h4
    rw [show pieceQ p t = ([], 10) by unfold pieceQ; rw [if_neg h1, hs, he, if_neg (by simpa using he0), hM, if_neg h3', if_pos h4']]
    refine awp_seq_region (fun Z hZ => ?_)
    refine sx_assign rfl rfl ?_
    refine sx_assign rfl rfl ?_
    refine sx_nil (hZ _ _ ?_)
    refine awp_forget [(4, _), (5, _)] (Kn.cons rfl (Kn.cons rfl (Kn.nil))) ?_
    refine awp_ret ?_
    repeat (with_reducible refine nx_then_ret ?_)
    exact nx_ret2h [] rfl rfl rfl (HLe.sub (List.nil_sublist _)) ⟨_, rfl, RowOk.nil, rfl⟩
  have h4' : ¬ (M.length = 0 ∨ (atE M 0).id ≠ p.id) := by simpa using h4
  rw [show pieceQ p t = (M, 0) by unfold pieceQ; rw [if_neg h1, hs, he, if_neg (by simpa using he0), hM, if_neg h3', if_neg h4']]
  refine awp_skip ?_
  with_reducible refine nx_normal ?_
  refine awp_seq_region (fun Z hZ => ?_)
  refine sx_move rfl rfl ?_
  refine sx_assign rfl rfl ?_
  refine sx_assign rfl rfl ?_
  refine sx_nil (hZ _ _ ?_)
  refine awp_forget [(4, _), (5, _)] (Kn.cons rfl (Kn.cons rfl (Kn.nil))) ?_
  refine awp_ret ?_
  exact nx_ret2h _ rfl rfl rfl (HLe.sub (List.sublist_append_right _ _)) ⟨_, rfl, hu, rfl⟩
end Go.Proofs.YtahmhcmfeloclaaGreat.V

namespace Go.Proofs.YtahmhcmfeloclaaGreat.V
open Go.RowKit
set_option linter.unusedVariables false
set_option linter.unusedSimpArgs false
theorem rjoin_fn (A : Option Addr) (c : Nat) (L : List En) (T : Heap) (hA : ArgOk A L.length) (hT : 0 < L.length → T = roE A (ecells L)) (hro : Ro T) (hL : L.length ≤ maxLen) (hE : EnsOk L) (t : List UInt8) (ht : t.length ≤ 1000000) :
    Fn Tryz.prog 44 [.slice A L.length c, .string (str t)] T fun v H' => ∃ u, v = .tuple #[u, iq (joinQ L t).2] ∧ RowOk u (joinQ L t).1.length ∧ H' = rowE u 109 4 (ecells (joinQ L t).1) := by
  have hL' : L.length ≤ 9223372036854775807 := hL
  refine Fn.enter (N := 57) Tryz.func44 rfl (by kernel_rfl) rfl (fun w0 => ?_)

  refine awp_seq_region (fun Z hZ => ?_)
  refine sx_assign rfl rfl ?_
  refine sx_assign rfl rfl ?_
  refine sx_nil (hZ _ _ ?_)
  refine awp_forget [(0, _), (1, _)] (Kn.cons rfl (Kn.cons rfl (Kn.nil))) ?_
  refine awp_seq ?_
  refine awp_seq_region (fun Z hZ => ?_)
  refine sx_move rfl rfl ?_
  refine sx_callPT T (rrow_fn A c L T hA hT hro hL hE) rfl (List.Sublist.refl _) hro rfl ?_
  refine sx_assign rfl rfl ?_
  refine sx_nil (hZ _ _ ?_)
  refine awp_forget [(0, _), (1, _), (6, _)] (Kn.cons rfl (Kn.cons rfl (Kn.cons rfl (Kn.nil)))) ?_
  refine awp_seq_region (fun Z hZ => ?_)
  refine sx_move rfl rfl ?_
  refine sx_neq rfl rfl rfl ?_
  refine sx_nil (hZ _ _ ?_)
  refine awp_forget [(0, _), (1, _), (6, _), (15, _)] (Kn.cons rfl (Kn.cons rfl (Kn.cons rfl (Kn.cons rfl (Kn.nil))))) ?_
  refine awp_cond rfl (fun h => ?_) (fun h => ?_)
  · have hr : rowC L ≠ 0 := by simp at h; omega
    rw [show joinQ L t = ([], rowC L) by unfold joinQ; rw [if_pos hr]]
    refine awp_seq_region (fun Z hZ => ?_)
    refine sx_move rfl rfl ?_
    refine sx_assign rfl rfl ?_
    refine sx_assign rfl rfl ?_
    refine sx_nil (hZ _ _ ?_)
    refine awp_forget [(4, _), (5, _)] (Kn.cons rfl (Kn.cons rfl (Kn.nil))) ?_
    refine awp_ret ?_
    repeat (with_reducible refine nx_then_ret ?_)
    exact nx_ret2h [] rfl rfl rfl (HLe.sub (List.nil_sublist _)) ⟨_, rfl, RowOk.nil, rfl⟩
  have hr : rowC L = 0 := by simp at h; omega
  obtain ⟨hl, hat⟩ := rowC_at hr hE
  obtain ⟨D, hD⟩ : ∃ D, joinG t [] L = D := ⟨_, rfl⟩
  rw [show joinQ L t = D by unfold joinQ; rw [if_neg (by simpa using hr), hD]]
  refine awp_skip ?_
  with_reducible refine nx_normal ?_
  refine awp_seq_region (fun Z hZ => ?_)
  refine sx_assign rfl rfl ?_
  refine sx_nil (hZ _ _ ?_)
  refine awp_forget [(0, _), (1, _), (7, _)] (Kn.cons rfl (Kn.cons rfl (Kn.cons rfl (Kn.nil)))) ?_
  refine awp_seq ?_
  refine awp_seq_region (fun Z hZ => ?_)
  refine sx_assign rfl rfl ?_
  refine sx_nil (hZ _ _ ?_)
  refine awp_forget [(0, _), (1, _), (7, _), (8, _)] (Kn.cons rfl (Kn.cons rfl (Kn.cons rfl (Kn.cons rfl (Kn.nil))))) ?_
  refine awp_block ?_
  refine awp_loop (ι := Nat × Value × List En) (fun i => [(0, .slice A L.length c), (1, .string (str t)), (7, i.2.1), (8, iq (i.1 : Nat))]) (fun i => T ++ rowE i.2.1 109 4 (ecells i.2.2))
    (fun i => i.1 ≤ L.length ∧ RowOk i.2.1 i.2.2.length ∧ EnsOk i.2.2 ∧ i.2.2.length ≤ i.1 * 4096 ∧ joinG t i.2.2 (L.drop i.1) = D) (fun i => L.length - i.1) (0, .slice none 0 0, []) ⟨by simp, RowOk.nil, fun e he => (by cases he), by simp, hD⟩ (Kn.cons rfl (Kn.cons rfl (Kn.cons rfl (Kn.cons rfl Kn.nil)))) (by simp [rowE]; exact HLe.refl _) ?_
  rintro ⟨k, v, out⟩ ⟨hk, hv, hO, hol, hq⟩
  simp only at hk hv hO hol hq
  refine awp_seq ?_
  refine awp_seq_region (fun Z hZ => ?_)
  refine sx_move rfl rfl ?_
  refine sx_move rfl rfl ?_
  refine sx_len Tryz.underlying67 rfl rfl ?_
  refine sx_lss rfl rfl rfl ?_
  refine sx_nil (hZ _ _ ?_)
  refine awp_forget [(0, _), (1, _), (7, _), (8, _), (20, _)] (Kn.cons rfl (Kn.cons rfl (Kn.cons rfl (Kn.cons rfl (Kn.cons rfl (Kn.nil)))))) ?_
  refine awp_cond rfl (fun h1 => ?_) (fun h1 => ?_)
  · have hlt : k < L.length := by simpa using h1
    have hx := atE_at hlt
    have hxo := atE_ok hE k
    have hoff := (hat k hlt).2
    obtain ⟨x, hxe⟩ : ∃ x, atE L k = x := ⟨_, rfl⟩
    rw [hxe] at hx hxo hoff
    have hdr : L.drop k = x :: L.drop (k + 1) := by rw [List.drop_eq_getElem_cons hlt]; congr 1; exact (List.getElem?_eq_some_iff.1 hx).2
    rw [hdr, joinG] at hq
    obtain ⟨ga, o, rfl⟩ := hA (by omega)
    obtain rfl := hT (by omega)
    refine awp_skip ?_
    with_reducible refine nx_normal ?_
    refine awp_cut (ι := Value × List En) (fun i => [(0, .slice (some ⟨ga, o, none⟩) L.length c), (1, .string (str t)), (7, i.1), (8, iq (k : Nat))]) (fun i => [.ro ga o (ecells L)] ++ rowE i.1 109 4 (ecells i.2)) (fun i => RowOk i.1 i.2.length ∧ EnsOk i.2 ∧ i.2.length ≤ (k + 1) * 4096 ∧ joinG t i.2 (L.drop (k + 1)) = D) ?_ ?_
    · refine awp_block ?_

      refine awp_seq ?_
      refine awp_seq_region (fun Z hZ => ?_)
      refine sx_move rfl rfl ?_
      refine sx_move rfl rfl ?_
      refine sx_indexAddr (o + k * 4) Tryz.underlying67 tyS109 rfl rfl (by omega) (by simp) rfl ?_
      refine sx_fieldAddr rfl tyF109_3 (by first | (simp only [Nat.reduceAdd, Nat.add_zero, Nat.zero_add]; first | done | rfl) | rfl) rfl ?_
      refine sx_loadRo 0 rfl rfl (k * 4 + 3) rfl tyA95 tyS95 (rd_run hx) rfl ?_
      refine sx_gtr rfl rfl rfl ?_
      refine sx_nil (hZ _ _ ?_)
      refine awp_forget [(0, _), (1, _), (7, _), (8, _), (28, _)] (Kn.cons rfl (Kn.cons rfl (Kn.cons rfl (Kn.cons rfl (Kn.cons rfl (Kn.nil)))))) ?_
      refine awp_cond rfl (fun h2 => ?_) (fun h2 => ?_)
      · have hp : isPtr x = false := by simp at h2; simp [isPtr]; omega
        rw [hp, if_neg (by decide)] at hq
        refine awp_seq_region (fun Z hZ => ?_)
        refine sx_move rfl rfl ?_
        refine sx_move rfl rfl ?_
        refine sx_move rfl rfl ?_
        refine sx_indexAddr (o + k * 4) Tryz.underlying67 tyS109 rfl rfl (by omega) (by simp) rfl ?_
        refine sx_loadRo 0 rfl rfl (k * 4) rfl tyA109 tyS109 (ecells_all hx) rfl ?_
        refine sx_buildSlice Tryz.underlying67 tyS109 tyZ109 rfl rfl rfl rfl (by first | (simp only [List.take_succ_cons, List.take_zero, List.drop_succ_cons, List.drop_zero, List.cons_append, List.nil_append, List.append_nil, List.length_cons, List.length_nil, Nat.reduceAdd, Nat.zero_add, Nat.add_zero, Value.cells, wrV, zrep_one, List.replicate_succ, List.replicate_zero, Nat.reduceMul, Nat.zero_mul]; first | done | rfl) | rfl) rfl (fun g1 => ?_)
        refine sx_appendE [_, _] elemEnR rfl hv (ecells_len out) rfl (fun w hw => rd_own (i := 0) (xs := x.cells) rfl rfl hw) rfl (by show _ ≤ 9223372036854775807; omega) (by omega) (HLe.refl _) rfl (fun v2 hv2 => ?_)
        rw [show ecells out ++ x.cells = ecells (out ++ [x]) from (fm_snoc _ _).symm]
        refine sx_assign rfl rfl ?_
        refine sx_nil (hZ _ _ ?_)
        refine awp_forget [(0, _), (1, _), (7, _), (8, _)] (Kn.cons rfl (Kn.cons rfl (Kn.cons rfl (Kn.cons rfl (Kn.nil))))) ?_
        refine awp_exit ?_
        repeat (with_reducible refine nx_then_exit ?_)
        refine nx_block_exit ?_
        refine nx_cut (v2, out ++ [x]) ⟨by simpa using hv2, fun e he => ?_, by simp; omega, hq⟩ (Kn.cons rfl (Kn.cons rfl (Kn.cons rfl (Kn.cons rfl Kn.nil)))) (HLe.drop 1 rfl)
        rcases List.mem_append.1 he with he | he
        · exact hO e he
        · rw [List.mem_singleton.1 he]; exact hxo
      have hp : isPtr x = true := by simp at h2; simp [isPtr]; omega
      rw [hp, if_pos rfl] at hq
      have hpc := rpiece_fn x hxo hoff t ht
      obtain ⟨q1, q2⟩ := pieceQ_ok x t
      obtain ⟨M, hM⟩ : ∃ M, (pieceQ x t).1 = M := ⟨_, rfl⟩
      obtain ⟨e, he⟩ : ∃ e, (pieceQ x t).2 = e := ⟨_, rfl⟩
      rw [hM, he] at hpc hq
      rw [hM] at q1 q2
      refine awp_skip ?_
      with_reducible refine nx_normal ?_
      refine awp_seq_region (fun Z hZ => ?_)
      refine sx_move rfl rfl ?_
      refine sx_move rfl rfl ?_
      refine sx_indexAddr (o + k * 4) Tryz.underlying67 tyS109 rfl rfl (by omega) (by simp) rfl ?_
      refine sx_loadRo 0 rfl rfl (k * 4) rfl tyA109 tyS109 (ecells_all hx) rfl ?_
      refine sx_move rfl rfl ?_
      refine sx_callO [] (.ro ga o (ecells L) :: rowE v 109 4 (ecells out)) hpc rfl (HLe.refl _) rfl ?_
      rintro v H' ⟨u, rfl, hu, rfl⟩
      rw [rowE_flt]
      refine sx_move rfl rfl ?_
      refine sx_extract rfl rfl rfl ?_
      refine sx_extract rfl rfl rfl ?_
      refine sx_assign rfl rfl ?_
      refine sx_assign rfl rfl ?_
      refine sx_nil (hZ _ _ ?_)
      refine awp_forget [(0, _), (1, _), (7, _), (8, _), (9, _), (10, _)] (Kn.cons rfl (Kn.cons rfl (Kn.cons rfl (Kn.cons rfl (Kn.cons rfl (Kn.cons rfl (Kn.nil))))))) ?_
      refine awp_seq ?_
      refine awp_seq_region (fun Z hZ => ?_)
      refine sx_move rfl rfl ?_
      refine sx_neq rfl rfl rfl ?_
      refine sx_nil (hZ _ _ ?_)
      refine awp_forget [(0, _), (1, _), (7, _), (8, _), (9, _), (10, _), (46, _)] (Kn.cons rfl (Kn.cons rfl (Kn.cons rfl (Kn.cons rfl (Kn.cons rfl (Kn.cons rfl (Kn.cons rfl (Kn.nil)))))))) ?_
      refine awp_cond rfl (fun h3 => ?_) (fun h3 => ?_)
      · have he0 : e ≠ 0 := by simp at h3; omega
        rw [if_pos he0] at hq
        rw [← hq]
        refine awp_seq_region (fun Z hZ => ?_)
        refine sx_move rfl rfl ?_
        refine sx_assign rfl rfl ?_
        refine sx_assign rfl rfl ?_
        refine sx_nil (hZ _ _ ?_)
        refine awp_forget [(4, _), (5, _)] (Kn.cons rfl (Kn.cons rfl (Kn.nil))) ?_
        refine awp_ret ?_
        repeat (with_reducible (first | refine nx_then_ret ?_ | refine nx_block_ret ?_))
        exact nx_ret2h [] rfl rfl rfl (HLe.sub (List.nil_sublist _)) ⟨_, rfl, RowOk.nil, rfl⟩
      have he0 : e = 0 := by simp at h3; omega
      rw [if_neg (by simpa using he0)] at hq
      refine awp_skip ?_
      with_reducible refine nx_normal ?_
      obtain ⟨A2, c2, rfl, hA2⟩ := hu.form
      refine awp_region (fun Z hZ => ?_)
      refine sx_move rfl rfl ?_
      refine sx_move rfl rfl ?_
      refine sx_appendE (rowE (.slice A2 M.length c2) 109 4 (ecells M) ++ [_]) elemEnR rfl hv (ecells_len out) rfl (fun w hw => rd_rowE hu (ecells_len M) (fun y hy => List.mem_append_left _ hy) hw) (ecells_one M) (by show _ ≤ 9223372036854775807; omega) (by omega) (by rw [List.append_assoc]; exact HLe.refl _) rfl (fun v2 hv2 => ?_)
      rw [show ecells out ++ ecells M = ecells (out ++ M) from by simp [ecells]]
      refine sx_assign rfl rfl ?_
      refine sx_nil (hZ _ _ ?_)
      refine nx_forget [(0, _), (1, _), (7, _), (8, _)] (Kn.cons rfl (Kn.cons rfl (Kn.cons rfl (Kn.cons rfl (Kn.nil))))) ?_
      repeat (with_reducible refine nx_block_normal ?_)
      refine nx_cut (v2, out ++ M) ⟨by simpa using hv2, fun e he => ?_, by simp; omega, hq⟩ (Kn.cons rfl (Kn.cons rfl (Kn.cons rfl (Kn.cons rfl Kn.nil)))) (HLe.sub (by rw [List.append_assoc]; exact List.sublist_append_right _ _))
      rcases List.mem_append.1 he with he | he
      · exact hO e he
      · exact q2 e he
    · rintro ⟨v2, out2⟩ ⟨hv2, hO2, hol2, hq2⟩
      refine awp_region (fun Z hZ => ?_)
      refine sx_move rfl rfl ?_
      refine sx_add rfl rfl ((k + 1 : Nat) : Int) (by rw [IntWalk.i64_in _ (by omega)]; omega) rfl ?_
      refine sx_assign rfl rfl ?_
      refine sx_nil (hZ _ _ ?_)
      refine nx_forget [(0, _), (1, _), (7, _), (8, _)] (Kn.cons rfl (Kn.cons rfl (Kn.cons rfl (Kn.cons rfl (Kn.nil))))) ?_
      exact nx_round (k + 1, v2, out2) ⟨by show k + 1 ≤ _; omega, hv2, hO2, hol2, hq2⟩ (by simp; omega) (Kn.cons rfl (Kn.cons rfl (Kn.cons rfl (Kn.cons rfl Kn.nil)))) (HLe.refl _)
  · refine awp_exit ?_
    repeat (with_reducible refine nx_then_exit ?_)
    with_reducible refine nx_block_exit ?_
    with_reducible refine nx_normal ?_
    have hke : k = L.length := by simp at h1; omega
    subst hke
    rw [List.drop_length, joinG] at hq
    have hom : out.length ≤ maxLen := by show _ ≤ 9223372036854775807; omega
    obtain ⟨A3, c3, rfl, hA3, hle3⟩ := hv.ro
    refine awp_seq ?_
    refine awp_seq_region (fun Z hZ => ?_)
    refine sx_move rfl rfl ?_
    refine sx_callV (roE A3 (ecells out)) (rrow_fn A3 c3 out _ hA3.arg (fun _ => rfl) (Ro.roE _ _) hom hO) rfl (row_view hle3 T _ _ _) (Ro.roE _ _) rfl ?_
    refine sx_assign rfl rfl ?_
    refine sx_nil (hZ _ _ ?_)
    refine awp_forget [(7, _), (11, _)] (Kn.cons rfl (Kn.cons rfl (Kn.nil))) ?_
    refine awp_seq_region (fun Z hZ => ?_)
    refine sx_move rfl rfl ?_
    refine sx_neq rfl rfl rfl ?_
    refine sx_nil (hZ _ _ ?_)
    refine awp_forget [(7, _), (11, _), (54, _)] (Kn.cons rfl (Kn.cons rfl (Kn.cons rfl (Kn.nil)))) ?_
    refine awp_cond rfl (fun h2 => ?_) (fun h2 => ?_)
    · have hr2 : rowC out ≠ 0 := by simp at h2; omega
      rw [if_pos hr2] at hq
      rw [← hq]
      refine awp_seq_region (fun Z hZ => ?_)
      refine sx_move rfl rfl ?_
      refine sx_assign rfl rfl ?_
      refine sx_assign rfl rfl ?_
      refine sx_nil (hZ _ _ ?_)
      refine awp_forget [(4, _), (5, _)] (Kn.cons rfl (Kn.cons rfl (Kn.nil))) ?_
      refine awp_ret ?_
      repeat (with_reducible refine nx_then_ret ?_)
      exact nx_ret2h [] rfl rfl rfl (HLe.sub (List.nil_sublist _)) ⟨_, rfl, RowOk.nil, rfl⟩
    have hr2 : rowC out = 0 := by simp at h2; omega
    rw [if_neg (by simpa using hr2)] at hq
    rw [← hq]
    refine awp_skip ?_
    with_reducible refine nx_normal ?_
    refine awp_seq_region (fun Z hZ => ?_)
    refine sx_move rfl rfl ?_
    refine sx_assign rfl rfl ?_
    refine sx_assign rfl rfl ?_
    refine sx_nil (hZ _ _ ?_)
    refine awp_forget [(4, _), (5, _)] (Kn.cons rfl (Kn.cons rfl (Kn.nil))) ?_
    refine awp_ret ?_
    exact nx_ret2h _ rfl rfl rfl (HLe.sub (List.sublist_append_right _ _)) ⟨_, rfl, hv, rfl⟩
end Go.Proofs.YtahmhcmfeloclaaGreat.V
