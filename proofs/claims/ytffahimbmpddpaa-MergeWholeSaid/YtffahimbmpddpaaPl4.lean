/- A pool as it stands in memory; the walks of put, Add and Text. Conditions: the texts are not too long. -/
import Derived.Test.YtffahimbmpddpaaPl3
import Derived.Test.YtffahimbmpddpaaLayCl
namespace Go.Proofs.Ytffahimbmpddpaa.V
open Go.RowKit
set_option linter.unusedVariables false
set_option linter.unusedSimpArgs false
set_option maxRecDepth 100000
section
variable {P : Program} {N : Frm} {w0 : World} {Wr : List Nat} {ops : Array Oper} {rest : List Oper} {fr : Fr} {H : Heap} {Z : Fr → Heap → Prop} {d ty : Nat} {pos : String} {after : Array Edge}
/-- A method of a value at hand, as a function. -/
theorem sx_makeFuncB {f : FuncId} {xs : List Operand} {vs : List Value} (hx : evs fr xs = some vs) (hN : Nat.ble (d + 1) N.n = true)
    (h : sx P N w0 Wr ops rest ((d, .func (.func f) vs.toArray #[]) :: fr) H Z) : sx P N w0 Wr ops (⟨some d, .makeFunc (.func f) xs.toArray #[], ty, pos, after, none⟩ :: rest) fr H Z :=
  sx_val _ hN (fun a w ha hw => by
    have := ha.evals hx
    subst this
    simp [execOp, Instr.makeFunc, Sem.run_bind, Sem.run_pure]) h
theorem run_callFB {f : FuncId} {bs : List Value} {vs : List Value} (hE : Enters P f) {x : Operand} {xs : List Operand} {ts : Array TypeId} {ρ : Operand → Value} (hx : xs.map ρ = vs) (hf : ρ x = .func (.func f) bs.toArray #[]) {dst : Option Nat} {w : World} :
    (execOp ρ ⟨dst, .call { callee := .value x, args := xs.toArray, argTypes := ts }, ty, pos, after, none⟩).run P w = .ok (.enter f (bs ++ vs).toArray) w := by
  obtain ⟨fn, h1, h2, h3⟩ := hE
  subst hx
  have h2' : ¬ (fn.name = "runtime.NumGoroutine") := by simpa using h2
  have h3' : ¬ (fn.body = none) := by intro e; rw [e] at h3; cases h3
  simp [execOp, resolve, hf, Deferred.ofValue, invoke, callFunc, h1, h2', h3', program, Sem.run_bind, Sem.run_pure, Sem.run]
theorem sx_callFB {f : FuncId} {bs : List Value} {x : Operand} {xs : List Operand} {vs : List Value} {ts : Array TypeId} {dst : Option Nat} {Hc : Heap} {R : Value → Heap → Prop} (K : Heap) (hc : Fn P f (bs ++ vs) Hc R) (hf : ev fr x = some (.func (.func f) bs.toArray #[])) (hx : evs fr xs = some vs) (hH : HLe (Hc ++ K) H) (hN : dstB N dst = true)
    (h : ∀ v H', R v H' → sx P N w0 Wr ops rest (match dst with | some d => (d, v) :: fr | none => fr) (H'.filter Ent.wr ++ K) Z) :
    sx P N w0 Wr ops (⟨dst, .call { callee := .value x, args := xs.toArray, argTypes := ts }, ty, pos, after, none⟩ :: rest) fr H Z :=
  sx_op rfl fun a w K' Q ha hw hK => by
    unfold Oper.wp
    rw [run_callFB hc.1 (ha.evals hx) (ha.eval hf)]
    have hw' := hH _ _ _ hw
    have hpre : Sat w (wrs Hc) Hc w := ⟨Only.refl _ _, fun e he => ⟨(hw'.ents e (List.mem_append_left _ he)).1, fun h => .inl (mem_wrs.2 ⟨e, he, h, rfl⟩)⟩, (List.pairwise_append.1 hw'.sep).1⟩
    refine (hc.2 w hpre).mono fun e w' he => ?_
    obtain ⟨v, H', rfl, hR, hS⟩ := he
    have hS' := Sat.callA (U := []) hw' Ro.nil (by rw [List.append_nil]; exact hS)
    cases dst with
    | none => exact hK v w' fr _ (h v H' hR) (ha.skip _) hS'
    | some d => exact hK v w' _ _ (h v H' hR) (ha.put hN v) hS'
end
/-- A call that needs a part of memory alone. -/
theorem Fn.frame {P : Program} {f : FuncId} {vs : List Value} {x : Value} {Hc K H : Heap} (hc : Fn P f vs Hc fun v H' => v = x ∧ H' = Hc) (hw : Wrs Hc) (hp : H.Perm (Hc ++ K)) : Fn P f vs H fun v H' => v = x ∧ H' = H :=
  ⟨hc.1, fun w hS => by
    have hS2 : Sat w (wrs H) (Hc ++ K) w := hS.perm hp
    have hpre : Sat w (wrs Hc) Hc w := ⟨Only.refl _ _, fun e he => ⟨(hS2.ents e (List.mem_append_left _ he)).1, fun h => .inl (mem_wrs.2 ⟨e, he, h, rfl⟩)⟩, (List.pairwise_append.1 hS2.sep).1⟩
    refine (hc.2 w hpre).mono fun e w' he => ?_
    obtain ⟨v, H', h1, ⟨h2, h3⟩, h4⟩ := he
    subst h3
    have h5 := Sat.callA (U := []) hS2 Ro.nil (by rw [List.append_nil]; exact h4)
    rw [hw.filter] at h5
    exact ⟨v, H, h1, ⟨h2, rfl⟩, h5.perm hp.symm⟩⟩
def bkDel : List Bk → Nat → List Bk
  | [], _ => []
  | b :: r, q => if b.key = q then r else b :: bkDel r q
def bkPut : List Bk → Bk → List Bk
  | [], x => [x]
  | b :: r, x => if b.key = x.key then x :: r else b :: bkPut r x
theorem bkM_put : ∀ (B : List Bk) (x : Bk), bkM (bkPut B x) = aput (bkM B) x.key x.v
  | [], _ => rfl
  | b :: r, x => by
    show bkM (if b.key = x.key then x :: r else b :: bkPut r x) = if b.key = x.key then (x.key, x.v) :: bkM r else (b.key, b.v) :: aput (bkM r) x.key x.v
    split
    · rfl
    · rw [← bkM_put r x]; rfl
theorem bkH_put : ∀ (B : List Bk) (x : Bk), (bkH (bkPut B x)).Perm (bkH (bkDel B x.key) ++ [x.e])
  | [], x => List.Perm.refl _
  | b :: r, x => by
    unfold bkPut bkDel
    split
    · exact (List.perm_append_singleton x.e (bkH r)).symm
    · exact List.Perm.cons _ (bkH_put r x)
theorem bkH_del : ∀ (B : List Bk) (q : Nat), (bkH B).Perm (bkH (bkDel B q) ++ rowE (bkV B q) 3 1 (iqL (bkK B q)))
  | [], q => List.Perm.refl _
  | b :: r, q => by
    by_cases h : b.key = q
    · have hf : bkOf (b :: r) q = some b := by unfold bkOf; rw [List.find?_cons, beq_iff_eq.2 h]
      have h1 : bkV (b :: r) q = b.v := by unfold bkV; rw [hf]
      have h2 : bkK (b :: r) q = b.ks := by unfold bkK; rw [hf]
      rw [h1, h2, bkDel, if_pos h]
      exact (List.perm_append_singleton b.e (bkH r)).symm
    · have hf : bkOf (b :: r) q = bkOf r q := by unfold bkOf; rw [List.find?_cons, beq_eq_false_iff_ne.2 h]
      have h1 : bkV (b :: r) q = bkV r q := by unfold bkV; rw [hf]
      have h2 : bkK (b :: r) q = bkK r q := by unfold bkK; rw [hf]
      rw [h1, h2, bkDel, if_neg h]
      exact List.Perm.cons _ (bkH_del r q)
theorem bkPut_keys : ∀ (B : List Bk) (x : Bk), (∀ k, k ∈ (bkPut B x).map Bk.key ↔ k = x.key ∨ k ∈ B.map Bk.key) ∧ ((B.map Bk.key).Nodup → ((bkPut B x).map Bk.key).Nodup) ∧ (∀ b ∈ bkPut B x, b = x ∨ b ∈ B) ∧ (∀ b ∈ B, b.key ≠ x.key → b ∈ bkPut B x) ∧ x ∈ bkPut B x
  | [], x => by simp [bkPut]
  | b :: r, x => by
    obtain ⟨h1, h2, h3, h4, h5⟩ := bkPut_keys r x
    unfold bkPut
    split
    · rename_i h
      refine ⟨fun k => by simp [h], fun hn => by simpa [h] using hn, fun y hy => ?_, fun y hy hk => ?_, List.mem_cons_self⟩
      · rcases List.mem_cons.1 hy with rfl | hy
        · exact .inl rfl
        · exact .inr (List.mem_cons_of_mem _ hy)
      · rcases List.mem_cons.1 hy with rfl | hy
        · exact absurd h hk
        · exact List.mem_cons_of_mem _ hy
    · rename_i h
      refine ⟨fun k => ?_, fun hn => ?_, fun y hy => ?_, fun y hy hk => ?_, List.mem_cons_of_mem _ h5⟩
      · rw [List.map_cons, List.mem_cons, h1, List.map_cons, List.mem_cons]
        constructor
        · rintro (h | h | h)
          · exact .inr (.inl h)
          · exact .inl h
          · exact .inr (.inr h)
        · rintro (h | h | h)
          · exact .inr (.inl h)
          · exact .inl h
          · exact .inr (.inr h)
      · rw [List.map_cons, List.nodup_cons] at hn ⊢
        refine ⟨fun hm => ?_, h2 hn.2⟩
        rcases (h1 _).1 hm with hm | hm
        · exact h hm
        · exact hn.1 hm
      · rcases List.mem_cons.1 hy with rfl | hy
        · exact .inr List.mem_cons_self
        · exact (h3 y hy).imp id (List.mem_cons_of_mem _)
      · rcases List.mem_cons.1 hy with rfl | hy
        · exact List.mem_cons_self
        · exact List.mem_cons_of_mem _ (h4 y hy hk)
theorem BkOk.put {ts : List Tx} {B : List Bk} (h : BkOk ts B) (s : Tx) (g c : Nat) : BkOk (ts ++ [s]) (bkPut B ⟨fnvQ s, g, c, bkK B (fnvQ s) ++ [ts.length]⟩) := by
  obtain ⟨h1, h2, h3, h4, h5⟩ := bkPut_keys B ⟨fnvQ s, g, c, bkK B (fnvQ s) ++ [ts.length]⟩
  obtain ⟨k1, k2⟩ := bkK_lt h (fnvQ s)
  refine ⟨h2 h.nd, fun b hb => ?_, fun k t ht => ?_⟩
  · rw [List.length_append, List.length_singleton]
    rcases h3 b hb with rfl | hb
    · refine ⟨by simp only [List.length_append, List.length_singleton]; omega, fun k hk => ?_⟩
      rcases List.mem_append.1 hk with hk | hk
      · have := k2 k hk; omega
      · have := List.mem_singleton.1 hk; omega
    · obtain ⟨b1, b2⟩ := h.lt b hb
      exact ⟨by omega, fun k hk => by have := b2 k hk; omega⟩
  · by_cases hk : k < ts.length
    · rw [List.getElem?_append_left hk] at ht
      by_cases hq : fnvQ t = fnvQ s
      · exact ⟨_, h5, hq.symm, List.mem_append_left _ (hq ▸ bkK_all h ht)⟩
      · obtain ⟨b, hb, b1, b2⟩ := h.all k t ht
        exact ⟨b, h4 b hb (by rw [b1]; exact hq), b1, b2⟩
    · rw [List.getElem?_append_right (by omega)] at ht
      have hlt := (List.getElem?_eq_some_iff.1 ht).1
      simp only [List.length_singleton] at hlt
      have hk0 : k - ts.length = 0 := by omega
      rw [hk0] at ht
      injection ht with ht
      subst ht
      exact ⟨_, h5, rfl, List.mem_append_right _ (List.mem_singleton.2 (by omega))⟩
abbrev nilS : Value := .slice none 0 0
abbrev plK (gm : Nat) (ts : List Tx) (B : List Bk) (tv pv : Value) : Heap := bkE gm B :: (rowE tv 5 1 (bv ts.flatten) ++ (rowE pv 84 2 (ctcells (ctsF 0 ts)) ++ bkH B))
def PlOk (gm : Nat) (ts : List Tx) (B : List Bk) (tv pv : Value) : Prop := BkOk ts B ∧ RowOk tv ts.flatten.length ∧ RowOk pv ts.length
/-- A pool as it stands in memory. -/
def PoolIs (gp : Nat) (ts : List Tx) (H : Heap) : Prop :=
  (ts = [] ∧ H = [.own gp 115 [nilS, nilS, .map none]]) ∨ ∃ gm B tv pv, PlOk gm ts B tv pv ∧ H = .own gp 115 [tv, pv, .map (some gm)] :: plK gm ts B tv pv
theorem bkH_wrs (B : List Bk) : Wrs (bkH B) := fun e he => by
  obtain ⟨b, _, rfl⟩ := List.mem_map.1 he
  rfl
theorem plK_wrs (gm : Nat) (ts : List Tx) (B : List Bk) (tv pv : Value) : Wrs (plK gm ts B tv pv) := Wrs.cons rfl ((rowE_wrs _ _ _ _).append ((rowE_wrs _ _ _ _).append (bkH_wrs B)))
theorem PoolIs.wrs {gp : Nat} {ts : List Tx} {H : Heap} (h : PoolIs gp ts H) : Wrs H := by
  rcases h with ⟨_, rfl⟩ | ⟨gm, B, tv, pv, _, rfl⟩
  · exact Wrs.cons rfl Wrs.nil
  · exact Wrs.cons rfl (plK_wrs _ _ _ _ _)
theorem find0_fn (gp : Nat) (s : Tx) (hs : s.length ≤ 9223372036854775807) :
    Fn Try.prog 58 [ptr gp 0, .string (str s)] [.own gp 115 [nilS, nilS, .map none]] fun v H' => v = fdV none ∧ H' = [.own gp 115 [nilS, nilS, .map none]] := by
  have hfs := fnv_sum s hs
  refine Fn.enter (N := 39) Try.func58 rfl (by kernel_rfl) rfl (fun w0 => ?_)

  refine awp_seq_region (fun Z hZ => ?_)
  refine sx_alloc tyZ84 rfl (fun g1 => ?_)
  refine sx_assign rfl rfl ?_
  refine sx_nil (hZ _ _ ?_)
  refine awp_forget [(0, _), (1, _), (4, _)] (Kn.cons rfl (Kn.cons rfl (Kn.cons rfl (Kn.nil)))) ?_

  refine awp_seq ?_
  refine awp_seq_region (fun Z hZ => ?_)
  refine sx_move rfl rfl ?_
  refine sx_ptrNil Try.underlying78 rfl rfl ?_
  refine sx_nil (hZ _ _ ?_)
  refine awp_forget [(0, _), (1, _), (4, _), (10, _)] (Kn.cons rfl (Kn.cons rfl (Kn.cons rfl (Kn.cons rfl (Kn.nil))))) ?_
  first | refine awp_cond rfl (fun h => ?_) (fun h => ?_) | refine awp_seq (awp_cond rfl (fun h => ?_) (fun h => ?_))
  · cases h
  refine awp_skip ?_
  repeat (with_reducible (first | refine nx_block_normal ?_ | refine nx_scope_normal ?_))
  with_reducible first | refine nx_normal ?_ | refine nx_normalM ?_
  refine awp_seq ?_
  refine aww_seq_region _ [(0, true), (1, true), (2, true), (3, true), (4, true), (5, false), (6, true), (7, true), (8, true)] mixed (by kernel_rfl) (HLe.pick [1] (by simp) (by simp only [pick, List.filterMap_cons, List.filterMap_nil, List.getElem?_cons_succ, List.getElem?_cons_zero]; rfl)) (fun Z hZ => ?_)
  refine tw_p rfl ?_
  refine sv_move rfl rfl ?_
  refine sv_nil ?_
  refine tw_p rfl ?_
  refine sv_nilCheck rfl rfl ?_
  refine sv_nil ?_
  refine tw_p rfl ?_
  refine sv_fieldAddr rfl tyF115_2 (by first | (simp only [Nat.reduceAdd, Nat.add_zero, Nat.zero_add]; first | done | rfl) | rfl) rfl ?_
  refine sv_nil ?_
  refine tw_p rfl ?_
  first | refine sv_load 0 rfl rfl tyA113 tyS113 rfl rfl ?_
  refine sv_nil ?_
  refine tw_p rfl ?_
  refine sv_move rfl rfl ?_
  refine sv_nil ?_
  refine tw_g rfl ?_
  refine sx_callP hfs rfl rfl ?_
  refine sx_nil ⟨HLe.pick [1] (by simp) rfl, ?_⟩
  refine tw_p rfl ?_
  refine sv_lookupNil keyU Try.underlying113 zeroIs (fnvQ s) _ rfl rfl rfl rfl ?_
  refine sv_nil ?_
  refine tw_p rfl ?_
  first | refine sv_len Try.underlying131 rfl rfl ?_ | refine sv_lenS Try.underlying131 rfl rfl ?_
  refine sv_nil ?_
  refine tw_p rfl ?_
  refine sv_move rfl rfl ?_
  refine sv_nil ?_
  refine tw_nil (hZ _ _ ?_)
  refine awp_forget [(0, _), (1, _), (4, _), (18, _), (19, _), (20, _)] (Kn.cons rfl (Kn.cons rfl (Kn.cons rfl (Kn.cons rfl (Kn.cons rfl (Kn.cons rfl (Kn.nil))))))) ?_
  refine awp_block ?_
  refine awp_loop (ι := Unit) (fun _ => [(0, ptr gp 0), (1, .string (str s)), (4, ptr g1 0), (18, nilS), (19, iq (0 : Nat)), (20, iq (0 : Nat))])
    (fun _ => [.own g1 84 [uq 0, wq4 0], .own gp 115 [nilS, nilS, .map none]]) (fun _ => True) (fun _ => 0) () trivial (Kn.cons rfl (Kn.cons rfl (Kn.cons rfl (Kn.cons rfl (Kn.cons rfl (Kn.cons rfl Kn.nil)))))) (HLe.refl _) ?_
  rintro ⟨⟩ -
  refine awp_seq_region (fun Z hZ => ?_)
  first | refine sx_lss rfl rfl rfl ?_ | refine sx_slss rfl rfl rfl ?_
  refine sx_nil (hZ _ _ ?_)
  refine awp_forget [(0, _), (1, _), (4, _), (18, _), (19, _), (20, _), (21, _)] (Kn.cons rfl (Kn.cons rfl (Kn.cons rfl (Kn.cons rfl (Kn.cons rfl (Kn.cons rfl (Kn.cons rfl (Kn.nil)))))))) ?_
  first | refine awp_cond rfl (fun h1 => ?_) (fun h1 => ?_) | refine awp_seq (awp_cond rfl (fun h1 => ?_) (fun h1 => ?_))
  · simp at h1
  · refine awp_exit ?_
    repeat (with_reducible (first | refine nx_then_exit ?_ | refine nx_block_other (by decide) ?_ | refine nx_scope_exit ?_))
    with_reducible refine nx_block_exit ?_
    repeat (with_reducible (first | refine nx_block_normal ?_ | refine nx_scope_normal ?_))
    with_reducible first | refine nx_normal ?_ | refine nx_normalM ?_
    refine awp_seq_region (fun Z hZ => ?_)
    refine sx_build tyZ84 tyP84 rfl rfl (by first | (simp only [List.take_succ_cons, List.take_zero, List.drop_succ_cons, List.drop_zero, List.cons_append, List.nil_append, List.append_nil, List.length_cons, List.length_nil, Nat.reduceAdd, Nat.zero_add, Nat.add_zero, Value.cells, wrV, zrep_one, List.replicate_succ, List.replicate_zero, Nat.reduceMul, Nat.zero_mul]; first | done | rfl) | rfl) rfl ?_
    first | refine sx_store 0 rfl rfl rfl tyS84 (by first | (simp only [Value.cells]; first | done | rfl) | rfl) rfl rfl (by first | (simp only [List.length_cons, List.length_nil, Nat.reduceAdd, Nat.zero_add, Nat.add_zero]; first | done | rfl) | rfl) (by first | (simp only [List.take_succ_cons, List.take_zero, List.drop_succ_cons, List.drop_zero, List.cons_append, List.nil_append, List.append_nil, List.length_cons, List.length_nil, Nat.reduceAdd, Nat.zero_add, Nat.add_zero, Value.cells, wrV]; first | done | rfl) | rfl) (by first | (simp only [List.set_cons_succ, List.set_cons_zero]; first | done | rfl) | rfl) ?_ | refine sx_store 1 rfl rfl rfl tyS84 (by first | (simp only [Value.cells]; first | done | rfl) | rfl) rfl rfl (by first | (simp only [List.length_cons, List.length_nil, Nat.reduceAdd, Nat.zero_add, Nat.add_zero]; first | done | rfl) | rfl) (by first | (simp only [List.take_succ_cons, List.take_zero, List.drop_succ_cons, List.drop_zero, List.cons_append, List.nil_append, List.append_nil, List.length_cons, List.length_nil, Nat.reduceAdd, Nat.zero_add, Nat.add_zero, Value.cells, wrV]; first | done | rfl) | rfl) (by first | (simp only [List.set_cons_succ, List.set_cons_zero]; first | done | rfl) | rfl) ?_
    refine sx_assign rfl rfl ?_
    refine sx_nil (hZ _ _ ?_)
    refine awp_forget [(4, _), (5, _)] (Kn.cons rfl (Kn.cons rfl (Kn.nil))) ?_
    refine awp_ret ?_
    repeat (with_reducible (first | refine nx_then_ret ?_ | refine nx_block_ret ?_ | refine nx_scope_ret ?_))
    exact nx_ret2h _ rfl (ResOk.cell 0 rfl rfl tyA84 tyS84 rfl) rfl (HLe.drop 1 rfl) ⟨rfl, rfl⟩
theorem find_is {gp : Nat} {ts : List Tx} {H : Heap} (h : PoolIs gp ts H) (s : Tx) (hn : ts.Nodup) (hne : ∀ t ∈ ts, t ≠ []) (hfl : ts.flatten.length ≤ 1000000000) (hts : ts.length ≤ 1000000) (hs : s.length ≤ 9223372036854775807) :
    Fn Try.prog 58 [ptr gp 0, .string (str s)] H fun v H' => v = fdV (fdQ 0 ts s) ∧ H' = H := by
  rcases h with ⟨rfl, rfl⟩ | ⟨gm, B, tv, pv, ⟨h1, h2, h3⟩, rfl⟩
  · exact find0_fn gp s hs
  · refine Fn.frame (K := bkH (bkDel B (fnvQ s))) (find_fn gp gm ts B tv pv s h1 hn hne h2 h3 hfl hts hs) (Wrs.cons rfl (Wrs.cons rfl ((rowE_wrs _ _ _ _).append ((rowE_wrs _ _ _ _).append (rowE_wrs _ _ _ _))))) ?_
    refine List.Perm.cons _ (List.Perm.cons _ (?_ : List.Perm (_ ++ (_ ++ _)) ((_ ++ (_ ++ _)) ++ _)))
    rw [List.append_assoc, List.append_assoc]
    refine List.Perm.append_left _ (List.Perm.append_left _ ?_)
    exact (bkH_del B (fnvQ s)).trans List.perm_append_comm
end Go.Proofs.Ytffahimbmpddpaa.V
