/- Walks and plain laws for this claim (texts Pl3, LayCl, Pl4, Pl5, Pl6, SxRw, Mg5, Mg6, joined). Each theorem states its own conditions. -/
import Derived.Test.YtkojkeabelckjaaGreatDoorJ25
import Derived.Test.YtkojkeabelckjaaGreatDoorJ05
import Derived.Test.YtkojkeabelckjaaGreatDoorJ06
import Derived.Shelf.Pu.Clone
import Derived.Test.YtkojkeabelckjaaGreatDoorJ08
import Derived.Test.YtkojkeabelckjaaGreatDoorJ16

section
set_option linter.all false
namespace Go.Proofs.YtkojkeabelckjaaGreatDoor.V
open Go.RowKit
set_option maxRecDepth 100000
theorem awp_fact {P : Program} {N : Frm} {w0 : World} {Wr : List Nat} {fr : Fr} {H : Heap} {Q : Exit → Act → World → Prop} {c : Code} {p : Prop} (hp : ∀ w, Sat w0 Wr H w → p) (h : p → awp P N w0 Wr c fr H Q) : awp P N w0 Wr c fr H Q :=
 fun a w ha hw => h (hp w hw) a w ha hw
theorem row_cap {w0 w : World} {Wr : List Nat} {H : Heap} {i g n c size : Nat} {e : TypeId} {xs : List Value} (hH : H[i]? = some (.ob g (RowP e size n c xs))) (hw : Sat w0 Wr H w) : n ≤ c ∧ c ≤ maxLen := by
 obtain ⟨ob, _, cur, _, h2, h3, _⟩ := hw.mem hH
 exact ⟨h2, h3⟩
abbrev bkE (gm : Nat) (B : List Bk) : Ent := mapE (fun k : Nat => uq k) (fun v : Value => v) gm (bkM B)
def fdV : Option (Nat × Nat) → Value
 | some c => .tuple #[ctV c, .bool true]
 | none => .tuple #[ctV (0, 0), .bool false]
theorem zeroIs (w : World) : (zeroValue 247).run Tryz.prog w = .ok (.slice none 0 0) w := by kernel_rfl
theorem iqL_at {l : List Nat} {i k : Nat} (h : l[i]? = some k) : rdV false 1 (iqL l) (i * 1) = some (iq (k : Nat)) := by
 rw [Nat.mul_one]
 unfold rdV
 simp [h]
theorem find_fn (gp gm : Nat) (ts : List Tx) (B : List Bk) (tv pv : Value) (s : Tx) (hok : BkOk ts B) (hn : ts.Nodup) (hne : ∀ t ∈ ts, t ≠ []) (htv : RowOk tv ts.flatten.length) (hpv : RowOk pv ts.length)
  (hfl : ts.flatten.length ≤ 1000000000) (hts : ts.length ≤ 1000000) (hs : s.length ≤ 9223372036854775807) :
  Fn Tryz.prog 90 [ptr gp 0, .string (str s)] (.own gp 185 [tv, pv, .map (some gm)] :: bkE gm B :: (rowE tv 5 1 (bv ts.flatten) ++ (rowE pv 123 2 (ctcells (ctsF 0 ts)) ++ rowE (bkV B (fnvQ s)) 3 1 (iqL (bkK B (fnvQ s))))))
   fun v H' => v = fdV (fdQ 0 ts s) ∧ H' = .own gp 185 [tv, pv, .map (some gm)] :: bkE gm B :: (rowE tv 5 1 (bv ts.flatten) ++ (rowE pv 123 2 (ctcells (ctsF 0 ts)) ++ rowE (bkV B (fnvQ s)) 3 1 (iqL (bkK B (fnvQ s))))) := by
 have hget := bkV_get B (fnvQ s)
 have hbo := bkV_ok B (fnvQ s)
 obtain ⟨hkl, hkt⟩ := bkK_lt hok (fnvQ s)
 have hall := fun k => bkK_all (k := k) (t := s) hok
 have hfs := fnv_sum s hs
 obtain ⟨q, hq⟩ : ∃ q, fnvQ s = q := ⟨_, rfl⟩
 rw [hq] at hget hbo hkl hkt hall hfs ⊢
 obtain ⟨ks, hks⟩ : ∃ ks, bkK B q = ks := ⟨_, rfl⟩
 obtain ⟨vb, hvb⟩ : ∃ v, bkV B q = v := ⟨_, rfl⟩
 rw [hks] at hbo hkl hkt hall
 rw [hvb] at hget hbo
 rw [hks, hvb]
 clear hvb
 obtain ⟨Ab, cb, rfl, hAb⟩ := hbo.form
 refine Fn.enter (N := 39) Tryz.func90 rfl (by kernel_rfl) rfl (fun w0 => ?_)
 refine aR (fun Z hZ => ?_)
 refine sAl tyZ123 rfl (fun g1 => ?_)
 refine sA rfl rfl <| sN (hZ _ _ ?_)
 refine aF [(0, _), (1, _), (4, _)] (kR rfl) ?_
 refine aS ?_
 refine aR fun Z hZ => sM rfl rfl ?_
 refine sx_ptrNil Tryz.underlying117 rfl rfl ?_
 refine sN (hZ _ _ ?_)
 refine aF [(0, _), (1, _), (4, _), (10, _)] (kR rfl) ?_
 refine aC rfl (fun h => ?_) (fun h => ?_)
 ·cases h
 refine aK ?_
 with_reducible refine nN ?_
 refine aS ?_
 refine jD0 _ [(0, true), (1, true), (2, true), (3, true), (4, true), (5, false), (6, true), (7, true), (8, true)] mixed (by kernel_rfl) (HLe.pick [1, 2] (by simp) (by simp only [pick, List.filterMap_cons, qS]; rfl)) (fun Z hZ => ?_)
 refine tw_p rfl ?_
 refine jA3 rfl rfl ?_
 refine vN ?_
 refine tw_p rfl ?_
 refine jF6 rfl rfl ?_
 refine vN ?_
 refine tw_p rfl ?_
 refine jA2 rfl tyF185_2 (by simp only [Nat.zero_add]; rfl) rfl ?_
 refine vN ?_
 refine tw_p rfl ?_
 refine jE6 0 rfl rfl tyA183 tyS183 rfl rfl ?_
 refine vN ?_
 refine tw_p rfl ?_
 refine jA3 rfl rfl ?_
 refine vN ?_
 refine tw_g rfl ?_
 refine sCP hfs rfl rfl ?_
 refine sN ⟨HLe.pick [1, 2] (by simp) rfl, ?_⟩
 refine tw_p rfl ?_
 refine sv_lookup 1 keyU Tryz.underlying183 zeroIs q _ rfl rfl rfl hget rfl ?_
 refine vN ?_
 refine tw_p rfl ?_
 refine sv_len Tryz.underlying247 rfl rfl ?_
 refine vN ?_
 refine tw_p rfl ?_
 refine jA3 rfl rfl ?_
 refine vN ?_
 refine jH2 (hZ _ _ ?_)
 refine aF [(0, _), (1, _), (4, _), (18, _), (19, _), (20, _)] (kR rfl) ?_
 have hnf : ∀ k, k ∈ ks → ∀ t, ts[k]? = some t → t = s → fdQ 0 ts s = some ((ts.take k).flatten.length, s.length) := fun k _ t ht he => by
  subst he
  rw [fdQ_at ts 0 k t hn ht, Nat.zero_add]
 refine aB ?_
 refine jB6 (ι := Nat) (fun i => [(0, ptr gp 0), (1, .string (str s)), (4, ptr g1 0), (18, .slice Ab ks.length cb), (19, iq (ks.length : Nat)), (20, iq (i : Nat))])
  (fun _ => .own g1 123 [uq 0, wq4 0] :: .own gp 185 [tv, pv, .map (some gm)] :: bkE gm B :: (rowE tv 5 1 (bv ts.flatten) ++ (rowE pv 123 2 (ctcells (ctsF 0 ts)) ++ rowE (.slice Ab ks.length cb) 3 1 (iqL ks))))
  (fun i => i ≤ ks.length ∧ ∀ j k t, j < i → ks[j]? = some k → ts[k]? = some t → t ≠ s) (fun i => ks.length - i) 0 ⟨by simp, fun j k t hj => by omega⟩ (kR rfl) (HLe.refl _) ?_
 rintro i ⟨hi, hbef⟩
 refine aR (fun Z hZ => ?_)
 refine jC4 rfl rfl rfl ?_
 refine sN (hZ _ _ ?_)
 refine aF [(0, _), (1, _), (4, _), (18, _), (19, _), (20, _), (21, _)] (kR rfl) ?_
 refine aS (aC rfl (fun h1 => ?_) (fun h1 => ?_))
 ·have hlt : i < ks.length := by simpa using h1
  obtain ⟨k, hk⟩ : ∃ k, ks[i]? = some k := ⟨_, List.getElem?_eq_getElem hlt⟩
  have hkm := List.mem_of_getElem? hk
  have hkts := hkt k hkm
  obtain ⟨t, ht⟩ : ∃ t, ts[k]? = some t := ⟨_, List.getElem?_eq_getElem hkts⟩
  obtain ⟨hf1, hf2⟩ := flat_at ts k t ht
  have htp : 0 < t.length := List.length_pos_iff.2 (hne t (List.mem_of_getElem? ht))
  have hct := ctsF_at ts 0 k t ht
  rw [Nat.zero_add] at hct
  obtain ⟨o, ho⟩ : ∃ o, (ts.take k).flatten.length = o := ⟨_, rfl⟩
  have hnf1 := hnf k hkm t ht
  rw [ho] at hf1 hf2 hct hnf1
  obtain ⟨gt, ct, rfl⟩ := htv.some (by omega)
  obtain ⟨gl, cl, rfl⟩ := hpv.some (by omega)
  obtain ⟨gb, cb', heb⟩ := hbo.some (by omega)
  injection heb with he1 _ he2
  subst he1; subst he2
  refine jA8 [.own g1 123 [uq 0, wq4 0], .own gp 185 [.slice (some ⟨gt, 0, none⟩) ts.flatten.length ct, .slice (some ⟨gl, 0, none⟩) ts.length cl, .map (some gm)], bkE gm B, .ob gt (RowP 5 1 ts.flatten.length ct (bv ts.flatten)), .ob gl (RowP 123 2 ts.length cl (ctcells (ctsF 0 ts))), .ob gb (RowP 3 1 ks.length cb (iqL ks))] (HLe.refl _) ?_
  refine awp_fact (fun w hw => row_cap (i := 3) rfl hw) (fun hcap => ?_)
  have hat := at_fn gp gt ts.flatten.length ct (.slice (some ⟨gl, 0, none⟩) ts.length cl) (.map (some gm)) ts.flatten o t.length rfl hcap.1 hfl hf1
  rw [hf2] at hat
  refine aK ?_
  with_reducible refine nN ?_
  refine aS (aB ?_)
  refine aR (fun Z hZ => ?_)
  refine jA6 (0 + i * 1) Tryz.underlying247 tyS3 rfl rfl (by omega) (by simp) rfl ?_
  refine sx_loadRd (i * 1) rfl rfl (fun w hw => rd_row (i := 5) rfl hw) (by omega) tyA3 tyS3 (iqL_at hk) rfl ?_
  refine sA rfl rfl <| sN (hZ _ _ ?_)
  refine aF [(0, _), (1, _), (4, _), (7, _), (18, _), (19, _), (20, _)] (kR rfl) ?_
  refine aR fun Z hZ => sM rfl rfl ?_
  refine jA5 rfl rfl ?_
  refine sFA rfl tyF185_1 (by simp only [Nat.zero_add]; rfl) rfl ?_
  refine sL 1 rfl rfl tyA182 tyS182 rfl rfl ?_
  refine sM rfl rfl ?_
  refine jA6 (0 + k * 2) Tryz.underlying182 tyS123 rfl rfl (by omega) (by simp) rfl ?_
  refine sx_loadRd (k * 2) rfl rfl (fun w hw => rd_row (i := 4) rfl hw) (by omega) tyA123 tyS123 (ctcells_all hct) rfl ?_
  refine sAl tyZ123 rfl (fun g2 => ?_)
  refine sS 0 rfl rfl rfl tyS123 (by simp only [Value.cells]; rfl) rfl rfl rfl (by simp only [qS, Nat.reduceAdd, wrV]; rfl) (by simp only [List.set_cons_zero]; rfl) ?_
  refine sN (hZ _ _ ?_)
  refine aF [(0, _), (1, _), (4, _), (8, _), (18, _), (19, _), (20, _)] (kR rfl) ?_
  refine aR fun Z hZ => sM rfl rfl ?_
  refine sLA 0 rfl rfl tyA123 tyS123 rfl (by simp only [qS]; rfl) rfl ?_
  refine sx_callV [.ro gp 0 _, .ro gt 0 _] hat rfl ((HLe.toRo [] [_]).trans ((HLe.rowRo [_] []).trans (HLe.pick [2, 4] (by simp) rfl))) (by intro x hx; simp at hx; rcases hx with rfl | rfl <;> rfl) rfl ?_
  refine sM rfl rfl ?_
  refine sx_seql rfl rfl rfl ?_
  refine sN (hZ _ _ ?_)
  refine aF [(0, _), (1, _), (4, _), (8, _), (18, _), (19, _), (20, _), (35, _)] (kR rfl) ?_
  refine aC rfl (fun h2 => ?_) (fun h2 => ?_)
  ·have h2' : t = s := by simpa using h2
   rw [hnf1 h2', ← h2']
   refine aR (fun Z hZ => ?_)
   refine sLA 0 rfl rfl tyA123 tyS123 rfl (by simp only [qS]; rfl) rfl ?_
   refine sS 1 rfl rfl rfl tyS123 (by simp only [Value.cells]; rfl) rfl rfl rfl (by simp only [qS, Nat.reduceAdd, wrV]; rfl) (by simp only [qS]; rfl) ?_
   refine sA rfl rfl <| sN (hZ _ _ ?_)
   refine aF [(4, _), (5, _)] (kR rfl) ?_
   refine aE ?_
   repeat (with_reducible (first | refine nTR ?_ | refine nBR ?_))
   exact jB4 _ rfl (ResOk.cell 1 rfl rfl tyA123 tyS123 rfl) rfl (HLe.drop 2 rfl) ⟨rfl, rfl⟩
  have h2' : ¬ t = s := by simpa using h2
  refine aK ?_
  repeat (with_reducible refine nBN ?_)
  with_reducible refine nN ?_
  refine aG (fun Z hZ => ?_)
  refine jB8 rfl rfl ((i + 1 : Nat) : Int) (by rw [IntWalk.i64_in _ (by omega)]; omega) rfl ?_
  refine sM rfl rfl <| sN (hZ _ _ ?_)
  refine nF [(0, _), (1, _), (4, _), (18, _), (19, _), (20, _)] (kR rfl) ?_
  refine jB5 (i + 1) ⟨hlt, fun j k' t' hj hk' ht' => ?_⟩ (by omega) (kR rfl) (HLe.drop 1 rfl)
  rcases Nat.lt_or_ge j i with h5 | h5
  ·exact hbef j k' t' h5 hk' ht'
  ·obtain rfl : j = i := by omega
   rw [hk] at hk'
   injection hk' with hk'
   subst hk'
   rw [ht] at ht'
   injection ht' with ht'
   subst ht'
   exact h2'
 ·refine jB1 ?_
  repeat (with_reducible refine nTE ?_)
  with_reducible refine nBE ?_
  with_reducible refine nN ?_
  have hke : i = ks.length := by simp at h1; omega
  subst hke
  have hno : fdQ 0 ts s = none := by
   rw [fdQ_none]
   intro hm
   obtain ⟨k, hkl', hks'⟩ := List.getElem_of_mem hm
   have hk1 : ts[k]? = some s := by rw [List.getElem?_eq_getElem hkl', hks']
   have := hall k hk1
   obtain ⟨j, hj, hj'⟩ := List.getElem_of_mem this
   exact hbef j k s hj (by rw [List.getElem?_eq_getElem hj, hj']) hk1 rfl
  rw [hno]
  refine aR (fun Z hZ => ?_)
  refine jD1 tyZ123 tyP123 rfl rfl rfl rfl ?_
  refine sS 0 rfl rfl rfl tyS123 (by simp only [Value.cells]; rfl) rfl rfl rfl (by simp only [qS, Nat.reduceAdd, wrV]; rfl) (by simp only [List.set_cons_zero]; rfl) ?_
  refine sA rfl rfl <| sN (hZ _ _ ?_)
  refine aF [(4, _), (5, _)] (kR rfl) ?_
  refine aE ?_
  exact jB4 _ rfl (ResOk.cell 0 rfl rfl tyA123 tyS123 rfl) rfl (HLe.drop 1 rfl) ⟨rfl, rfl⟩
end Go.Proofs.YtkojkeabelckjaaGreatDoor.V
end

section
set_option linter.all false
namespace Go.Proofs.YtkojkeabelckjaaGreatDoor
open Go.RowKit
def scl_rho : Go.Shelf.Ren := ⟨fun n => match n with | 25 => 141 | _ => 0, fun n => match n with | 0 => 0 | 3 => 3 | 4 => 4 | 5 => 5 | 9 => 9 | 37 => 132 | 47 => 254 | _ => 0, fun n => match n with | _ => 0⟩
theorem scl0 : LaysPu.n25 Tryz.prog scl_rho where
 mixed := by kernel_rfl
 f25 := by kernel_rfl
 t0 := by kernel_rfl
 a0 := fun w => by kernel_rfl
 z0 := fun w => by kernel_rfl
 v0 := fun w => by kernel_rfl
 i0 := by kernel_rfl
 t3 := by kernel_rfl
 a3 := fun w => by kernel_rfl
 z3 := fun w => by kernel_rfl
 v3 := fun w => by kernel_rfl
 i3 := by kernel_rfl
 t4 := by kernel_rfl
 a4 := fun w => by kernel_rfl
 z4 := fun w => by kernel_rfl
 v4 := fun w => by kernel_rfl
 i4 := by kernel_rfl
 t5 := by kernel_rfl
 a5 := fun w => by kernel_rfl
 z5 := fun w => by kernel_rfl
 v5 := fun w => by kernel_rfl
 i5 := by kernel_rfl
 t9 := by kernel_rfl
 a9 := fun w => by kernel_rfl
 z9 := fun w => by kernel_rfl
 v9 := fun w => by kernel_rfl
 i9 := by kernel_rfl
 t37 := by kernel_rfl
 a37 := fun w => by kernel_rfl
 z37 := fun w => by kernel_rfl
 v37 := fun w => by kernel_rfl
 i37 := by kernel_rfl
 t47 := by kernel_rfl
 a47 := fun w => by kernel_rfl
 z47 := fun w => by kernel_rfl
 v47 := fun w => by kernel_rfl
 i47 := by kernel_rfl
theorem enter_scl : Enters Tryz.prog 141 := Enters.mk Tryz.func141 (by kernel_rfl) (by kernel_rfl)
theorem scl_fn (s : List UInt8) (h : s.length ≤ 281474976710656) : Fn Tryz.prog 141 [.string (str s)] [] fun v _ => v = .string (str s) :=
 Fn.of_bel enter_scl fun w => (AnyPu.stringslite_Clone scl0 (str s) w (by rw [str_size]; exact h)).mono fun e w' ⟨he, a, b, c, d, f⟩ => ⟨he, a, b, c, d, f⟩
theorem sclone_fn (s : List UInt8) (h : s.length ≤ 281474976710656) : Fn Tryz.prog 92 [.string (str s)] [] fun v _ => v = .string (str s) := by
 refine Fn.enter (N := 5) Tryz.func92 rfl (by kernel_rfl) rfl (fun w0 => ?_)
 refine aR fun Z hZ => sA rfl rfl <| sN (hZ _ _ ?_)
 refine aF [(0, _)] (Kn.cons rfl (Kn.nil)) ?_
 refine aR fun Z hZ => sM rfl rfl ?_
 refine sCP (scl_fn s h) rfl rfl ?_
 refine sA rfl rfl <| sN (hZ _ _ ?_)
 refine aF [(2, _)] (Kn.cons rfl (Kn.nil)) ?_
 refine aE ?_
 repeat (with_reducible (first | refine nTR ?_ | refine nBR ?_ | refine jE9 ?_))
 exact nR1 rfl rfl rfl
end Go.Proofs.YtkojkeabelckjaaGreatDoor
end

section
set_option linter.all false
namespace Go.Proofs.YtkojkeabelckjaaGreatDoor.V
open Go.RowKit
set_option maxRecDepth 100000
section
variable {P : Program} {N : Frm} {w0 : World} {Wr : List Nat} {ops : Array Oper} {rest : List Oper} {fr : Fr} {H : Heap} {Z : Fr → Heap → Prop} {d ty : Nat} {pos : String} {after : Array Edge}
theorem sx_makeFuncB {f : FuncId} {xs : List Operand} {vs : List Value} (hx : evs fr xs = some vs) (hN : Nat.ble (d + 1) N.n = true)
  (h : sx P N w0 Wr ops rest ((d, .func (.func f) vs.toArray #[]) :: fr) H Z) : sx P N w0 Wr ops (⟨some d, .makeFunc (.func f) xs.toArray #[], ty, pos, after, none⟩ :: rest) fr H Z :=
 jE3 _ hN (fun a w ha hw => by
  have := ha.evals hx
  subst this
  simp [execOp, Instr.makeFunc, Sem.run_pure]) h
theorem run_callFB {f : FuncId} {bs : List Value} {vs : List Value} (hE : Enters P f) {x : Operand} {xs : List Operand} {ts : Array TypeId} {ρ : Operand → Value} (hx : xs.map ρ = vs) (hf : ρ x = .func (.func f) bs.toArray #[]) {dst : Option Nat} {w : World} :
  (execOp ρ ⟨dst, .call { callee := .value x, args := xs.toArray, argTypes := ts }, ty, pos, after, none⟩).run P w = .ok (.enter f (bs ++ vs).toArray) w := by
 obtain ⟨fn, h1, h2, h3⟩ := hE
 subst hx
 have h2' : ¬ (fn.name = "runtime.NumGoroutine") := by simpa using h2
 have h3' : ¬ (fn.body = none) := by intro e; rw [e] at h3; cases h3
 simp [execOp, resolve, hf, Deferred.ofValue, invoke, callFunc, h1, h2', h3', program, Sem.run_bind, Sem.run_pure, Sem.run]
theorem sx_callFB {f : FuncId} {bs : List Value} {x : Operand} {xs : List Operand} {vs : List Value} {ts : Array TypeId} {dst : Option Nat} {Hc : Heap} {R : Value → Heap → Prop} (K : Heap) (hc : Fn P f (bs ++ vs) Hc R) (hf : ev fr x = some (.func (.func f) bs.toArray #[])) (hx : evs fr xs = some vs) (hH : HLe (Hc ++ K) H) (hN : dstB N dst = true)
  (h : ∀ v H', R v H' → sx P N w0 Wr ops rest (match dst with | some d => (d, v) :: fr | none => fr) (H'.filter Ent.wr ++ K) Z) :
  sx P N w0 Wr ops (⟨dst, .call { callee := .value x, args := xs.toArray, argTypes := ts }, ty, pos, after, none⟩ :: rest) fr H Z :=
 sx_op rfl fun a w K' Q ha hw hK => by
  unfold Oper.wp
  rw [run_callFB hc.1 (ha.evals hx) (ha.eval hf)]
  have hw' := hH _ _ _ hw
  have hpre : Sat w (wrs Hc) Hc w := ⟨Only.refl _ _, fun e he => ⟨(hw'.ents e (List.mem_append_left _ he)).1, fun h => .inl (mem_wrs.2 ⟨e, he, h, rfl⟩)⟩, (List.pairwise_append.1 hw'.sep).1⟩
  refine (hc.2 w hpre).mono fun e w' he => ?_
  obtain ⟨v, H', rfl, hR, hS⟩ := he
  have hS' := Sat.callA (U := []) hw' Ro.nil (by rw [List.append_nil]; exact hS)
  cases dst with
  | none => exact hK v w' fr _ (h v H' hR) (ha.skip _) hS'
  | some d => exact hK v w' _ _ (h v H' hR) (ha.put hN v) hS'
end
theorem Fn.frame {P : Program} {f : FuncId} {vs : List Value} {x : Value} {Hc K H : Heap} (hc : Fn P f vs Hc fun v H' => v = x ∧ H' = Hc) (hw : Wrs Hc) (hp : H.Perm (Hc ++ K)) : Fn P f vs H fun v H' => v = x ∧ H' = H :=
 ⟨hc.1, fun w hS => by
  have hS2 : Sat w (wrs H) (Hc ++ K) w := hS.perm hp
  have hpre : Sat w (wrs Hc) Hc w := ⟨Only.refl _ _, fun e he => ⟨(hS2.ents e (List.mem_append_left _ he)).1, fun h => .inl (mem_wrs.2 ⟨e, he, h, rfl⟩)⟩, (List.pairwise_append.1 hS2.sep).1⟩
  refine (hc.2 w hpre).mono fun e w' he => ?_
  obtain ⟨v, H', h1, ⟨h2, h3⟩, h4⟩ := he
  subst h3
  have h5 := Sat.callA (U := []) hS2 Ro.nil (by rw [List.append_nil]; exact h4)
  rw [hw.filter] at h5
  exact ⟨v, H, h1, ⟨h2, rfl⟩, h5.perm hp.symm⟩⟩
def bkDel : List Bk → Nat → List Bk
 | [], _ => []
 | b :: r, q => if b.key = q then r else b :: bkDel r q
def bkPut : List Bk → Bk → List Bk
 | [], x => [x]
 | b :: r, x => if b.key = x.key then x :: r else b :: bkPut r x
theorem bkM_put : ∀ (B : List Bk) (x : Bk), bkM (bkPut B x) = aput (bkM B) x.key x.v
 | [], _ => rfl
 | b :: r, x => by
  show bkM (if b.key = x.key then x :: r else b :: bkPut r x) = if b.key = x.key then (x.key, x.v) :: bkM r else (b.key, b.v) :: aput (bkM r) x.key x.v
  split
  ·rfl
  ·rw [← bkM_put r x]; rfl
theorem bkH_put : ∀ (B : List Bk) (x : Bk), (bkH (bkPut B x)).Perm (bkH (bkDel B x.key) ++ [x.e])
 | [], x => List.Perm.refl _
 | b :: r, x => by
  unfold bkPut bkDel
  split
  ·exact (List.perm_append_singleton x.e (bkH r)).symm
  ·exact List.Perm.cons _ (bkH_put r x)
theorem bkH_del : ∀ (B : List Bk) (q : Nat), (bkH B).Perm (bkH (bkDel B q) ++ rowE (bkV B q) 3 1 (iqL (bkK B q)))
 | [], q => List.Perm.refl _
 | b :: r, q => by
  by_cases h : b.key = q
  ·have hf : bkOf (b :: r) q = some b := by unfold bkOf; rw [List.find?_cons, beq_iff_eq.2 h]
   have h1 : bkV (b :: r) q = b.v := by unfold bkV; rw [hf]
   have h2 : bkK (b :: r) q = b.ks := by unfold bkK; rw [hf]
   rw [h1, h2, bkDel, if_pos h]
   exact (List.perm_append_singleton b.e (bkH r)).symm
  ·have hf : bkOf (b :: r) q = bkOf r q := by unfold bkOf; rw [List.find?_cons, beq_eq_false_iff_ne.2 h]
   have h1 : bkV (b :: r) q = bkV r q := by unfold bkV; rw [hf]
   have h2 : bkK (b :: r) q = bkK r q := by unfold bkK; rw [hf]
   rw [h1, h2, bkDel, if_neg h]
   exact List.Perm.cons _ (bkH_del r q)
theorem bkPut_keys : ∀ (B : List Bk) (x : Bk), (∀ k, k ∈ (bkPut B x).map Bk.key ↔ k = x.key ∨ k ∈ B.map Bk.key) ∧ ((B.map Bk.key).Nodup → ((bkPut B x).map Bk.key).Nodup) ∧ (∀ b ∈ bkPut B x, b = x ∨ b ∈ B) ∧ (∀ b ∈ B, b.key ≠ x.key → b ∈ bkPut B x) ∧ x ∈ bkPut B x
 | [], x => by simp [bkPut]
 | b :: r, x => by
  obtain ⟨h1, h2, h3, h4, h5⟩ := bkPut_keys r x
  unfold bkPut
  split
  ·rename_i h
   refine ⟨fun k => by simp [h], fun hn => by simpa [h] using hn, fun y hy => ?_, fun y hy hk => ?_, List.mem_cons_self⟩
   ·rcases List.mem_cons.1 hy with rfl | hy
    ·exact .inl rfl
    ·exact .inr (List.mem_cons_of_mem _ hy)
   ·rcases List.mem_cons.1 hy with rfl | hy
    ·exact absurd h hk
    ·exact List.mem_cons_of_mem _ hy
  ·rename_i h
   refine ⟨fun k => ?_, fun hn => ?_, fun y hy => ?_, fun y hy hk => ?_, List.mem_cons_of_mem _ h5⟩
   ·rw [List.map_cons, List.mem_cons, h1, List.map_cons, List.mem_cons]
    constructor
    ·rintro (h | h | h)
     ·exact .inr (.inl h)
     ·exact .inl h
     ·exact .inr (.inr h)
    ·rintro (h | h | h)
     ·exact .inr (.inl h)
     ·exact .inl h
     ·exact .inr (.inr h)
   ·rw [List.map_cons, List.nodup_cons] at hn ⊢
    refine ⟨fun hm => ?_, h2 hn.2⟩
    rcases (h1 _).1 hm with hm | hm
    ·exact h hm
    ·exact hn.1 hm
   ·rcases List.mem_cons.1 hy with rfl | hy
    ·exact .inr List.mem_cons_self
    ·exact (h3 y hy).imp id (List.mem_cons_of_mem _)
   ·rcases List.mem_cons.1 hy with rfl | hy
    ·exact List.mem_cons_self
    ·exact List.mem_cons_of_mem _ (h4 y hy hk)
theorem BkOk.put {ts : List Tx} {B : List Bk} (h : BkOk ts B) (s : Tx) (g c : Nat) : BkOk (ts ++ [s]) (bkPut B ⟨fnvQ s, g, c, bkK B (fnvQ s) ++ [ts.length]⟩) := by
 obtain ⟨h1, h2, h3, h4, h5⟩ := bkPut_keys B ⟨fnvQ s, g, c, bkK B (fnvQ s) ++ [ts.length]⟩
 obtain ⟨k1, k2⟩ := bkK_lt h (fnvQ s)
 refine ⟨h2 h.nd, fun b hb => ?_, fun k t ht => ?_⟩
 ·rw [List.length_append, List.length_singleton]
  rcases h3 b hb with rfl | hb
  ·refine ⟨by simp only [List.length_append, List.length_singleton]; omega, fun k hk => ?_⟩
   rcases List.mem_append.1 hk with hk | hk
   ·have := k2 k hk; omega
   ·have := List.mem_singleton.1 hk; omega
  ·obtain ⟨b1, b2⟩ := h.lt b hb
   exact ⟨by omega, fun k hk => by have := b2 k hk; omega⟩
 ·by_cases hk : k < ts.length
  ·rw [List.getElem?_append_left hk] at ht
   by_cases hq : fnvQ t = fnvQ s
   ·exact ⟨_, h5, hq.symm, List.mem_append_left _ (hq ▸ bkK_all h ht)⟩
   ·obtain ⟨b, hb, b1, b2⟩ := h.all k t ht
    exact ⟨b, h4 b hb (by rw [b1]; exact hq), b1, b2⟩
  ·rw [List.getElem?_append_right (by omega)] at ht
   have hlt := (List.getElem?_eq_some_iff.1 ht).1
   simp only [List.length_singleton] at hlt
   have hk0 : k - ts.length = 0 := by omega
   rw [hk0] at ht
   injection ht with ht
   subst ht
   exact ⟨_, h5, rfl, List.mem_append_right _ (List.mem_singleton.2 (by omega))⟩
abbrev nilS : Value := .slice none 0 0
abbrev plK (gm : Nat) (ts : List Tx) (B : List Bk) (tv pv : Value) : Heap := bkE gm B :: (rowE tv 5 1 (bv ts.flatten) ++ (rowE pv 123 2 (ctcells (ctsF 0 ts)) ++ bkH B))
def PlOk (gm : Nat) (ts : List Tx) (B : List Bk) (tv pv : Value) : Prop := BkOk ts B ∧ RowOk tv ts.flatten.length ∧ RowOk pv ts.length
def PoolIs (gp : Nat) (ts : List Tx) (H : Heap) : Prop :=
 (ts = [] ∧ H = [.own gp 185 [nilS, nilS, .map none]]) ∨ ∃ gm B tv pv, PlOk gm ts B tv pv ∧ H = .own gp 185 [tv, pv, .map (some gm)] :: plK gm ts B tv pv
theorem bkH_wrs (B : List Bk) : Wrs (bkH B) := fun e he => by
 obtain ⟨b, _, rfl⟩ := List.mem_map.1 he
 rfl
theorem plK_wrs (gm : Nat) (ts : List Tx) (B : List Bk) (tv pv : Value) : Wrs (plK gm ts B tv pv) := Wrs.cons rfl ((rowE_wrs _ _ _ _).append ((rowE_wrs _ _ _ _).append (bkH_wrs B)))
theorem PoolIs.wrs {gp : Nat} {ts : List Tx} {H : Heap} (h : PoolIs gp ts H) : Wrs H := by
 rcases h with ⟨_, rfl⟩ | ⟨gm, B, tv, pv, _, rfl⟩
 ·exact Wrs.cons rfl Wrs.nil
 ·exact Wrs.cons rfl (plK_wrs _ _ _ _ _)
theorem find0_fn (gp : Nat) (s : Tx) (hs : s.length ≤ 9223372036854775807) :
  Fn Tryz.prog 90 [ptr gp 0, .string (str s)] [.own gp 185 [nilS, nilS, .map none]] fun v H' => v = fdV none ∧ H' = [.own gp 185 [nilS, nilS, .map none]] := by
 have hfs := fnv_sum s hs
 refine Fn.enter (N := 39) Tryz.func90 rfl (by kernel_rfl) rfl (fun w0 => ?_)
 refine aR (fun Z hZ => ?_)
 refine sAl tyZ123 rfl (fun g1 => ?_)
 refine sA rfl rfl <| sN (hZ _ _ ?_)
 refine aF [(0, _), (1, _), (4, _)] (kR rfl) ?_
 refine aS ?_
 refine aR fun Z hZ => sM rfl rfl ?_
 refine sx_ptrNil Tryz.underlying117 rfl rfl ?_
 refine sN (hZ _ _ ?_)
 refine aF [(0, _), (1, _), (4, _), (10, _)] (kR rfl) ?_
 refine aC rfl (fun h => ?_) (fun h => ?_)
 ·cases h
 refine aK ?_
 with_reducible refine nN ?_
 refine aS ?_
 refine jD0 _ [(0, true), (1, true), (2, true), (3, true), (4, true), (5, false), (6, true), (7, true), (8, true)] mixed (by kernel_rfl) (HLe.pick [1] (by simp) (by simp only [pick, List.filterMap_cons, qS]; rfl)) (fun Z hZ => ?_)
 refine tw_p rfl ?_
 refine jA3 rfl rfl ?_
 refine vN ?_
 refine tw_p rfl ?_
 refine jF6 rfl rfl ?_
 refine vN ?_
 refine tw_p rfl ?_
 refine jA2 rfl tyF185_2 (by simp only [Nat.zero_add]; rfl) rfl ?_
 refine vN ?_
 refine tw_p rfl ?_
 first | refine jE6 0 rfl rfl tyA183 tyS183 rfl rfl ?_
 refine vN ?_
 refine tw_p rfl ?_
 refine jA3 rfl rfl ?_
 refine vN ?_
 refine tw_g rfl ?_
 refine sCP hfs rfl rfl ?_
 refine sN ⟨HLe.pick [1] (by simp) rfl, ?_⟩
 refine tw_p rfl ?_
 refine sv_lookupNil keyU Tryz.underlying183 zeroIs (fnvQ s) _ rfl rfl rfl rfl ?_
 refine vN ?_
 refine tw_p rfl ?_
 refine sv_len Tryz.underlying247 rfl rfl ?_
 refine vN ?_
 refine tw_p rfl ?_
 refine jA3 rfl rfl ?_
 refine vN ?_
 refine jH2 (hZ _ _ ?_)
 refine aF [(0, _), (1, _), (4, _), (18, _), (19, _), (20, _)] (kR rfl) ?_
 refine aB ?_
 refine jB6 (ι := Unit) (fun _ => [(0, ptr gp 0), (1, .string (str s)), (4, ptr g1 0), (18, nilS), (19, iq (0 : Nat)), (20, iq (0 : Nat))])
  (fun _ => [.own g1 123 [uq 0, wq4 0], .own gp 185 [nilS, nilS, .map none]]) (fun _ => True) (fun _ => 0) () trivial (kR rfl) (HLe.refl _) ?_
 rintro ⟨⟩ -
 refine aR (fun Z hZ => ?_)
 refine jC4 rfl rfl rfl ?_
 refine sN (hZ _ _ ?_)
 refine aF [(0, _), (1, _), (4, _), (18, _), (19, _), (20, _), (21, _)] (kR rfl) ?_
 refine aS (aC rfl (fun h1 => ?_) (fun h1 => ?_))
 ·simp at h1
 ·refine jB1 ?_
  repeat (with_reducible refine nTE ?_)
  with_reducible refine nBE ?_
  with_reducible refine nN ?_
  refine aR (fun Z hZ => ?_)
  refine jD1 tyZ123 tyP123 rfl rfl rfl rfl ?_
  refine sS 0 rfl rfl rfl tyS123 (by simp only [Value.cells]; rfl) rfl rfl rfl (by simp only [qS, Nat.reduceAdd, wrV]; rfl) (by simp only [List.set_cons_zero]; rfl) ?_
  refine sA rfl rfl <| sN (hZ _ _ ?_)
  refine aF [(4, _), (5, _)] (kR rfl) ?_
  refine aE ?_
  exact jB4 _ rfl (ResOk.cell 0 rfl rfl tyA123 tyS123 rfl) rfl (HLe.drop 1 rfl) ⟨rfl, rfl⟩
theorem find_is {gp : Nat} {ts : List Tx} {H : Heap} (h : PoolIs gp ts H) (s : Tx) (hn : ts.Nodup) (hne : ∀ t ∈ ts, t ≠ []) (hfl : ts.flatten.length ≤ 1000000000) (hts : ts.length ≤ 1000000) (hs : s.length ≤ 9223372036854775807) :
  Fn Tryz.prog 90 [ptr gp 0, .string (str s)] H fun v H' => v = fdV (fdQ 0 ts s) ∧ H' = H := by
 rcases h with ⟨rfl, rfl⟩ | ⟨gm, B, tv, pv, ⟨h1, h2, h3⟩, rfl⟩
 ·exact find0_fn gp s hs
 ·refine Fn.frame (K := bkH (bkDel B (fnvQ s))) (find_fn gp gm ts B tv pv s h1 hn hne h2 h3 hfl hts hs) (Wrs.cons rfl (Wrs.cons rfl ((rowE_wrs _ _ _ _).append ((rowE_wrs _ _ _ _).append (rowE_wrs _ _ _ _))))) ?_
  refine List.Perm.cons _ (List.Perm.cons _ (?_ : List.Perm (_ ++ (_ ++ _)) ((_ ++ (_ ++ _)) ++ _)))
  rw [List.append_assoc, List.append_assoc]
  refine List.Perm.append_left _ (List.Perm.append_left _ ?_)
  exact (bkH_del B (fnvQ s)).trans List.perm_append_comm
theorem HLe.perm {A B : Heap} (h : B.Perm A) : HLe A B := fun _ _ _ hw => hw.perm h
theorem le_last {X T P B D R : Heap} (h : B.Perm (D ++ R)) : HLe ((X ++ (T ++ (P ++ D))) ++ R) (X ++ (T ++ (P ++ B))) := HLe.perm (by
 simp only [List.append_assoc]
 exact List.Perm.append_left X (List.Perm.append_left T (List.Perm.append_left P h)))
theorem le_lastB {X T P B D R : Heap} (h : B.Perm (D ++ R)) : HLe (X ++ (T ++ (P ++ B))) ((X ++ (T ++ (P ++ D))) ++ R) := HLe.perm (by
 simp only [List.append_assoc]
 exact List.Perm.append_left X (List.Perm.append_left T (List.Perm.append_left P h.symm)))
theorem le_mid {X T P B : Heap} : HLe ((X ++ (T ++ B)) ++ P) (X ++ (T ++ (P ++ B))) := HLe.perm (by
 simp only [List.append_assoc]
 exact List.Perm.append_left X (List.Perm.append_left T List.perm_append_comm))
theorem le_midB {X T P B : Heap} : HLe (X ++ (T ++ (P ++ B))) ((X ++ (T ++ B)) ++ P) := HLe.perm (by
 simp only [List.append_assoc]
 exact List.Perm.append_left X (List.Perm.append_left T List.perm_append_comm))
theorem le_fst {X T B : Heap} : HLe ((X ++ B) ++ T) (X ++ (T ++ B)) := HLe.perm (by
 simp only [List.append_assoc]
 exact List.Perm.append_left X List.perm_append_comm)
theorem le_fstB {X T B : Heap} : HLe (X ++ (T ++ B)) ((X ++ B) ++ T) := HLe.perm (by
 simp only [List.append_assoc]
 exact List.Perm.append_left X List.perm_append_comm)
theorem put_fn {gp : Nat} {ts : List Tx} {H : Heap} (h : PoolIs gp ts H) (s : Tx) (hfl : ts.flatten.length + s.length ≤ 1000000000) (hts : ts.length ≤ 1000000) (hs : s.length ≤ 65536) :
  Fn Tryz.prog 91 [ptr gp 0, .string (str s)] H fun v H' => v = ctV (ts.flatten.length, s.length) ∧ PoolIs gp (ts ++ [s]) H' := by
 have hfs := fnv_sum s (by omega)
 obtain ⟨q, hq⟩ : ∃ q, fnvQ s = q := ⟨_, rfl⟩
 rw [hq] at hfs
 obtain ⟨tv, pv, m, K, hH, htv, hpv, hm⟩ : ∃ tv pv m K, H = .own gp 185 [tv, pv, .map m] :: K ∧ RowOk tv ts.flatten.length ∧ RowOk pv ts.length ∧ ((m = none ∧ ts = [] ∧ tv = nilS ∧ pv = nilS ∧ K = []) ∨ ∃ gm B, m = some gm ∧ BkOk ts B ∧ K = plK gm ts B tv pv) := by
  rcases h with ⟨rfl, rfl⟩ | ⟨gm, B, tv, pv, ⟨h1, h2, h3⟩, rfl⟩
  ·exact ⟨nilS, nilS, none, [], rfl, RowOk.nil, RowOk.nil, .inl ⟨rfl, rfl, rfl, rfl, rfl⟩⟩
  ·exact ⟨tv, pv, some gm, _, rfl, h2, h3, .inr ⟨gm, B, rfl, h1, rfl⟩⟩
 subst hH
 obtain ⟨At, ct, rfl, hAt⟩ := htv.form
 obtain ⟨n, hn⟩ : ∃ n, ts.flatten.length = n := ⟨_, rfl⟩
 have hn' : n ≤ 1000000000 := by omega
 refine Fn.enter (N := 66) Tryz.func91 rfl (by kernel_rfl) rfl (fun w0 => ?_)
 refine aR (fun Z hZ => ?_)
 refine sAl tyZ123 rfl (fun g1 => ?_)
 refine sN (hZ _ _ ?_)
 refine aF [(0, _), (1, _), (4, _)] (kR rfl) ?_
 rw [hn] at htv hfl ⊢
 refine aR fun Z hZ => sM rfl rfl ?_
 refine jA5 rfl rfl ?_
 refine sFA rfl tyF185_0 (by simp only [Nat.add_zero]; rfl) rfl ?_
 refine sL 1 rfl rfl tyA132 tyS132 rfl rfl ?_
 refine jD9 Tryz.underlying132 rfl rfl ?_
 refine jC2 Tryz.underlying3 Tryz.underlying45 rfl ((n : Nat) : Int) (by rw [IntWalk.u64_in _ (by omega)]) rfl ?_
 refine sM rfl rfl ?_
 refine jF0 Tryz.underlying9 rfl rfl ?_
 refine jC2 Tryz.underlying3 Tryz.underlying112 rfl ((s.length : Nat) : Int) (by rw [IntWalk.u32_in _ (by omega)]) rfl ?_
 refine jD1 tyZ123 tyP123 rfl rfl (by simp only [qS, Nat.reduceAdd, Value.cells, wrV]; rfl) rfl ?_
 refine sAl tyZ123 rfl (fun g2 => ?_)
 refine sS 0 rfl rfl rfl tyS123 (by simp only [Value.cells]; rfl) rfl rfl rfl (by simp only [qS, Nat.reduceAdd, wrV]; rfl) (by simp only [List.set_cons_zero]; rfl) ?_
 refine sN (hZ _ _ ?_)
 refine aF [(0, _), (1, _), (4, _), (5, _)] (kR rfl) ?_
 refine awp_cut (ι := Nat × List Bk) (fun _ => [(0, ptr gp 0), (1, .string (str s)), (4, ptr g1 0), (5, ptr g2 0)]) (fun x => .own g2 123 [uq n, wq4 s.length] :: .own g1 123 [uq 0, wq4 0] :: .own gp 185 [.slice At n ct, pv, .map (some x.1)] :: plK x.1 ts x.2 (.slice At n ct) pv) (fun x => BkOk ts x.2) ?_ ?_
 ·skip
  refine aR fun Z hZ => sM rfl rfl ?_
  refine jA5 rfl rfl ?_
  refine sFA rfl tyF185_2 (by simp only [Nat.zero_add]; rfl) rfl ?_
  refine sL 2 rfl rfl tyA183 tyS183 rfl rfl ?_
  refine sx_mapNil Tryz.underlying183 rfl rfl ?_
  refine sN (hZ _ _ ?_)
  refine aF [(0, _), (1, _), (4, _), (5, _), (21, _)] (kR rfl) ?_
  refine aC rfl (fun h2 => ?_) (fun h2 => ?_)
  ·obtain ⟨rfl, rfl, h3, rfl, rfl⟩ : m = none ∧ ts = [] ∧ Value.slice At n ct = nilS ∧ pv = nilS ∧ K = [] := by
    rcases hm with hm | ⟨gm, B, rfl, _⟩
    ·rw [hn] at hm; exact hm
    ·cases h2
   injection h3 with h4 h5 h6
   subst h4; subst h5; subst h6
   refine aG (fun Z hZ => ?_)
   refine sM rfl rfl ?_
   refine sx_makeMap rfl (fun k : Nat => uq k) (fun v : Value => v) (fun gm => ?_)
   refine jA5 rfl rfl ?_
   refine sFA rfl tyF185_2 (by simp only [Nat.zero_add]; rfl) rfl ?_
   refine sS1 3 rfl rfl rfl tyS183 rfl rfl (by simp only [qS]; rfl) (by simp only [qS]; rfl) ?_
   refine sN (hZ _ _ ?_)
   refine nF [(0, _), (1, _), (4, _), (5, _)] (kR rfl) ?_
   exact jG2 (gm, []) ⟨List.nodup_nil, fun b hb => absurd hb (by simp), fun k t ht => absurd ht (by simp)⟩ (kR rfl) (HLe.pick [1, 2, 3, 0] (by simp) rfl)
  ·obtain ⟨gm, B, rfl, hok, rfl⟩ : ∃ gm B, m = some gm ∧ BkOk ts B ∧ K = plK gm ts B (.slice At n ct) pv := by
    rcases hm with ⟨rfl, _⟩ | hm
    ·cases h2
    ·rw [hn] at hm; exact hm
   refine aK ?_
   exact jG2 (gm, B) hok (kR rfl) (HLe.refl _)
 rintro ⟨gm, B⟩ hok
 simp only at hok ⊢
 refine aR fun Z hZ => sM rfl rfl ?_
 refine sCP hfs rfl rfl ?_
 refine sA rfl rfl <| sN (hZ _ _ ?_)
 refine aF [(0, _), (1, _), (4, _), (5, _), (6, _)] (kR rfl) ?_
 have hget := bkV_get B q
 have hbo := bkV_ok B q
 have hbd := bkH_del B q
 have hokp := fun g c => BkOk.put hok s g c
 have hkl := (bkK_lt hok q).1
 rw [hq] at hokp
 obtain ⟨ks, hks⟩ : ∃ ks, bkK B q = ks := ⟨_, rfl⟩
 obtain ⟨vb, hvb⟩ : ∃ v, bkV B q = v := ⟨_, rfl⟩
 rw [hks] at hbo hbd hokp hkl
 rw [hvb] at hget hbo hbd
 clear hvb
 obtain ⟨Ab, cb, rfl, hAb⟩ := hbo.form
 obtain ⟨Ap, cp, rfl, hAp⟩ := hpv.form
 refine awf_seq_region _ [(0, true), (1, true), (2, true), (3, true), (4, true), (5, true), (6, true), (7, true), (8, true), (9, true), (10, true), (11, true), (12, true), (13, true), (14, true), (15, true), (16, false), (17, false)] 18 rfl mixed (by kernel_rfl) (HLe.pick [2, 3] (by simp) (by simp only [pick, List.filterMap_cons, qS]; rfl)) (fun Z hZ => ?_)
 refine tw_p rfl ?_
 refine jA3 rfl rfl ?_
 refine vN ?_
 refine tw_p rfl ?_
 refine jF6 rfl rfl ?_
 refine vN ?_
 refine tw_p rfl ?_
 refine jA2 rfl tyF185_2 (by simp only [Nat.zero_add]; rfl) rfl ?_
 refine vN ?_
 refine tw_p rfl ?_
 refine jE6 0 rfl rfl tyA183 tyS183 rfl rfl ?_
 refine vN ?_
 refine tw_p rfl ?_
 refine jA3 rfl rfl ?_
 refine vN ?_
 refine tw_p rfl ?_
 refine jA3 rfl rfl ?_
 refine vN ?_
 refine tw_p rfl ?_
 refine jF6 rfl rfl ?_
 refine vN ?_
 refine tw_p rfl ?_
 refine jA2 rfl tyF185_2 (by simp only [Nat.zero_add]; rfl) rfl ?_
 refine vN ?_
 refine tw_p rfl ?_
 refine jE6 0 rfl rfl tyA183 tyS183 rfl rfl ?_
 refine vN ?_
 refine tw_p rfl ?_
 refine jA3 rfl rfl ?_
 refine vN ?_
 refine tw_p rfl ?_
 refine sv_lookup 1 keyU Tryz.underlying183 zeroIs q _ rfl rfl rfl hget rfl ?_
 refine vN ?_
 refine tw_p rfl ?_
 refine jA3 rfl rfl ?_
 refine vN ?_
 refine tw_p rfl ?_
 refine jF6 rfl rfl ?_
 refine vN ?_
 refine tw_p rfl ?_
 refine jA2 rfl tyF185_1 (by simp only [Nat.zero_add]; rfl) rfl ?_
 refine vN ?_
 refine tw_p rfl ?_
 refine jE6 0 rfl rfl tyA182 tyS182 rfl rfl ?_
 refine vN ?_
 refine tw_p rfl ?_
 refine sv_len Tryz.underlying182 rfl rfl ?_
 refine vN ?_
 refine tw_g rfl ?_
 refine sBS Tryz.underlying247 tyS3 tyZ3 rfl rfl rfl rfl (by simp only [qS, Value.cells, wrV, jG9, List.replicate_succ, List.replicate_zero, Nat.reduceMul, Nat.zero_mul]; rfl) rfl (fun g3 => ?_)
 refine sN ⟨HLe.pick [3, 4] (by simp) rfl, ?_⟩
 refine tw_g rfl ?_
 refine jD2 (xs := iqL ks) (_ :: _ :: _ :: _ :: bkE gm B :: (rowE _ 5 1 (bv ts.flatten) ++ (rowE _ 123 2 (ctcells (ctsF 0 ts)) ++ bkH (bkDel B q)))) elemInt rfl hbo (by simp) rfl (fun w hw => rd_own (i := 0) (xs := [iq (ts.length : Nat)]) rfl rfl hw) rfl (by show _ ≤ 9223372036854775807; omega) (by omega) (le_last (X := [_, _, _, _, _]) hbd) rfl (fun vb2 hvb2 => ?_)
 refine sN ⟨HLe.pick [3, 4] (by simp) rfl, ?_⟩
 refine jH2 ?_
 refine sx_mapUpdate 4 keyU Tryz.underlying183 q vb2 rfl rfl rfl rfl rfl ?_
 refine sN (hZ _ _ ?_)
 refine aF [(0, _), (1, _), (4, _), (5, _)] (kR rfl) ?_
 obtain ⟨g', c', rfl⟩ := hvb2.some (by omega)
 have hokB := hokp g' c'
 obtain ⟨b', hb'⟩ : ∃ b' : Bk, b' = ⟨q, g', c', ks ++ [ts.length]⟩ := ⟨_, rfl⟩
 have hkey : b'.key = q := by rw [hb']
 have hbv : b'.v = .slice (some ⟨g', 0, none⟩) (ks.length + 1) c' := by rw [hb']; show Value.slice _ (ks ++ [ts.length]).length _ = _; rw [List.length_append]; rfl
 have hbe : b'.e = .ob g' (RowP 3 1 (ks.length + 1) c' (iqL ks ++ [iq (ts.length : Nat)])) := by rw [hb']; show Ent.ob g' (RowP _ 1 (ks ++ [ts.length]).length c' (iqL (ks ++ [ts.length]))) = _; rw [List.length_append, iqL, List.map_append]; rfl
 have hMB : bkM (bkPut B b') = aput (bkM B) q (.slice (some ⟨g', 0, none⟩) (ks.length + 1) c') := by rw [bkM_put, hkey, hbv]
 have hHB := bkH_put B b'
 rw [hkey, hbe] at hHB
 rw [← hb'] at hokB
 refine jA8 (.own g2 123 [uq n, wq4 s.length] :: .own g1 123 [uq 0, wq4 0] :: .own gp 185 [.slice At n ct, .slice Ap ts.length cp, .map (some gm)] :: mapE (fun k : Nat => uq k) (fun v : Value => v) gm (aput (bkM B) q (.slice (some ⟨g', 0, none⟩) (ks.length + 1) c')) :: (rowE (.slice At n ct) 5 1 (bv ts.flatten) ++ (rowE (.slice Ap ts.length cp) 123 2 (ctcells (ctsF 0 ts)) ++ bkH (bkPut B b')))) ((HLe.drop 1 rfl).trans (le_lastB (X := [_, _, _, _, _]) hHB)) ?_
 rw [← hMB]
 refine awf_seq_region _ [(0, true), (1, true), (2, true), (3, true), (4, true), (5, true), (6, false), (7, false), (8, true), (9, true)] 10 rfl mixed (by kernel_rfl) (HLe.pick [0, 2] (by simp) (by simp only [pick, List.filterMap_cons, qS]; rfl)) (fun Z hZ => ?_)
 refine tw_p rfl ?_
 refine jA3 rfl rfl ?_
 refine vN ?_
 refine tw_p rfl ?_
 refine jA3 rfl rfl ?_
 refine vN ?_
 refine tw_p rfl ?_
 refine jF6 rfl rfl ?_
 refine vN ?_
 refine tw_p rfl ?_
 refine jA2 rfl tyF185_1 (by simp only [Nat.zero_add]; rfl) rfl ?_
 refine vN ?_
 refine tw_p rfl ?_
 refine jE6 1 rfl rfl tyA182 tyS182 rfl rfl ?_
 refine vN ?_
 refine tw_p rfl ?_
 refine sv_loadA 0 rfl rfl tyA123 tyS123 rfl (by simp only [qS]; rfl) rfl ?_
 refine vN ?_
 refine tw_g rfl ?_
 refine sBS Tryz.underlying182 tyS123 tyZ123 rfl rfl rfl rfl (by simp only [qS, Nat.reduceAdd, Value.cells, wrV, Nat.reduceMul, Nat.zero_mul]; rfl) rfl (fun g4 => ?_)
 refine sN ⟨HLe.pick [1, 3] (by simp) rfl, ?_⟩
 refine tw_g rfl ?_
 refine jD2 (xs := ctcells (ctsF 0 ts)) (_ :: _ :: _ :: _ :: bkE gm (bkPut B b') :: (rowE _ 5 1 (bv ts.flatten) ++ bkH (bkPut B b'))) elemCt rfl hpv (by rw [ctcells_len, ctsF_len]) rfl (fun w hw => rd_own (i := 0) (xs := ctC (n, s.length)) rfl rfl hw) rfl (by show _ ≤ 9223372036854775807; omega) (by omega) (le_mid (X := [_, _, _, _, _])) rfl (fun pv2 hpv2 => ?_)
 obtain ⟨gl2, cl2, rfl⟩ := hpv2.some (by omega)
 refine sN ⟨HLe.pick [1, 3] (by simp) rfl, ?_⟩
 refine tw_p rfl ?_
 refine jF6 rfl rfl ?_
 refine vN ?_
 refine tw_p rfl ?_
 refine jA2 rfl tyF185_1 (by simp only [Nat.zero_add]; rfl) rfl ?_
 refine vN ?_
 refine jH2 ?_
 refine sS1 3 rfl rfl rfl tyS182 rfl rfl (by simp only [qS]; rfl) rfl ?_
 refine sN (hZ _ _ ?_)
 refine aF [(0, _), (1, _), (4, _), (5, _)] (kR rfl) ?_
 have hcs : ctsF 0 (ts ++ [s]) = ctsF 0 ts ++ [(n, s.length)] := by rw [ctsF_snoc, hn, Nat.zero_add]
 refine jA8 (.own g2 123 [uq n, wq4 s.length] :: .own g1 123 [uq 0, wq4 0] :: .own gp 185 [.slice At n ct, .slice (some ⟨gl2, 0, none⟩) (ts.length + 1) cl2, .map (some gm)] :: bkE gm (bkPut B b') :: (rowE (.slice At n ct) 5 1 (bv ts.flatten) ++ (rowE (.slice (some ⟨gl2, 0, none⟩) (ts.length + 1) cl2) 123 2 (ctcells (ctsF 0 ts) ++ ctC (n, s.length)) ++ bkH (bkPut B b')))) ((HLe.drop 1 rfl).trans (le_midB (X := [_, _, _, _, _]))) ?_
 refine aR fun Z hZ => sM rfl rfl <| sM rfl rfl ?_
 refine jA5 rfl rfl ?_
 refine sFA rfl tyF185_0 (by simp only [Nat.add_zero]; rfl) rfl ?_
 refine sL 2 rfl rfl tyA132 tyS132 rfl rfl ?_
 refine sM rfl rfl ?_
 refine sx_appendStr (l := ts.flatten) (m := s) (_ :: _ :: _ :: bkE gm (bkPut B b') :: (rowE _ 123 2 (ctcells (ctsF 0 ts) ++ ctC (n, s.length)) ++ bkH (bkPut B b'))) Tryz.underlying132 Tryz.underlying9 (by kernel_rfl) rfl (by rw [hn]; exact htv) rfl (by omega) (le_fst (X := [_, _, _, _])) rfl (fun tv2 htv2 => ?_)
 obtain ⟨At2, ct2, rfl, _⟩ := htv2.form
 refine jA5 rfl rfl ?_
 refine sFA rfl tyF185_0 (by simp only [Nat.add_zero]; rfl) rfl ?_
 refine sS1 2 rfl rfl rfl tyS132 rfl rfl (by simp only [List.set_cons_zero]; rfl) rfl ?_
 refine sN (hZ _ _ ?_)
 refine aF [(4, _), (5, _)] (kR rfl) ?_
 refine jA8 (.own g2 123 [uq n, wq4 s.length] :: .own g1 123 [uq 0, wq4 0] :: .own gp 185 [.slice At2 (ts.flatten ++ s).length ct2, .slice (some ⟨gl2, 0, none⟩) (ts.length + 1) cl2, .map (some gm)] :: bkE gm (bkPut B b') :: (rowE (.slice At2 (ts.flatten ++ s).length ct2) 5 1 (bv (ts.flatten ++ s)) ++ (rowE (.slice (some ⟨gl2, 0, none⟩) (ts.length + 1) cl2) 123 2 (ctcells (ctsF 0 ts) ++ ctC (n, s.length)) ++ bkH (bkPut B b')))) (le_fstB (X := [_, _, _, _])) ?_
 refine aR (fun Z hZ => ?_)
 refine sLA 0 rfl rfl tyA123 tyS123 rfl (by simp only [qS]; rfl) rfl ?_
 refine sS 1 rfl rfl rfl tyS123 (by simp only [Value.cells]; rfl) rfl rfl rfl (by simp only [qS, Nat.reduceAdd, wrV]; rfl) (by simp only [qS]; rfl) ?_
 refine sN (hZ _ _ ?_)
 refine aF [(4, _)] (Kn.cons rfl (Kn.nil)) ?_
 refine aE ?_
 have hfl2 : (ts ++ [s]).flatten = ts.flatten ++ s := by simp
 refine jD4 _ rfl (ResOk.cell 1 rfl rfl tyA123 tyS123 rfl) (HLe.drop 2 rfl) ⟨rfl, .inr ⟨gm, bkPut B b', .slice At2 (ts.flatten ++ s).length ct2, .slice (some ⟨gl2, 0, none⟩) (ts.length + 1) cl2, ⟨hokB, ?_, ?_⟩, ?_⟩⟩
 ·rw [hfl2]; exact htv2
 ·rw [List.length_append]; exact hpv2
 ·rw [plK, hfl2, hcs, ctcells_app]
  simp [ctcells]
theorem pnew_fn : Fn Tryz.prog 47 [] [] fun v H' => ∃ g, v = ptr g 0 ∧ PoolIs g [] H' := by
 refine Fn.enter (N := 3) Tryz.func47 rfl (by kernel_rfl) rfl (fun w0 => ?_)
 refine aR fun Z hZ => sA rfl rfl <| sN (hZ _ _ ?_)
 refine aF [] (Kn.nil) ?_
 refine aR (fun Z hZ => ?_)
 refine jD1 tyZ185 tyP185 rfl rfl rfl rfl ?_
 refine jC3 rfl rfl rfl (fun g1 => ?_)
 refine sA rfl rfl <| sN (hZ _ _ ?_)
 refine aF [(0, _)] (Kn.cons rfl (Kn.nil)) ?_
 refine aE ?_
 exact jD4 _ rfl rfl (HLe.refl _) ⟨_, rfl, .inl ⟨rfl, rfl⟩⟩
structure TsOk (ts : List Tx) : Prop where
 nd : ts.Nodup
 ne : ∀ t ∈ ts, t ≠ []
def addT (ts : List Tx) (s : Tx) : List Tx := if s ∈ ts then ts else ts ++ [s]
def addC (ts : List Tx) (s : Tx) : Nat × Nat := (fdQ 0 ts s).getD (ts.flatten.length, s.length)
theorem addT_ok {ts : List Tx} {s : Tx} (h : TsOk ts) (hs : s ≠ []) : TsOk (addT ts s) := by
 unfold addT
 split
 ·exact h
 ·rename_i hn
  exact ⟨List.nodup_append.2 ⟨h.nd, by simp, fun a ha b hb => by rw [List.mem_singleton.1 hb]; exact fun e => hn (e ▸ ha)⟩, fun t ht => (List.mem_append.1 ht).elim (h.ne t) (fun ht => List.mem_singleton.1 ht ▸ hs)⟩
theorem add_fn {gp : Nat} {ts : List Tx} {H : Heap} (h : PoolIs gp ts H) (s : Tx) (hok : TsOk ts) (hfl : ts.flatten.length + s.length ≤ 1000000000) (hts : ts.length < 2048) (hs0 : s ≠ []) (hs : s.length ≤ 65536) :
  Fn Tryz.prog 49 [ptr gp 0, .string (str s)] H fun v H' => (∃ b, v = .tuple #[ctV (addC ts s), .bool b, iq (0 : Nat)]) ∧ PoolIs gp (addT ts s) H' := by
 have hfd := find_is h s hok.nd hok.ne (by omega) (by omega) (by omega)
 obtain ⟨c, b, hfv, hct, hcf⟩ : ∃ c b, fdV (fdQ 0 ts s) = .tuple #[ctV c, .bool b] ∧ (b = true → fdQ 0 ts s = some c) ∧ (b = false → fdQ 0 ts s = none) := by
  cases fdQ 0 ts s with
  | none => exact ⟨_, false, rfl, fun h => (by cases h), fun _ => rfl⟩
  | some c => exact ⟨c, true, rfl, fun _ => rfl, fun h => by cases h⟩
 rw [hfv] at hfd
 have hput := put_fn h s (by omega) (by omega) hs
 obtain ⟨tv, Ap, cp, m, K, hH⟩ : ∃ tv Ap cp m K, H = .own gp 185 [tv, .slice Ap ts.length cp, .map m] :: K := by
  rcases h with ⟨rfl, rfl⟩ | ⟨gm, B, tv, pv, ⟨h1, h2, h3⟩, rfl⟩
  ·exact ⟨nilS, none, 0, none, [], rfl⟩
  ·obtain ⟨Ap, cp, rfl, _⟩ := h3.form
   exact ⟨tv, Ap, cp, some gm, _, rfl⟩
 have hwr := h.wrs
 have hsl : 0 < s.length := List.length_pos_iff.2 hs0
 refine Fn.enter (N := 43) Tryz.func49 rfl (by kernel_rfl) rfl (fun w0 => ?_)
 refine aR (fun Z hZ => ?_)
 refine sAl tyZ123 rfl (fun g1 => ?_)
 refine sA rfl rfl <| sA rfl rfl <| sN (hZ _ _ ?_)
 refine aF [(0, _), (1, _), (4, _)] (kR rfl) ?_
 refine aS (aB ?_)
 refine aR fun Z hZ => sM rfl rfl ?_
 refine sx_ptrNil Tryz.underlying117 rfl rfl ?_
 refine sA rfl rfl <| sN (hZ _ _ ?_)
 refine aF [(0, _), (1, _), (4, _), (10, _)] (kR rfl) ?_
 refine aC rfl (fun h1 => ?_) (fun h1 => ?_)
 ·cases h1
 refine aR fun Z hZ => sM rfl rfl ?_
 refine sx_seql rfl rfl rfl ?_
 refine sA rfl rfl <| sN (hZ _ _ ?_)
 refine aF [(0, _), (1, _), (4, _), (14, _)] (kR rfl) ?_
 refine aC rfl (fun h2 => ?_) (fun h2 => ?_)
 ·exact absurd (by simpa using h2) hs0
 refine aR fun Z hZ => sM rfl rfl ?_
 refine jF0 Tryz.underlying9 rfl rfl ?_
 refine jF3 rfl rfl rfl ?_
 refine sA rfl rfl <| sN (hZ _ _ ?_)
 refine aF [(0, _), (1, _), (4, _), (18, _)] (kR rfl) ?_
 refine aC rfl (fun h3 => ?_) (fun h3 => ?_)
 ·simp at h3; omega
 refine aK ?_
 repeat (with_reducible refine nBN ?_)
 with_reducible refine nN ?_
 refine aS ?_
 refine aR fun Z hZ => sM rfl rfl <| sM rfl rfl ?_
 refine jD3 H [_] hfd rfl (HLe.swap [_] H) rfl ?_
 rintro v H' ⟨rfl, rfl⟩
 rw [hwr.filter]
 refine jC1 _ (HLe.swap H' [_]) ?_
 refine sM rfl rfl <| sX rfl rfl rfl <| sX rfl rfl rfl ?_
 refine sAl tyZ123 rfl (fun g2 => ?_)
 refine sS 0 rfl rfl rfl tyS123 (by simp only [Value.cells]; rfl) rfl rfl rfl (by simp only [qS, Nat.reduceAdd, wrV]; rfl) (by simp only [List.set_cons_zero]; rfl) ?_
 refine sA rfl rfl <| sN (hZ _ _ ?_)
 refine aF [(0, _), (1, _), (4, _), (7, _), (8, _)] (kR rfl) ?_
 refine aR fun Z hZ => sM rfl rfl <| sN (hZ _ _ ?_)
 refine aF [(0, _), (1, _), (4, _), (7, _), (29, _)] (kR rfl) ?_
 refine aC rfl (fun h4 => ?_) (fun h4 => ?_)
 ·have hq := hct (by simpa using h4)
  have hm : s ∈ ts := Classical.byContradiction fun hn => by rw [(fdQ_none ts 0 s).2 hn] at hq; cases hq
  have e1 : addT ts s = ts := by unfold addT; rw [if_pos hm]
  have e2 : addC ts s = c := by unfold addC; rw [hq]; rfl
  rw [e1, e2]
  refine aR (fun Z hZ => ?_)
  refine sLA 0 rfl rfl tyA123 tyS123 rfl (by simp only [qS]; rfl) rfl ?_
  refine sS 1 rfl rfl rfl tyS123 (by simp only [Value.cells]; rfl) rfl rfl rfl (by simp only [qS, Nat.reduceAdd, wrV]; rfl) (by simp only [List.set_cons_succ]; rfl) ?_
  refine sA rfl rfl <| sA rfl rfl <| sN (hZ _ _ ?_)
  refine aF [(4, _), (5, _), (6, _)] (kR rfl) ?_
  refine aE ?_
  repeat (with_reducible refine nTR ?_)
  exact jH5 _ rfl (ResOk.cell 1 rfl rfl tyA123 tyS123 rfl) rfl rfl (HLe.drop 2 rfl) ⟨⟨_, rfl⟩, h⟩
 have hq := hcf (by simpa using h4)
 have hm : s ∉ ts := (fdQ_none ts 0 s).1 hq
 have e1 : addT ts s = ts ++ [s] := by unfold addT; rw [if_neg hm]
 have e2 : addC ts s = (ts.flatten.length, s.length) := by unfold addC; rw [hq]; rfl
 rw [e1, e2]
 refine aK ?_
 with_reducible refine nN ?_
 subst hH
 refine aS ?_
 refine aR fun Z hZ => sM rfl rfl ?_
 refine jA5 rfl rfl ?_
 refine sFA rfl tyF185_1 (by simp only [Nat.zero_add]; rfl) rfl ?_
 refine sL 2 rfl rfl tyA182 tyS182 rfl rfl ?_
 refine jD9 Tryz.underlying182 rfl rfl ?_
 refine sx_geq rfl rfl rfl ?_
 refine sN (hZ _ _ ?_)
 refine aF [(0, _), (1, _), (4, _), (36, _)] (kR rfl) ?_
 refine aC rfl (fun h5 => ?_) (fun h5 => ?_)
 ·simp at h5; omega
 refine aK ?_
 with_reducible refine nN ?_
 refine aR fun Z hZ => sM rfl rfl ?_
 refine sx_makeFuncB (vs := [ptr gp 0]) rfl rfl ?_
 refine sA rfl rfl <| sN (hZ _ _ ?_)
 refine aF [(1, _), (4, _), (9, _)] (kR rfl) ?_
 refine aR fun Z hZ => sM rfl rfl <| sM rfl rfl ?_
 refine sx_callFB (bs := [ptr gp 0]) (vs := [.string (str s)]) [_, _] hput rfl rfl (HLe.swap [_, _] _) rfl ?_
 rintro v H' ⟨rfl, hP⟩
 rw [hP.wrs.filter]
 refine jC1 _ (HLe.swap H' [_, _]) ?_
 refine sS 1 rfl rfl rfl tyS123 (by simp only [Value.cells]; rfl) rfl rfl rfl (by simp only [qS, Nat.reduceAdd, wrV]; rfl) rfl ?_
 refine sA rfl rfl <| sA rfl rfl <| sN (hZ _ _ ?_)
 refine aF [(4, _), (5, _), (6, _)] (kR rfl) ?_
 refine aE ?_
 exact jH5 _ rfl (ResOk.cell 1 rfl rfl tyA123 tyS123 rfl) rfl rfl (HLe.drop 2 rfl) ⟨⟨_, rfl⟩, hP⟩
theorem text_fn {gp : Nat} {ts : List Tx} {H : Heap} (h : PoolIs gp ts H) (hfl : ts.flatten.length ≤ 1000000000) :
  Fn Tryz.prog 50 [ptr gp 0] H fun v H' => v = .string (str ts.flatten) ∧ H' = H := by
 obtain ⟨At, ct, pv, m, K, hH, hr⟩ : ∃ At ct pv m K, H = .own gp 185 [.slice At ts.flatten.length ct, pv, .map m] :: K ∧ ∀ w0 Wr w, Sat w0 Wr H w → Rd w 1 At ts.flatten.length (bv ts.flatten) := by
  rcases h with ⟨rfl, rfl⟩ | ⟨gm, B, tv, pv, ⟨h1, h2, h3⟩, rfl⟩
  ·exact ⟨none, 0, nilS, none, [], rfl, fun w0 Wr w _ => rd_nil rfl⟩
  ·obtain ⟨At, ct, rfl, _⟩ := h2.form
   exact ⟨At, ct, pv, some gm, _, rfl, fun w0 Wr w hw => rd_rowE h2 (by rw [bv_length, Nat.mul_one]) (fun x hx => List.mem_cons_of_mem _ (List.mem_cons_of_mem _ (List.mem_append_left _ hx))) hw⟩
 subst hH
 refine Fn.enter (N := 11) Tryz.func50 rfl (by kernel_rfl) rfl (fun w0 => ?_)
 refine aR fun Z hZ => sA rfl rfl <| sN (hZ _ _ ?_)
 refine aF [(0, _)] (Kn.cons rfl (Kn.nil)) ?_
 refine aS ?_
 refine aR fun Z hZ => sM rfl rfl ?_
 refine sx_ptrNil Tryz.underlying117 rfl rfl ?_
 refine sN (hZ _ _ ?_)
 refine aF [(0, _), (4, _)] (kR rfl) ?_
 refine aC rfl (fun h1 => ?_) (fun h1 => ?_)
 ·cases h1
 refine aK ?_
 with_reducible refine nN ?_
 refine aR fun Z hZ => sM rfl rfl ?_
 refine jA5 rfl rfl ?_
 refine sFA rfl tyF185_0 (by simp only [Nat.add_zero]; rfl) rfl ?_
 first | refine sL 0 rfl rfl tyA132 tyS132 rfl rfl ?_
 refine sx_strB (l := ts.flatten) Tryz.underlying132 Tryz.underlying5 Tryz.underlying9 rfl (fun w hw => hr _ _ w hw) rfl ?_
 refine sCP (sclone_fn ts.flatten (by omega)) rfl rfl ?_
 refine sA rfl rfl <| sN (hZ _ _ ?_)
 refine aF [(2, _)] (Kn.cons rfl (Kn.nil)) ?_
 refine aE ?_
 exact jD4 _ rfl rfl (HLe.refl _) ⟨rfl, rfl⟩
end Go.Proofs.YtkojkeabelckjaaGreatDoor.V
end

section
set_option linter.all false
namespace Go.Proofs.YtkojkeabelckjaaGreatDoor
open Go.RowKit
set_option maxRecDepth 100000
theorem sx_storeRw {P : Program} {N : Frm} {w0 : World} {Wr : List Nat} {ops : Array Oper} {rest : List Oper} {fr : Fr} {H : Heap} {Z : Fr → Heap → Prop} {ty : Nat} {pos : String} {after : Array Edge}
  (i : Nat) {t : TypeId} {x y : Operand} {g o size n c : Nat} {e : TypeId} {xs ys : List Value} {v : Value} (hx : ev fr x = some (ptr g o)) (hy : ev fr y = some v) (hH : H[i]? = some (.ob g (RowP e size n c xs))) (hn : tySize P t = some 1) (h1 : v.oneCell' = true)
  (hlen : o < n * size) (hys : xs.set o v = ys) {H2 : Heap} (hs : H.set i (.ob g (RowP e size n c ys)) = H2)
  (h : sx P N w0 Wr ops rest fr H2 Z) : sx P N w0 Wr ops (⟨none, .store t x y, ty, pos, after, none⟩ :: rest) fr H Z :=
 sx_do (fun a w ha hw => by
  subst hs
  subst hys
  obtain ⟨ob, hg, cur, rfl, h2, h3, h4, h5, h6⟩ := hw.mem hH
  have hnc : n * size ≤ c * size := Nat.mul_le_mul_right size h2
  have ho : o < cur.size := by omega
  have hc : w.cell? ⟨g, o, none⟩ = some cur[o] := by rw [cell_of_row w g o cur e _ hg]; simp [ho]
  have hf : w.frozen? ⟨g, o, none⟩ = false := by simp [World.frozen?, hg]
  have hst : (store ⟨g, o, none⟩ v).run P w = .ok () (w.setCell ⟨g, o, none⟩ v) := by
   cases v <;> first | (simp [Value.oneCell'] at h1; done) | simp [store, Sem.run, hc, hf]
  refine ⟨w.setCell ⟨g, o, none⟩ v, ?_, hw.turn hH rfl rfl (Only.setCell w g o _) ?_⟩
  ·have hsz : v.cells = #[v] := by cases v <;> first | rfl | (simp [Value.oneCell'] at h1)
   have ha0 : Addr.add ⟨g, o, none⟩ 0 = ⟨g, o, none⟩ := rfl
   simp [execOp, Instr.storeAt, ha.eval hx, ha.eval hy, ptr, Instr.sureAddr, Sem.run_bind, Sem.run_pure, Result.andThen_ok, storeVar, jB2 hn, hsz, storeCells, ha0]
   simp only [store] at hst ⊢
   rw [hst]
   rfl
  ·refine ⟨.cells (cur.set! o v) e (0, 0), ?_, cur.set! o v, rfl, h2, h3, by simpa using h4, ?_, by rw [List.length_set]; exact h6⟩
   ·simp [World.setCell, Array.getElem?_modify, hg]
   ·have : (cur.set! o v).toList = cur.toList.set o v := by simp
    rw [this, List.take_set, h5]) h
section
variable {P : Program} {N : Frm} {w0 : World} {Wr : List Nat} {ops : Array Oper} {rest : List Oper} {fr : Fr} {H : Heap} {Z : Fr → Heap → Prop} {d ty : Nat} {pos : String} {after : Array Edge}
theorem sq_callFP {f : FuncId} {x : Operand} {xs : List Operand} {vs : List Value} {ts : Array TypeId} {v : Value} (hc : Fn P f vs [] fun u _ => u = v) (hf : ev fr x = some (.func (.func f) #[] #[])) (hx : evs fr xs = some vs) (hN : Nat.ble (d + 1) N.n = true)
  (h : sq P N w0 Wr ops rest ((d, v) :: fr) H Z) : sq P N w0 Wr ops (⟨some d, .call { callee := .value x, args := xs.toArray, argTypes := ts }, ty, pos, after, none⟩ :: rest) fr H Z :=
 fun Q hQ a ha => wpQuiet_step fun K hK => by
  rw [if_pos (show Region.wanted (⟨some d, .call { callee := .value x, args := xs.toArray, argTypes := ts }, ty, pos, after, none⟩ : Oper) (yielded ops a.tmps) = true from rfl)]
  refine ⟨v, fun w hw => ?_, hK _ (h Q hQ _ (ha.put hN v))⟩
  unfold Oper.quietAt
  rw [run_callF (caps := []) hc.1 (ha.evals hx) (ha.eval hf)]
  refine ⟨rfl, ?_⟩
  rw [List.append_nil]
  exact (hc.2 w (Sat.nil w)).mono fun e w' he => by
   obtain ⟨u, H', rfl, rfl, hS⟩ := he
   exact ⟨rfl, hw.bel hS.only.bel⟩
end
section
variable {P : Program} {N : Frm} {w0 : World} {Wr : List Nat} {ops : Array Oper} {rest : List Oper} {fr : Fr} {H : Heap} {Z : Fr → Heap → Prop} {d ty : Nat} {pos : String} {after : Array Edge}
end
end Go.Proofs.YtkojkeabelckjaaGreatDoor
end

section
set_option linter.all false
namespace Go.Proofs.YtkojkeabelckjaaGreatDoor.V
open Go.RowKit
set_option maxRecDepth 100000
def oneQ (a b : En) : Bool := decide (b.id = lastE a + 1 ∧ b.off = a.off ∧ b.len = a.len)
theorem goes_fn (a b : En) (ha : a.ok) : Fn Tryz.prog 46 [a.val, b.val] [] fun v _ => v = .bool (oneQ a b) := by
 have hl := last_lt ha
 refine Fn.enter (N := 31) Tryz.func46 rfl (by kernel_rfl) rfl (fun w0 => ?_)
 refine aR (fun Z hZ => ?_)
 refine jC3 rfl rfl rfl (fun g1 => ?_)
 refine jC3 rfl rfl rfl (fun g2 => ?_)
 refine sA rfl rfl <| sN (hZ _ _ ?_)
 refine aF [(2, _), (3, _)] (kR rfl) ?_
 refine jC6 [(4, .bool (oneQ a b))] [] mixed (by kernel_rfl) (fun Z hZ => ?_) ?_
 ·refine qFA rfl tyF116_0 (by simp only [Nat.add_zero]; rfl) rfl ?_
  refine qFA rfl tyF114_0 (by simp only [Nat.add_zero]; rfl) rfl ?_
  refine jB7 0 rfl rfl tyA45 tyS45 rfl rfl ?_
  refine qFA rfl tyF116_0 (by simp only [Nat.add_zero]; rfl) rfl ?_
  refine sq_loadA 1 rfl rfl tyA114 tyS114 rfl (by simp only [qS, Value.cells]; rfl) rfl ?_
  refine sq_callP (elast_fn a ha) rfl rfl ?_
  refine sq_add rfl rfl ((lastE a + 1 : Nat) : Int) (by rw [IntWalk.u64_in _ (by omega)]; omega) rfl ?_
  refine sq_eql rfl rfl rfl ?_
  refine qM rfl rfl ?_
  refine sq_split 13 rfl (fun hb8 => ?_) (fun hb8 => ?_)
  ·refine jA4 rfl rfl rfl ?_
   refine qFA rfl tyF116_0 (by simp only [Nat.add_zero]; rfl) rfl ?_
   refine jA4 rfl rfl rfl ?_
   refine qFA rfl jH0 (by simp only [Nat.zero_add]; rfl) rfl ?_
   refine jA4 rfl rfl rfl ?_
   refine jB7 0 rfl rfl tyA45 tyS45 rfl rfl ?_
   refine jA4 rfl rfl rfl ?_
   refine qFA rfl tyF116_0 (by simp only [Nat.add_zero]; rfl) rfl ?_
   refine jA4 rfl rfl rfl ?_
   refine qFA rfl jH0 (by simp only [Nat.zero_add]; rfl) rfl ?_
   refine jA4 rfl rfl rfl ?_
   refine jB7 1 rfl rfl tyA45 tyS45 rfl rfl ?_
   refine jA4 rfl rfl rfl ?_
   refine sq_eql rfl rfl rfl ?_
   refine jC5 rfl rfl rfl ?_
   refine qM rfl rfl ?_
   refine sq_split 22 rfl (fun hb17 => ?_) (fun hb17 => ?_)
   ·refine jA4 rfl rfl rfl ?_
    refine qFA rfl tyF116_0 (by simp only [Nat.add_zero]; rfl) rfl ?_
    refine jA4 rfl rfl rfl ?_
    refine qFA rfl tyF114_2 (by simp only [Nat.zero_add]; rfl) rfl ?_
    refine jA4 rfl rfl rfl ?_
    refine jB7 0 rfl rfl tyA112 tyS112 rfl rfl ?_
    refine jA4 rfl rfl rfl ?_
    refine qFA rfl tyF116_0 (by simp only [Nat.add_zero]; rfl) rfl ?_
    refine jA4 rfl rfl rfl ?_
    refine qFA rfl tyF114_2 (by simp only [Nat.zero_add]; rfl) rfl ?_
    refine jA4 rfl rfl rfl ?_
    refine jB7 1 rfl rfl tyA112 tyS112 rfl rfl ?_
    refine jA4 rfl rfl rfl ?_
    refine sq_eql rfl rfl rfl ?_
    refine jC5 rfl rfl rfl ?_
    refine jB3 rfl rfl ?_
    refine jE0 (hZ _ _ ?_ ?_)
    ·exact Kn.cons (congrArg some (congrArg Value.bool (by unfold oneQ; simp at *; first | omega | (rw [Bool.eq_iff_iff]; simp; omega)))) Kn.nil
    ·exact HLe.sub (List.nil_sublist _)
   ·refine qO rfl rfl rfl rfl rfl ?_
    refine qO rfl rfl rfl rfl rfl ?_
    refine qO rfl rfl rfl rfl rfl ?_
    refine qO rfl rfl rfl rfl rfl ?_
    refine qO rfl rfl rfl rfl rfl ?_
    refine qO rfl rfl rfl rfl rfl ?_
    refine qO rfl rfl rfl rfl rfl ?_
    refine jC5 rfl rfl rfl ?_
    refine jB3 rfl rfl ?_
    refine jE0 (hZ _ _ ?_ ?_)
    ·exact Kn.cons (congrArg some (congrArg Value.bool (by unfold oneQ; simp at *; first | omega | (rw [Bool.eq_iff_iff]; simp; omega)))) Kn.nil
    ·exact HLe.sub (List.nil_sublist _)
  ·refine qO rfl rfl rfl rfl rfl ?_
   refine qO rfl rfl rfl rfl rfl ?_
   refine qO rfl rfl rfl rfl rfl ?_
   refine qO rfl rfl rfl rfl rfl ?_
   refine qO rfl rfl rfl rfl rfl ?_
   refine qO rfl rfl rfl rfl rfl ?_
   refine qO rfl rfl rfl rfl rfl ?_
   refine jC5 rfl rfl rfl ?_
   refine qM rfl rfl ?_
   refine qO rfl rfl rfl rfl rfl ?_
   refine qO rfl rfl rfl rfl rfl ?_
   refine qO rfl rfl rfl rfl rfl ?_
   refine qO rfl rfl rfl rfl rfl ?_
   refine qO rfl rfl rfl rfl rfl ?_
   refine qO rfl rfl rfl rfl rfl ?_
   refine qO rfl rfl rfl rfl rfl ?_
   refine jC5 rfl rfl rfl ?_
   refine jB3 rfl rfl ?_
   refine jE0 (hZ _ _ ?_ ?_)
   ·exact Kn.cons (congrArg some (congrArg Value.bool (by unfold oneQ; simp at *; first | omega | (rw [Bool.eq_iff_iff]; simp; omega)))) Kn.nil
   ·exact HLe.sub (List.nil_sublist _)
 refine aE ?_
 exact nR1 rfl rfl rfl
theorem ecells_run {L : List En} {i : Nat} {x : En} (h : L[i]? = some x) : rdV false 1 (jA1 L) (i * 4 + 3) = some (wq4 x.run) := fm_rd1 (j := 3) en_len h rfl
end Go.Proofs.YtkojkeabelckjaaGreatDoor.V
end
