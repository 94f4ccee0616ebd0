/- The small logic: a text's bytes appended to a row of bytes. No conditions but of lengths. -/
import Derived.Test.YtbldhokgbcljjaaSxX
import Derived.Lib.AppendStr
namespace Go.Proofs.Ytbldhokgbcljjaa
open Go.RowKit Go.Lib
set_option linter.unusedVariables false
set_option linter.unusedSimpArgs false
set_option linter.unusedSectionVars false
section
variable {P : Program} {N : Frm} {w0 w : World} {Wr : List Nat} {ops : Array Oper} {rest : List Oper} {fr : Fr} {H : Heap} {Z : Fr → Heap → Prop} {d ty : Nat} {pos : String} {after : Array Edge}
theorem strCells_str (m : List UInt8) : strCells (str m) = bv m := by simp [strCells, str, bv]
theorem run_appStr {t u e : TypeId} {i : TypeInfo} (ht : P.underlying t = some (.slice e)) (hu : P.underlying u = some .string) (hi : P.info? e = some i) (hz : i.zero = some (.int .u8 0)) (hsize : i.size = 1) (hby : i.bytes = 1)
    {v : Value} {n : Nat} {xs : List Value} (hown : w.ownsRow 0 e 1 v n xs) (s : ByteArray) (hl : n + s.size ≤ 140737488355328) :
    ∃ v' w', (Builtin.append_ #[t, u] ty #[v, .string s]).run P w = .ok v' w' ∧ w'.ownsRow 0 e 1 v' (n + s.size) (xs ++ strCells s) ∧ w.grownBy w' v.ownBlock ∧ (v'.ownBlock = v.ownBlock ∨ v'.ownBlock = some w.heap.size) := by
  obtain ⟨v', w', h1, h2, h3, _⟩ := run_append_own_string (P := P) w 0 t u ty e i ht hu hi hz hsize hby v n xs hown s (by show _ ≤ 9223372036854775807; omega) hl (Nat.zero_le _)
  refine ⟨v', w', h1, h2, h3, ?_⟩
  have hxl : xs.length = n := by simpa using hown.1
  rcases hown.2 with ⟨rfl, rfl⟩ | ⟨g, cap, cur, rfl, hbg, hg, hnc, hcm, hcs, htake⟩
  · by_cases hm : s.size = 0
    · have hf := run_firstCells_string (P := P) w 1 s
      rw [hm] at hf
      have h4 : (Builtin.append_ #[t, u] ty #[.slice none 0 0, .string s]).run P w = .ok (.slice none 0 0) w := by
        simp [Builtin.append_, run_underlying ht, run_underlying hu, sizeOf, typeInfo, hi, hsize, Builtin.lenOf, hm, hf]
      rw [h4] at h1
      injection h1 with h1 _
      subst h1
      exact .inl rfl
    · have hr := run_append_nil_string (P := P) w t u ty e i (.int .u8 0) ht hu hi hz s (by omega) (by omega) (by rw [hby]; omega)
      rw [hr] at h1
      injection h1 with h1 _
      subst h1
      exact .inr rfl
  · by_cases hroom : n + s.size ≤ cap
    · have hcs' : cur.size = cap := by simpa using hcs
      have hr := run_append_room_string (P := P) w t u ty e i ht hu hi hsize g n cap cur hg s hroom (by omega)
      rw [hr] at h1
      injection h1 with h1 _
      subst h1
      exact .inl rfl
    · have holds : ∀ j u, xs[j]? = some u → w.cell? ((⟨g, 0, none⟩ : Addr).add j) = some u := hown.cells (g := g) rfl
      have hr := run_append_grow_string (P := P) w t u ty e i (.int .u8 0) ht hu hi hz ⟨g, 0, none⟩ n cap xs (by rw [hsize]; simpa using hxl) holds s (by omega) (by omega) (by rw [hby]; exact growslice_fits (by omega) (by omega))
      rw [hr] at h1
      injection h1 with h1 _
      subst h1
      exact .inr rfl
/-- append of a text's bytes. -/
theorem sx_appendStr {t u e : TypeId} {s x : Operand} {v : Value} {l m : List UInt8} (H1 : Heap) (ht : P.underlying t = some (.slice e)) (hu : P.underlying u = some .string) (hi : (P.info? e).map (fun i => (i.zero, i.size, i.bytes)) = some (some (.int .u8 0), 1, 1)) (hs : ev fr s = some v) (hv : RowOk v l.length) (hx : ev fr x = some (.string (str m)))
    (hl : l.length + m.length ≤ 140737488355328) (hH : HLe (H1 ++ rowE v e 1 (bv l)) H) (hN : Nat.ble (d + 1) N.n = true)
    (h : ∀ v', RowOk v' (l ++ m).length → sx P N w0 Wr ops rest ((d, v') :: fr) (H1 ++ rowE v' e 1 (bv (l ++ m))) Z) :
    sx P N w0 Wr ops (⟨some d, .call { callee := .builtin .append, args := #[s, x], argTypes := #[t, u] }, ty, pos, after, none⟩ :: rest) fr H Z := by
  obtain ⟨i, h1, h2⟩ := Option.map_eq_some_iff.1 hi
  obtain ⟨h3, h4, h5⟩ : i.zero = some (.int .u8 0) ∧ i.size = 1 ∧ i.bytes = 1 := by simpa using h2
  refine sx_make (R := fun v' H' => RowOk v' (l ++ m).length ∧ H' = H1 ++ rowE v' e 1 (bv (l ++ m))) hN (fun a w ha hw => ?_) (fun v' H' hR => by obtain ⟨h2, rfl⟩ := hR; exact h v' h2)
  have hw' := (HLe.trans (HLe.swap H1 (rowE v e 1 (bv l))) hH) _ _ _ hw
  have hown := own_of_sat hv (by simp [bv_length]) hw'
  obtain ⟨v', w', hrun, g2, g4, g5⟩ := run_appStr (P := P) (ty := ty) ht hu h1 h3 h4 h5 hown (str m) (by rw [str_size]; exact hl)
  rw [strCells_str, ← bv_append, str_size] at g2
  refine ⟨v', w', _, ?_, ⟨by rw [List.length_append]; exact (row_of_own g2).1, rfl⟩, (HLe.swap _ _) _ _ _ (hw'.app hv g2 g4 g5)⟩
  simp only [execOp, resolve, List.map_toArray, List.map_cons, List.map_nil, ha.eval hs, ha.eval hx, Sem.run_bind, Sem.run_pure, Result.andThen_ok, invoke, builtin, hrun]
/-- A call that only reads a part, and makes memory. -/
theorem sx_callU {f : FuncId} {xs : List Operand} {vs : List Value} {ts : Array TypeId} {dst : Option Nat} {R : Value → Heap → Prop} (U : Heap) (hc : Fn P f vs U R) (hx : evs fr xs = some vs) (hU : U.Sublist H) (hroU : Ro U) (hN : dstB N dst = true)
    (h : ∀ v H', R v H' → sx P N w0 Wr ops rest (match dst with | some d => (d, v) :: fr | none => fr) (H'.filter Ent.wr ++ H) Z) :
    sx P N w0 Wr ops (⟨dst, .call { callee := .value (.func f), args := xs.toArray, argTypes := ts }, ty, pos, after, none⟩ :: rest) fr H Z :=
  sx_callO U H hc hx ((HLe.swap H U).trans (HLe.dup hU hroU)) hN h
theorem Sat.callV {w' : World} {H' : Heap} (hw : Sat w0 Wr H w) (h3 : Sat w [] H' w') : Sat w0 Wr (H'.filter Ent.wr ++ H) w' := by
  have hH := hw.bel h3.only.bel
  have hfr : ∀ e ∈ H'.filter Ent.wr, w.heap.size ≤ e.g := fun e he => by
    obtain ⟨h1, h2⟩ := List.mem_filter.1 he
    rcases (h3.ents e h1).2 h2 with h | h
    · cases h
    · exact h
  refine ⟨hH.only, fun e he => ?_, List.pairwise_append.2 ⟨h3.sep.sublist (List.filter_sublist), hw.sep, fun a ha b hb _ => ?_⟩⟩
  · rcases List.mem_append.1 he with he | he
    · exact ⟨(h3.ents e (List.mem_filter.1 he).1).1, fun _ => .inr (Nat.le_trans hw.only.size (hfr e he))⟩
    · exact hH.ents e he
  · have h1 := hfr a ha
    have h2 := Ent.lt (hw.ents b hb).1
    omega
/-- A call that only reads what a view of the memory tells, and makes memory. -/
theorem sx_callVU {f : FuncId} {xs : List Operand} {vs : List Value} {ts : Array TypeId} {dst : Option Nat} {R : Value → Heap → Prop} (U : Heap) (hc : Fn P f vs U R) (hx : evs fr xs = some vs) (hU : HLe U H) (hroU : Ro U) (hN : dstB N dst = true)
    (h : ∀ v H', R v H' → sx P N w0 Wr ops rest (match dst with | some d => (d, v) :: fr | none => fr) (H'.filter Ent.wr ++ H) Z) :
    sx P N w0 Wr ops (⟨dst, .call { callee := .value (.func f), args := xs.toArray, argTypes := ts }, ty, pos, after, none⟩ :: rest) fr H Z :=
  sx_callW (R := fun u H2 => ∃ H', R u H' ∧ H2 = H'.filter Ent.wr ++ H) hc.1 hx hN (fun w hw => by
    have hpre : Sat w (wrs U) U w := (hU _ _ _ hw).base
    exact (hc.2 w hpre).mono fun e w' he => by
      obtain ⟨u, H', h1, h2, h3⟩ := he
      have h0 : wrs U = [] := by have := hroU.wrs []; simpa [wrs] using this
      rw [h0] at h3
      exact ⟨u, _, h1, ⟨H', h2, rfl⟩, hw.callV h3⟩) (fun u H2 hR => by obtain ⟨H', hR, rfl⟩ := hR; exact h u H' hR)
end
theorem row_view {A : Option Addr} {n c : Nat} (hle : ∀ (X Y : Heap) (t : TypeId) (size : Nat) (xs : List Value), HLe (X ++ (roE A xs ++ Y)) (X ++ (rowE (.slice A n c) t size xs ++ Y))) (X : Heap) (t : TypeId) (size : Nat) (xs : List Value) : HLe (roE A xs) (X ++ rowE (.slice A n c) t size xs) := by
  have h := hle X [] t size xs
  simp only [List.append_nil] at h
  exact (HLe.sub (List.sublist_append_right X _)).trans h
end Go.Proofs.Ytbldhokgbcljjaa
