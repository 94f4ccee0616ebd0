/- Walks and plain laws for this claim (texts SxX, SxS, SxP, SxC, Nt1, Nt2, joined). Each theorem states its own conditions. -/
import Derived.Test.YtkojkeabelckjaaGreatDoorJ08
import Derived.Lib.AppendStr
import Derived.Test.YtkojkeabelckjaaGreatDoorJ05
import Derived.Test.YtkojkeabelckjaaGreatDoorJ07
import Derived.Shelf.Small.Strs

section
set_option linter.all false
namespace Go.Proofs.YtkojkeabelckjaaGreatDoor
open Go.RowKit
section
variable {P : Program} {N : Frm} {w0 : World} {Wr : List Nat} {ops : Array Oper} {C : World → Prop} {Q Q' : Exit → Act → World → Prop} {fr : Fr} {H : Heap}
theorem vst_any {x : Nat × Bool} {o : Oper} {K : Act → World → Prop} {a : Act} {w : World} (ho : ops[x.1]? = some o) (h : vst P ops C Q x K a w) : vst P ops C Q' x K a w := by
  unfold vst at h ⊢
  split at h
  · exact h
  · exact wpOp_any ho h
def QF (P : Program) (ops : Array Oper) (Q : Exit → Act → World → Prop) (f : Nat) : Exit → Act → World → Prop := fun _ a w => wpOp P ops (QN Q) f (fun a w => QN Q .normal a w) a w
theorem any_of_f {f : Nat} (hsel : ∀ (j : Nat) (o : Oper) cs b, ops[j]? = some o → o.op ≠ .select cs b) (hedge : ∀ (j : Nat) (o : Oper), ops[j]? = some o → ∀ e ∈ o.after, Region.binds .any e = true → e.on < ops.size) :
    ∀ (n : Nat) (ord : List (Nat × Bool)) (listed : Array Bool) (a : Act) (w : World), ord.length = n → C w → Left ops ((ord ++ [(f, false)]).map Prod.fst) listed →
    (ord.Pairwise fun x y => Dep ops x.1 y.1 ∨ MayV ops x y) → (∀ x ∈ ord, Dep ops x.1 f) → Wv P ops C (QF P ops Q f) ord a w → wpAny P .any ops (QN Q) (n + 1) listed a w := by
  intro n
  induction n with
  | zero =>
    intro ord listed a w hl hC hL hp hd h
    obtain rfl := List.eq_nil_of_length_eq_zero hl
    refine ⟨fun hnil => ?_, fun j hj => ?_⟩
    · have := hL.first hedge
      rw [hnil] at this
      cases this
    · obtain ⟨h0, o, ho, _⟩ := mem_ready.1 hj
      have hjm := (hL.mem j (Array.getElem?_eq_some_iff.1 ho).1).1 h0
      obtain rfl : j = f := by simpa using hjm
      have hL' : Left ops [] (listed.setIfInBounds j true) := Left.step (p := []) (r := []) (by simpa using hL) hedge hj
      refine wpOp_mono (fun b w' hb => ?_) h.2
      refine ⟨List.eq_nil_iff_forall_not_mem.2 fun k hk => ?_, hb⟩
      obtain ⟨h0, o, ho, _⟩ := mem_ready.1 hk
      have := (hL'.mem k (Array.getElem?_eq_some_iff.1 ho).1).1 h0
      simp at this
  | succ n ih =>
    intro ord listed a w hl hC hL hp hd h
    refine ⟨fun hnil => ?_, fun j hj => ?_⟩
    · exfalso
      match ord, hl with
      | x :: r, _ =>
        have := hL.first hedge
        rw [hnil] at this
        cases this
    · have hdeps := hL.deps hedge hj
      obtain ⟨h0, o, ho, hall⟩ := mem_ready.1 hj
      have hjm := (hL.mem j (Array.getElem?_eq_some_iff.1 ho).1).1 h0
      rw [List.map_append, List.mem_append] at hjm
      rcases hjm with hjm | hjm
      · obtain ⟨bj, hjb⟩ := mem_fst hjm
        obtain ⟨p, r, rfl⟩ := List.append_of_mem hjb
        have hpp := List.pairwise_append.1 hp
        have hswap : ∀ x ∈ p, MayV ops x (j, bj) := fun x hx => by
          rcases hpp.2.2 x hx (j, bj) List.mem_cons_self with hd | hd
          · exact absurd (List.mem_map.2 ⟨x, List.mem_append_left _ (List.mem_append_left _ hx), rfl⟩) (hdeps x.1 hd)
          · exact hd
        have hL' : Left ops (((p ++ r) ++ [(f, false)]).map Prod.fst) (listed.setIfInBounds j true) := by
          rw [List.append_assoc, List.map_append]
          exact Left.step (by simpa using hL) hedge hj
        have hv : vst P ops C Q (j, bj) (Wv P ops C (QF P ops Q f) (p ++ r)) a w := vst_any ho (v_front hsel p a w hswap h)
        refine wpOp_mono (fun b w' hb => ih (p ++ r) _ b w' (by simp at hl ⊢; omega) hb.1 hL' ?_ (fun x hx => hd x ?_) hb.2) (vst_op hC hv)
        · exact List.pairwise_append.2 ⟨hpp.1, (List.pairwise_cons.1 hpp.2.1).2, fun x hx y hy => hpp.2.2 x hx y (List.mem_cons_of_mem _ hy)⟩
        · rcases List.mem_append.1 hx with hx | hx
          · exact List.mem_append_left _ hx
          · exact List.mem_append_right _ (List.mem_cons_of_mem _ hx)
      · obtain rfl : j = f := by simpa using hjm
        match ord, hl with
        | x :: r, _ =>
          exact absurd (List.mem_map.2 ⟨x, List.mem_cons_self, rfl⟩) (hdeps x.1 (hd x List.mem_cons_self))
def lastB (l : List Oper) (ls : List (Nat × Bool)) (f : Nat) : Bool := calmB l (ls ++ [(f, false)]) && vB l.toArray (ancs l) ls && ls.all fun x => ((ancs l).getD f []).contains x.1
theorem wp_region_last {id : Nat} {l : List Oper} {a : Act} {w : World} (ls : List (Nat × Bool)) (f : Nat) (hm : P.follows .mixedOrders = true) (hB : lastB l ls f = true) (hC : C w.drew) (h : Wv P l.toArray C (QF P l.toArray Q f) ls a w.drew) : wq P N (.region id l.toArray true) Q a w := by
  simp only [lastB, calmB, Bool.and_eq_true, decide_eq_true_eq] at hB
  obtain ⟨⟨⟨⟨⟨⟨hsel, hlen⟩, hnd⟩, hext⟩, _⟩, hpairs⟩, hlast⟩ := hB
  have hlen := Nat.eq_of_beq_eq_true hlen
  obtain ⟨he1, he2⟩ := ext_ok hext (by simp) hnd
  have hall : ∀ k, k < l.length → k ∈ (ls ++ [(f, false)]).map Prod.fst := all_in l.length _ hnd (by simpa using hlen) (fun x hx => by simpa using he2 x hx)
  have hedge : ∀ (j : Nat) (o : Oper), l.toArray[j]? = some o → ∀ e ∈ o.after, Region.binds .any e = true → e.on < l.toArray.size := fun j o ho e he hb =>
    ext_edges _ _ hext (by simp) j (hall j (by simpa using (Array.getElem?_eq_some_iff.1 ho).1)) o ho e he hb
  refine wq_any hm ?_
  have hA := ancs_ok l
  have := any_of_f (P := P) (Q := Q) (C := C) (f := f) (Region.noSelect_spec hsel) hedge ls.length ls (Array.replicate l.toArray.size false) a w.drew rfl hC
    ⟨hnd, by simp, he2, fun k hk => by
      have h1 : k ∈ (ls ++ [(f, false)]).map Prod.fst := hall k (by simpa using hk)
      have hk' : k < l.length := by simpa using hk
      have h2 : (Array.replicate l.toArray.size false).getD k true = false := by simp [Array.getD_eq_getD_getElem?, hk']
      exact ⟨fun _ => h1, fun _ => h2⟩, he1, fun j o ho hj => absurd (hall j (by simpa using (Array.getElem?_eq_some_iff.1 ho).1)) hj⟩
    (vB_ok hA hpairs) (fun x hx => hA f x.1 (by have := List.all_eq_true.1 hlast x hx; simpa using this)) h
  have e : ls.length + 1 = l.toArray.size := by simpa using hlen
  rw [e] at this
  exact this
theorem awf_region {id : Nat} {l : List Oper} (H0 : Heap) (ls : List (Nat × Bool)) (f : Nat) {o : Oper} (ho : l.toArray[f]? = some o) (hm : P.follows .mixedOrders = true) (hB : lastB l ls f = true) (hk : HLe H0 H)
    (h : ∀ Z : Fr → Heap → Prop, (∀ fr H, nx N w0 Wr fr H Q .normal → Z fr H) → tw P N w0 Wr l.toArray H0 ls fr H fun fr' H' => sx P N w0 Wr l.toArray [o] fr' H' Z) : awp P N w0 Wr (.region id l.toArray true) fr H Q :=
  fun a w ha hw => wp_region_last (C := Sat w0 Wr H0) ls f hm hB (hk _ _ _ hw.drew)
    (h (fun fr H => nx N w0 Wr fr H Q .normal) (fun _ _ h => h) (QF P l.toArray Q f) (fun fr' H' a w hz hf hs => by
      have h1 := hz (QN Q) (fun fr2 H2 a w hy hf2 hs2 => ⟨rfl, hy a w hf2 hs2⟩) a w hf hs
      show wpOp P l.toArray (QN Q) f (fun a w => QN Q .normal a w) a w
      unfold wpOp
      simp only [ho]
      unfold wpList at h1
      split
      · rename_i hw'
        rw [if_pos hw'] at h1
        exact h1.imp (Oper.wp_mono fun a w hh => hh) (fun h => h)
      · rename_i hw'
        rw [if_neg hw'] at h1
        exact h1) a w.drew ha hw.drew)
theorem awf_seq_region {id : Nat} {l : List Oper} {y : Code} (H0 : Heap) (ls : List (Nat × Bool)) (f : Nat) {o : Oper} (ho : l.toArray[f]? = some o) (hm : P.follows .mixedOrders = true) (hB : lastB l ls f = true) (hk : HLe H0 H)
    (h : ∀ Z : Fr → Heap → Prop, (∀ fr H, awp P N w0 Wr y fr H Q → Z fr H) → tw P N w0 Wr l.toArray H0 ls fr H fun fr' H' => sx P N w0 Wr l.toArray [o] fr' H' Z) : awp P N w0 Wr (.seq (.region id l.toArray true) y) fr H Q :=
  aS (awf_region H0 ls f ho hm hB hk fun Z hZ => h Z fun fr H hy => hZ fr H hy)
end
end Go.Proofs.YtkojkeabelckjaaGreatDoor
end

section
set_option linter.all false
namespace Go.Proofs.YtkojkeabelckjaaGreatDoor
open Go.RowKit Go.Lib
section
variable {P : Program} {N : Frm} {w0 w : World} {Wr : List Nat} {ops : Array Oper} {rest : List Oper} {fr : Fr} {H : Heap} {Z : Fr → Heap → Prop} {d ty : Nat} {pos : String} {after : Array Edge}
theorem strCells_str (m : List UInt8) : strCells (str m) = bv m := by simp [strCells, str, bv]
theorem run_appStr {t u e : TypeId} {i : TypeInfo} (ht : P.underlying t = some (.slice e)) (hu : P.underlying u = some .string) (hi : P.info? e = some i) (hz : i.zero = some (.int .u8 0)) (hsize : i.size = 1) (hby : i.bytes = 1)
    {v : Value} {n : Nat} {xs : List Value} (hown : w.ownsRow 0 e 1 v n xs) (s : ByteArray) (hl : n + s.size ≤ 140737488355328) :
    ∃ v' w', (Builtin.append_ #[t, u] ty #[v, .string s]).run P w = .ok v' w' ∧ w'.ownsRow 0 e 1 v' (n + s.size) (xs ++ strCells s) ∧ w.grownBy w' v.ownBlock ∧ (v'.ownBlock = v.ownBlock ∨ v'.ownBlock = some w.heap.size) := by
  obtain ⟨v', w', h1, h2, h3, _⟩ := run_append_own_string (P := P) w 0 t u ty e i ht hu hi hz hsize hby v n xs hown s (by show _ ≤ 9223372036854775807; omega) hl (Nat.zero_le _)
  refine ⟨v', w', h1, h2, h3, ?_⟩
  have hxl : xs.length = n := by simpa using hown.1
  rcases hown.2 with ⟨rfl, rfl⟩ | ⟨g, cap, cur, rfl, hbg, hg, hnc, hcm, hcs, htake⟩
  · by_cases hm : s.size = 0
    · have hf := run_firstCells_string (P := P) w 1 s
      rw [hm] at hf
      have h4 : (Builtin.append_ #[t, u] ty #[.slice none 0 0, .string s]).run P w = .ok (.slice none 0 0) w := by
        simp [Builtin.append_, run_underlying ht, run_underlying hu, sizeOf, typeInfo, hi, hsize, Builtin.lenOf, hm, hf]
      rw [h4] at h1
      injection h1 with h1 _
      subst h1
      exact .inl rfl
    · have hr := run_append_nil_string (P := P) w t u ty e i (.int .u8 0) ht hu hi hz s (by omega) (by omega) (by rw [hby]; omega)
      rw [hr] at h1
      injection h1 with h1 _
      subst h1
      exact .inr rfl
  · by_cases hroom : n + s.size ≤ cap
    · have hcs' : cur.size = cap := by simpa using hcs
      have hr := run_append_room_string (P := P) w t u ty e i ht hu hi hsize g n cap cur hg s hroom (by omega)
      rw [hr] at h1
      injection h1 with h1 _
      subst h1
      exact .inl rfl
    · have holds : ∀ j u, xs[j]? = some u → w.cell? ((⟨g, 0, none⟩ : Addr).add j) = some u := hown.cells (g := g) rfl
      have hr := run_append_grow_string (P := P) w t u ty e i (.int .u8 0) ht hu hi hz ⟨g, 0, none⟩ n cap xs (by rw [hsize]; simpa using hxl) holds s (by omega) (by omega) (by rw [hby]; exact growslice_fits (by omega) (by omega))
      rw [hr] at h1
      injection h1 with h1 _
      subst h1
      exact .inr rfl
theorem sx_appendStr {t u e : TypeId} {s x : Operand} {v : Value} {l m : List UInt8} (H1 : Heap) (ht : P.underlying t = some (.slice e)) (hu : P.underlying u = some .string) (hi : (P.info? e).map (fun i => (i.zero, i.size, i.bytes)) = some (some (.int .u8 0), 1, 1)) (hs : ev fr s = some v) (hv : RowOk v l.length) (hx : ev fr x = some (.string (str m)))
    (hl : l.length + m.length ≤ 140737488355328) (hH : HLe (H1 ++ rowE v e 1 (bv l)) H) (hN : Nat.ble (d + 1) N.n = true)
    (h : ∀ v', RowOk v' (l ++ m).length → sx P N w0 Wr ops rest ((d, v') :: fr) (H1 ++ rowE v' e 1 (bv (l ++ m))) Z) :
    sx P N w0 Wr ops (⟨some d, .call { callee := .builtin .append, args := #[s, x], argTypes := #[t, u] }, ty, pos, after, none⟩ :: rest) fr H Z := by
  obtain ⟨i, h1, h2⟩ := Option.map_eq_some_iff.1 hi
  obtain ⟨h3, h4, h5⟩ : i.zero = some (.int .u8 0) ∧ i.size = 1 ∧ i.bytes = 1 := by simpa using h2
  refine sx_make (R := fun v' H' => RowOk v' (l ++ m).length ∧ H' = H1 ++ rowE v' e 1 (bv (l ++ m))) hN (fun a w ha hw => ?_) (fun v' H' hR => by obtain ⟨h2, rfl⟩ := hR; exact h v' h2)
  have hw' := (HLe.trans (HLe.swap H1 (rowE v e 1 (bv l))) hH) _ _ _ hw
  have hown := own_of_sat hv (by simp [bv_length]) hw'
  obtain ⟨v', w', hrun, g2, g4, g5⟩ := run_appStr (P := P) (ty := ty) ht hu h1 h3 h4 h5 hown (str m) (by rw [str_size]; exact hl)
  rw [strCells_str, ← bv_append, str_size] at g2
  refine ⟨v', w', _, ?_, ⟨by rw [List.length_append]; exact (row_of_own g2).1, rfl⟩, (HLe.swap _ _) _ _ _ (hw'.app hv g2 g4 g5)⟩
  simp only [execOp, resolve, List.map_toArray, List.map_cons, List.map_nil, ha.eval hs, ha.eval hx, Sem.run_bind, Sem.run_pure, Result.andThen_ok, invoke, builtin, hrun]
theorem sx_callU {f : FuncId} {xs : List Operand} {vs : List Value} {ts : Array TypeId} {dst : Option Nat} {R : Value → Heap → Prop} (U : Heap) (hc : Fn P f vs U R) (hx : evs fr xs = some vs) (hU : U.Sublist H) (hroU : Ro U) (hN : dstB N dst = true)
    (h : ∀ v H', R v H' → sx P N w0 Wr ops rest (match dst with | some d => (d, v) :: fr | none => fr) (H'.filter Ent.wr ++ H) Z) :
    sx P N w0 Wr ops (⟨dst, .call { callee := .value (.func f), args := xs.toArray, argTypes := ts }, ty, pos, after, none⟩ :: rest) fr H Z :=
  jD9 U H hc hx ((HLe.swap H U).trans (HLe.dup hU hroU)) hN h
theorem Sat.callV {w' : World} {H' : Heap} (hw : Sat w0 Wr H w) (h3 : Sat w [] H' w') : Sat w0 Wr (H'.filter Ent.wr ++ H) w' := by
  have hH := hw.bel h3.only.bel
  have hfr : ∀ e ∈ H'.filter Ent.wr, w.heap.size ≤ e.g := fun e he => by
    obtain ⟨h1, h2⟩ := List.mem_filter.1 he
    rcases (h3.ents e h1).2 h2 with h | h
    · cases h
    · exact h
  refine ⟨hH.only, fun e he => ?_, List.pairwise_append.2 ⟨h3.sep.sublist (List.filter_sublist), hw.sep, fun a ha b hb _ => ?_⟩⟩
  · rcases List.mem_append.1 he with he | he
    · exact ⟨(h3.ents e (List.mem_filter.1 he).1).1, fun _ => .inr (Nat.le_trans hw.only.size (hfr e he))⟩
    · exact hH.ents e he
  · have h1 := hfr a ha
    have h2 := Ent.lt (hw.ents b hb).1
    omega
theorem sx_callVU {f : FuncId} {xs : List Operand} {vs : List Value} {ts : Array TypeId} {dst : Option Nat} {R : Value → Heap → Prop} (U : Heap) (hc : Fn P f vs U R) (hx : evs fr xs = some vs) (hU : HLe U H) (hroU : Ro U) (hN : dstB N dst = true)
    (h : ∀ v H', R v H' → sx P N w0 Wr ops rest (match dst with | some d => (d, v) :: fr | none => fr) (H'.filter Ent.wr ++ H) Z) :
    sx P N w0 Wr ops (⟨dst, .call { callee := .value (.func f), args := xs.toArray, argTypes := ts }, ty, pos, after, none⟩ :: rest) fr H Z :=
  sx_callW (R := fun u H2 => ∃ H', R u H' ∧ H2 = H'.filter Ent.wr ++ H) hc.1 hx hN (fun w hw => by
    have hpre : Sat w (wrs U) U w := (hU _ _ _ hw).base
    exact (hc.2 w hpre).mono fun e w' he => by
      obtain ⟨u, H', h1, h2, h3⟩ := he
      have h0 : wrs U = [] := by have := hroU.wrs []; simpa [wrs] using this
      rw [h0] at h3
      exact ⟨u, _, h1, ⟨H', h2, rfl⟩, hw.callV h3⟩) (fun u H2 hR => by obtain ⟨H', hR, rfl⟩ := hR; exact h u H' hR)
end
theorem row_view {A : Option Addr} {n c : Nat} (hle : ∀ (X Y : Heap) (t : TypeId) (size : Nat) (xs : List Value), HLe (X ++ (roE A xs ++ Y)) (X ++ (rowE (.slice A n c) t size xs ++ Y))) (X : Heap) (t : TypeId) (size : Nat) (xs : List Value) : HLe (roE A xs) (X ++ rowE (.slice A n c) t size xs) := by
  have h := hle X [] t size xs
  simp only [List.append_nil] at h
  exact (HLe.sub (List.sublist_append_right X _)).trans h
end Go.Proofs.YtkojkeabelckjaaGreatDoor
end

section
set_option linter.all false
namespace Go.Proofs.YtkojkeabelckjaaGreatDoor
open Go.RowKit
structure SlIn (A : Option Addr) (n c : Nat) : Prop where
  ok : SlOk A n
  cap : n ≤ c
  none : A = Option.none → c = 0
section
variable {P : Program} {N : Frm} {w0 w : World} {Wr : List Nat} {ops : Array Oper} {rest : List Oper} {fr : Fr} {H : Heap} {Z : Fr → Heap → Prop} {d ty : Nat} {pos : String} {after : Array Edge}
end
section
variable {P : Program} {N : Frm} {w0 w : World} {Wr : List Nat} {ops : Array Oper} {rest : List Oper} {fr : Fr} {H : Heap} {Z : Fr → Heap → Prop} {d ty : Nat} {pos : String} {after : Array Edge}
end
section
variable {P : Program} {Q : Exit → Act → World → Prop} {C : World → Prop}
end
def ixb_rho : Go.Shelf.Ren := ⟨fun n => match n with | 0 => 0 | 1 => 1 | 2 => 2 | 99 => 152 | 103 => 173 | 119 => 225 | 120 => 224 | 125 => 81 | 128 => 129 | 129 => 130 | 137 => 131 | 150 => 175 | 151 => 211 | 152 => 213 | 153 => 203 | 156 => 62 | 160 => 174 | 161 => 172 | 165 => 104 | 166 => 105 | 168 => 190 | 169 => 106 | 171 => 230 | 172 => 176 | 197 => 191 | 205 => 229 | 206 => 184 | 210 => 199 | 217 => 164 | 224 => 226 | 225 => 227 | 226 => 214 | 227 => 196 | 228 => 210 | 231 => 195 | 232 => 200 | 233 => 197 | 234 => 201 | 235 => 198 | 236 => 202 | 240 => 149 | 241 => 150 | 242 => 208 | 243 => 234 | 244 => 204 | 245 => 205 | 246 => 235 | 247 => 215 | 260 => 209 | 266 => 188 | 271 => 212 | 276 => 182 | 277 => 183 | 278 => 223 | 279 => 216 | 280 => 217 | 281 => 218 | 282 => 219 | 283 => 236 | 284 => 237 | 285 => 238 | 286 => 239 | 287 => 228 | 316 => 141 | 317 => 240 | 318 => 241 | 319 => 242 | 320 => 243 | 321 => 232 | 322 => 233 | 329 => 160 | 330 => 161 | 337 => 244 | 338 => 245 | 347 => 246 | 348 => 247 | 349 => 248 | 350 => 249 | 351 => 250 | 352 => 251 | 353 => 252 | 354 => 253 | 355 => 254 | 356 => 255 | 357 => 256 | 358 => 257 | 359 => 258 | 360 => 259 | 361 => 260 | 362 => 265 | 363 => 269 | 364 => 267 | 365 => 268 | 366 => 270 | 367 => 280 | _ => 0, fun n => match n with | 0 => 0 | 1 => 1 | 2 => 2 | 3 => 3 | 4 => 4 | 5 => 5 | 6 => 6 | 7 => 7 | 8 => 8 | 9 => 9 | 10 => 10 | 11 => 11 | 12 => 12 | 13 => 13 | 14 => 14 | 15 => 15 | 16 => 16 | 17 => 17 | 18 => 18 | 19 => 19 | 20 => 20 | 21 => 21 | 22 => 256 | 23 => 283 | 24 => 103 | 25 => 284 | 27 => 312 | 28 => 247 | 31 => 147 | 37 => 132 | 40 => 332 | 41 => 282 | 46 => 48 | 47 => 172 | 51 => 112 | 52 => 243 | 53 => 45 | 54 => 193 | 55 => 244 | 63 => 317 | 64 => 318 | 67 => 146 | 69 => 190 | 70 => 203 | 71 => 204 | 72 => 205 | 73 => 206 | 74 => 207 | 75 => 208 | 76 => 209 | 77 => 210 | 79 => 301 | 80 => 126 | 81 => 148 | 83 => 338 | 84 => 346 | 85 => 320 | 86 => 321 | 99 => 288 | 104 => 342 | 105 => 302 | 106 => 303 | 108 => 337 | 111 => 289 | 114 => 164 | 115 => 306 | 116 => 307 | 117 => 308 | 118 => 309 | 119 => 328 | 122 => 305 | 123 => 310 | 124 => 311 | 126 => 316 | 127 => 254 | 128 => 313 | 131 => 101 | 137 => 329 | 138 => 330 | 139 => 331 | 143 => 343 | 144 => 344 | 145 => 345 | 148 => 232 | 164 => 290 | 165 => 291 | 166 => 292 | 167 => 319 | 168 => 322 | 169 => 323 | 170 => 324 | 171 => 347 | 172 => 348 | 173 => 349 | 174 => 350 | 175 => 333 | 176 => 334 | 182 => 237 | 183 => 238 | 203 => 339 | 209 => 335 | 210 => 336 | 211 => 351 | 212 => 352 | 213 => 353 | 214 => 341 | 218 => 268 | 219 => 269 | 220 => 218 | 222 => 271 | 228 => 296 | 229 => 297 | 232 => 354 | 233 => 355 | 238 => 356 | 239 => 357 | 240 => 358 | 241 => 359 | 242 => 360 | 243 => 361 | 244 => 362 | 245 => 363 | 246 => 364 | 247 => 365 | 248 => 366 | 249 => 367 | _ => 0, fun n => match n with | 1 => 0 | 3 => 1 | 4 => 2 | 15 => 3 | 16 => 4 | 17 => 5 | 18 => 6 | 19 => 7 | _ => 0⟩
theorem ixb0 : Lays.n137 Tryz.prog ixb_rho where
  mixed := by kernel_rfl
  f137 := by kernel_rfl
  f217 := by kernel_rfl
  f266 := by kernel_rfl
  t3 := by kernel_rfl
  a3 := fun w => by kernel_rfl
  z3 := fun w => by kernel_rfl
  v3 := fun w => by kernel_rfl
  t5 := by kernel_rfl
  a5 := fun w => by kernel_rfl
  z5 := fun w => by kernel_rfl
  v5 := fun w => by kernel_rfl
  t9 := by kernel_rfl
  a9 := fun w => by kernel_rfl
  z9 := fun w => by kernel_rfl
  v9 := fun w => by kernel_rfl
theorem enter_ixb : Enters Tryz.prog 131 := Enters.mk Tryz.func131 (by kernel_rfl) (by kernel_rfl)
theorem ixb_fn (s : List UInt8) (c : UInt8) : Fn Tryz.prog 131 [.string (str s), .int .u8 (c.toNat : Int)] [] fun v _ => v = iq (Lib.indexByte s c) :=
  Fn.of_same enter_ixb fun w => (Any.strings_IndexByte ixb0 (str s) (c.toNat : Int) w).mono fun e w' ⟨he, hw⟩ => ⟨by rw [he]; simp [str], hw.symm⟩
abbrev rdr (g : Nat) (s : List UInt8) (at_ e : Nat) : Ent := .own g 178 [.string (str s), iq (at_ : Nat), iq (e : Nat)]
def isBl (c : UInt8) : Bool := decide (0 ≤ Lib.indexByte [32, 9, 10, 13] c)
def jE8 (s : List UInt8) (i : Nat) : Nat := i + ((s.drop i).takeWhile isBl).length
theorem blankN_on {s : List UInt8} {i : Nat} {c : UInt8} (h : s[i]? = some c) (hc : isBl c = true) : jE8 s i = jE8 s (i + 1) := by
  obtain ⟨hl, hg⟩ := List.getElem?_eq_some_iff.1 h
  unfold jE8
  rw [List.drop_eq_getElem_cons hl, hg, List.takeWhile_cons_of_pos hc, List.length_cons]
  omega
theorem blankN_off {s : List UInt8} {i : Nat} (h : ∀ c, s[i]? = some c → isBl c = false) : jE8 s i = i := by
  unfold jE8
  rcases Nat.lt_or_ge i s.length with hl | hl
  · have := h _ (List.getElem?_eq_getElem hl)
    rw [List.drop_eq_getElem_cons hl, List.takeWhile_cons_of_neg (by rw [this]; decide)]
    rfl
  · rw [List.drop_eq_nil_of_le hl]
    rfl
theorem blankN_le {s : List UInt8} {i : Nat} (h : i ≤ s.length) : i ≤ jE8 s i ∧ jE8 s i ≤ s.length := by
  unfold jE8
  have h1 := (List.takeWhile_prefix (p := isBl) (l := s.drop i)).length_le
  rw [List.length_drop] at h1
  omega
theorem rblank_fn (g : Nat) (s : List UInt8) (i0 e : Nat) (hi0 : i0 ≤ s.length) (hs : s.length ≤ 1000000) :
    Fn Tryz.prog 85 [ptr g 0] [rdr g s i0 e] fun v H' => v = .tuple #[] ∧ H' = [rdr g s (jE8 s i0) e] := by
  refine Fn.enter (N := 32) Tryz.func85 rfl (by kernel_rfl) rfl (fun w0 => ?_)
  refine aB ?_
  refine jC2 (ι := Nat) (fun i => [(0, ptr g 0)]) (fun i => [rdr g s i e]) (fun i => i ≤ s.length ∧ jE8 s i = jE8 s i0) (fun i => s.length - i) i0 ⟨hi0, rfl⟩ (Kn.cons rfl Kn.nil) (HLe.refl _) ?_
  rintro i ⟨hi, hb⟩
  rcases Nat.lt_or_ge i s.length with hl | hl
  · obtain ⟨c, hc⟩ : ∃ c, s[i]? = some c := ⟨_, List.getElem?_eq_getElem hl⟩
    refine aS ?_
    refine jD5 [(0, ptr g 0), (24, .bool (isBl c))] [rdr g s i e] mixed (by kernel_rfl) (fun Z hZ => ?_) ?_
    · refine qM rfl rfl ?_
      refine jB2 rfl rfl ?_
      refine qFA rfl jF5 (by simp only [Nat.zero_add]; rfl) rfl ?_
      first | refine jA2 0 rfl rfl tyA3 tyS3 rfl rfl ?_
      refine qM rfl rfl ?_
      refine jB2 rfl rfl ?_
      refine qFA rfl tyF178_0 (by simp only [Nat.add_zero]; rfl) rfl ?_
      first | refine jA2 0 rfl rfl tyA9 tyS9 rfl rfl ?_
      refine sq_lenS Tryz.underlying9 rfl rfl ?_
      refine sq_lss rfl rfl rfl ?_
      refine qM rfl rfl ?_
      refine sq_force 12 rfl true (by simp; omega) ?_
      refine jA4 rfl rfl rfl ?_
      refine qM rfl rfl ?_
      refine jA4 rfl rfl rfl ?_
      refine jB2 rfl rfl ?_
      refine jA4 rfl rfl rfl ?_
      refine qFA rfl tyF178_0 (by simp only [Nat.add_zero]; rfl) rfl ?_
      refine jA4 rfl rfl rfl ?_
      first | refine jA2 0 rfl rfl tyA9 tyS9 rfl rfl ?_
      refine jA4 rfl rfl rfl ?_
      refine qM rfl rfl ?_
      refine jA4 rfl rfl rfl ?_
      refine jB2 rfl rfl ?_
      refine jA4 rfl rfl rfl ?_
      refine qFA rfl jF5 (by simp only [Nat.zero_add]; rfl) rfl ?_
      refine jA4 rfl rfl rfl ?_
      first | refine jA2 0 rfl rfl tyA3 tyS3 rfl rfl ?_
      refine jA4 rfl rfl rfl ?_
      refine sq_indexS Tryz.underlying9 rfl rfl (by omega) (by simpa using hc) rfl ?_
      refine jA4 rfl rfl rfl ?_
      refine jH7 (ixb_fn [32, 9, 10, 13] c) rfl rfl ?_
      refine jA4 rfl rfl rfl ?_
      refine sq_geq rfl rfl rfl ?_
      refine jC5 rfl rfl rfl ?_
      refine jD0 (hZ _ _ ?_ ?_)
      · exact Kn.cons rfl (Kn.cons rfl Kn.nil)
      · exact HLe.refl _
    refine aC rfl (fun h => ?_) (fun h => ?_)
    · refine aK ?_
      with_reducible refine nN ?_
      refine aB ?_
      refine aG (fun Z hZ => ?_)
      refine sM rfl rfl ?_
      refine jB1 rfl rfl ?_
      refine sFA rfl jF5 (by simp only [Nat.zero_add]; rfl) rfl ?_
      first | refine sL 0 rfl rfl tyA3 tyS3 rfl rfl ?_
      refine jA7 rfl rfl ((i + 1 : Nat) : Int) (by rw [IntWalk.i64_in _ (by omega)]; omega) rfl ?_
      refine jB1 rfl rfl ?_
      refine sFA rfl jF5 (by simp only [Nat.zero_add]; rfl) rfl ?_
      first | refine sS1 0 rfl rfl rfl tyS3 rfl rfl (by simp only [List.set_cons_succ, List.set_cons_zero]; rfl) (by simp only [List.set_cons_zero]; rfl) ?_
      refine sN (hZ _ _ ?_)
      refine nF [(0, _)] (Kn.cons rfl (Kn.nil)) ?_
      repeat (with_reducible refine nBN ?_)
      exact jB4 (i + 1) ⟨by omega, (blankN_on hc h).symm.trans hb⟩ (by omega) (Kn.cons rfl Kn.nil) (HLe.refl _)
    · refine jA8 ?_
      repeat (with_reducible refine nTE ?_)
      with_reducible refine nBE ?_
      have hb' : jE8 s i = i := blankN_off fun c' h' => by rw [hc] at h'; rw [← Option.some.inj h']; exact h
      exact nx_end0h _ rfl (HLe.refl _) ⟨rfl, by rw [← hb, hb']⟩
  · refine aS ?_
    refine jD5 [(0, ptr g 0), (24, .bool false)] [rdr g s i e] mixed (by kernel_rfl) (fun Z hZ => ?_) ?_
    · refine qM rfl rfl ?_
      refine jB2 rfl rfl ?_
      refine qFA rfl jF5 (by simp only [Nat.zero_add]; rfl) rfl ?_
      first | refine jA2 0 rfl rfl tyA3 tyS3 rfl rfl ?_
      refine qM rfl rfl ?_
      refine jB2 rfl rfl ?_
      refine qFA rfl tyF178_0 (by simp only [Nat.add_zero]; rfl) rfl ?_
      first | refine jA2 0 rfl rfl tyA9 tyS9 rfl rfl ?_
      refine sq_lenS Tryz.underlying9 rfl rfl ?_
      refine sq_lss rfl rfl rfl ?_
      refine qM rfl rfl ?_
      refine sq_force 12 rfl false (by simp; omega) ?_
      refine qO rfl rfl rfl rfl rfl ?_
      refine qO rfl rfl rfl rfl rfl ?_
      refine qO rfl rfl rfl rfl rfl ?_
      refine qO rfl rfl rfl rfl rfl ?_
      refine qO rfl rfl rfl rfl rfl ?_
      refine qO rfl rfl rfl rfl rfl ?_
      refine qO rfl rfl rfl rfl rfl ?_
      refine qO rfl rfl rfl rfl rfl ?_
      refine qO rfl rfl rfl rfl rfl ?_
      refine qO rfl rfl rfl rfl rfl ?_
      refine qO rfl rfl rfl rfl rfl ?_
      refine jC5 rfl rfl rfl ?_
      refine jD0 (hZ _ _ ?_ ?_)
      · exact Kn.cons rfl (Kn.cons rfl Kn.nil)
      · exact HLe.refl _
    refine aC rfl (fun h => ?_) (fun h => ?_)
    · cases h
    · refine jA8 ?_
      repeat (with_reducible refine nTE ?_)
      with_reducible refine nBE ?_
      have hb' : jE8 s i = i := blankN_off fun c' h' => by rw [List.getElem?_eq_none hl] at h'; cases h'
      exact nx_end0h _ rfl (HLe.refl _) ⟨rfl, by rw [← hb, hb']⟩
theorem u8_eq (a b : UInt8) : decide ((a.toNat : Int) = (b.toNat : Int)) = (some a == some b) := by
  rw [Bool.eq_iff_iff]
  simp only [decide_eq_true_eq, beq_iff_eq, Option.some.injEq]
  constructor
  · intro h; exact UInt8.toNat_inj.1 (by omega)
  · intro h; rw [h]
theorem u8_ne (a b : UInt8) : ((a.toNat : Int) != (b.toNat : Int)) = !(some a == some b) := by rw [← u8_eq]; rfl
def signB (s : List UInt8) (i : Nat) (c : UInt8) : Bool := s[i]? == some c
theorem rsign_fn (g : Nat) (s : List UInt8) (i e : Nat) (c : UInt8) (hi : i ≤ s.length) (hs : s.length ≤ 1000000) :
    Fn Tryz.prog 171 [ptr g 0, .int .u8 (c.toNat : Int)] [rdr g s i e] fun v H' => v = .bool (signB s i c) ∧ H' = [rdr g s (if signB s i c = true then jE8 s (i + 1) else i) e] := by
  refine Fn.enter (N := 37) Tryz.func171 rfl (by kernel_rfl) rfl (fun w0 => ?_)
  refine aR fun Z hZ => sA rfl rfl <| sN (hZ _ _ ?_)
  refine aF [(0, _), (1, _)] (Kn.cons rfl (Kn.cons rfl (Kn.nil))) ?_
  rcases Nat.lt_or_ge i s.length with hl | hl
  · obtain ⟨c', hc⟩ : ∃ c, s[i]? = some c := ⟨_, List.getElem?_eq_getElem hl⟩
    refine aS ?_
    refine jD5 [(0, ptr g 0), (27, .bool (!signB s i c))] [rdr g s i e] mixed (by kernel_rfl) (fun Z hZ => ?_) ?_
    · refine qM rfl rfl ?_
      refine jB2 rfl rfl ?_
      refine qFA rfl jF5 (by simp only [Nat.zero_add]; rfl) rfl ?_
      first | refine jA2 0 rfl rfl tyA3 tyS3 rfl rfl ?_
      refine qM rfl rfl ?_
      refine jB2 rfl rfl ?_
      refine qFA rfl tyF178_0 (by simp only [Nat.add_zero]; rfl) rfl ?_
      first | refine jA2 0 rfl rfl tyA9 tyS9 rfl rfl ?_
      refine sq_lenS Tryz.underlying9 rfl rfl ?_
      refine sq_eql rfl rfl rfl ?_
      refine qM rfl rfl ?_
      refine sq_force 15 rfl false (by simp; omega) ?_
      refine jA4 rfl rfl rfl ?_
      refine qM rfl rfl ?_
      refine jA4 rfl rfl rfl ?_
      refine jB2 rfl rfl ?_
      refine jA4 rfl rfl rfl ?_
      refine qFA rfl tyF178_0 (by simp only [Nat.add_zero]; rfl) rfl ?_
      refine jA4 rfl rfl rfl ?_
      first | refine jA2 0 rfl rfl tyA9 tyS9 rfl rfl ?_
      refine jA4 rfl rfl rfl ?_
      refine qM rfl rfl ?_
      refine jA4 rfl rfl rfl ?_
      refine jB2 rfl rfl ?_
      refine jA4 rfl rfl rfl ?_
      refine qFA rfl jF5 (by simp only [Nat.zero_add]; rfl) rfl ?_
      refine jA4 rfl rfl rfl ?_
      first | refine jA2 0 rfl rfl tyA3 tyS3 rfl rfl ?_
      refine jA4 rfl rfl rfl ?_
      refine sq_indexS Tryz.underlying9 rfl rfl (by omega) (by simpa using hc) rfl ?_
      refine jA4 rfl rfl rfl ?_
      refine qM rfl rfl ?_
      refine jA4 rfl rfl rfl ?_
      refine sq_neq rfl rfl rfl ?_
      refine jC5 rfl rfl rfl ?_
      refine jD0 (hZ _ _ ?_ ?_)
      · exact Kn.cons rfl (Kn.cons (congrArg some (congrArg Value.bool (by rw [signB, hc]; exact u8_ne c' c))) Kn.nil)
      · exact HLe.refl _
    refine aC rfl (fun h => ?_) (fun h => ?_)
    · have h' : signB s i c = false := by simpa using h
      rw [h']
      refine aR fun Z hZ => sA rfl rfl <| sN (hZ _ _ ?_)
      refine aF [(4, _)] (Kn.cons rfl (Kn.nil)) ?_
      refine aE ?_
      repeat (with_reducible refine nTR ?_)
      exact nR1 rfl rfl ⟨rfl, rfl⟩
    have h' : signB s i c = true := by simpa using h
    rw [h', if_pos rfl]
    refine aK ?_
    with_reducible refine nN ?_
    refine aR fun Z hZ => sM rfl rfl ?_
    refine jB1 rfl rfl ?_
    refine sFA rfl jF5 (by simp only [Nat.zero_add]; rfl) rfl ?_
    first | refine sL 0 rfl rfl tyA3 tyS3 rfl rfl ?_
    refine jA7 rfl rfl ((i + 1 : Nat) : Int) (by rw [IntWalk.i64_in _ (by omega)]; omega) rfl ?_
    refine jB1 rfl rfl ?_
    refine sFA rfl jF5 (by simp only [Nat.zero_add]; rfl) rfl ?_
    first | refine sS1 0 rfl rfl rfl tyS3 rfl rfl (by simp only [List.set_cons_succ, List.set_cons_zero]; rfl) (by simp only [List.set_cons_zero]; rfl) ?_
    refine sN (hZ _ _ ?_)
    refine aF [(0, _)] (Kn.cons rfl (Kn.nil)) ?_
    refine aR fun Z hZ => sM rfl rfl ?_
    refine jB7 [0] [] (rblank_fn g s (i + 1) e (by omega) hs) rfl rfl (by simp) rfl ?_
    rintro v H' ⟨rfl, rfl⟩
    refine jC7 (by simp only [List.filter_cons, List.filter_nil, Ent.wr, if_true, List.cons_append, List.nil_append, pick, List.filterMap_nil]; first | done | rfl) ?_
    refine sN (hZ _ _ ?_)
    refine aF [] (Kn.nil) ?_
    refine aR fun Z hZ => sA rfl rfl <| sN (hZ _ _ ?_)
    refine aF [(4, _)] (Kn.cons rfl (Kn.nil)) ?_
    refine aE ?_
    exact nR1 rfl rfl ⟨rfl, rfl⟩
  · have h' : signB s i c = false := by simp [signB, List.getElem?_eq_none hl]
    refine aS ?_
    refine jD5 [(0, ptr g 0), (27, .bool true)] [rdr g s i e] mixed (by kernel_rfl) (fun Z hZ => ?_) ?_
    · refine qM rfl rfl ?_
      refine jB2 rfl rfl ?_
      refine qFA rfl jF5 (by simp only [Nat.zero_add]; rfl) rfl ?_
      first | refine jA2 0 rfl rfl tyA3 tyS3 rfl rfl ?_
      refine qM rfl rfl ?_
      refine jB2 rfl rfl ?_
      refine qFA rfl tyF178_0 (by simp only [Nat.add_zero]; rfl) rfl ?_
      first | refine jA2 0 rfl rfl tyA9 tyS9 rfl rfl ?_
      refine sq_lenS Tryz.underlying9 rfl rfl ?_
      refine sq_eql rfl rfl rfl ?_
      refine qM rfl rfl ?_
      refine sq_force 15 rfl true (by simp; omega) ?_
      refine qO rfl rfl rfl rfl rfl ?_
      refine qO rfl rfl rfl rfl rfl ?_
      refine qO rfl rfl rfl rfl rfl ?_
      refine qO rfl rfl rfl rfl rfl ?_
      refine qO rfl rfl rfl rfl rfl ?_
      refine qO rfl rfl rfl rfl rfl ?_
      refine qO rfl rfl rfl rfl rfl ?_
      refine qO rfl rfl rfl rfl rfl ?_
      refine qO rfl rfl rfl rfl rfl ?_
      refine qO rfl rfl rfl rfl rfl ?_
      refine qO rfl rfl rfl rfl rfl ?_
      refine jC5 rfl rfl rfl ?_
      refine jD0 (hZ _ _ ?_ ?_)
      · exact Kn.cons rfl (Kn.cons rfl Kn.nil)
      · exact HLe.refl _
    refine aC rfl (fun h => ?_) (fun h => ?_)
    · rw [h']
      refine aR fun Z hZ => sA rfl rfl <| sN (hZ _ _ ?_)
      refine aF [(4, _)] (Kn.cons rfl (Kn.nil)) ?_
      refine aE ?_
      repeat (with_reducible refine nTR ?_)
      exact nR1 rfl rfl ⟨rfl, rfl⟩
    · cases h
theorem rend_fn (g : Nat) (s : List UInt8) (i e : Nat) (c : UInt8) (hi : i ≤ s.length) (hs : s.length ≤ 1000000) :
    Fn Tryz.prog 192 [ptr g 0, .int .u8 (c.toNat : Int)] [rdr g s i e] fun v H' => v = .bool (signB s i c) ∧ H' = [rdr g s (if signB s i c = true then i + 1 else i) e] := by
  refine Fn.enter (N := 35) Tryz.func192 rfl (by kernel_rfl) rfl (fun w0 => ?_)
  refine aR fun Z hZ => sA rfl rfl <| sN (hZ _ _ ?_)
  refine aF [(0, _), (1, _)] (Kn.cons rfl (Kn.cons rfl (Kn.nil))) ?_
  rcases Nat.lt_or_ge i s.length with hl | hl
  · obtain ⟨c', hc⟩ : ∃ c, s[i]? = some c := ⟨_, List.getElem?_eq_getElem hl⟩
    refine aS ?_
    refine jD5 [(0, ptr g 0), (27, .bool (signB s i c))] [rdr g s i e] mixed (by kernel_rfl) (fun Z hZ => ?_) ?_
    · refine qM rfl rfl ?_
      refine jB2 rfl rfl ?_
      refine qFA rfl jF5 (by simp only [Nat.zero_add]; rfl) rfl ?_
      first | refine jA2 0 rfl rfl tyA3 tyS3 rfl rfl ?_
      refine qM rfl rfl ?_
      refine jB2 rfl rfl ?_
      refine qFA rfl tyF178_0 (by simp only [Nat.add_zero]; rfl) rfl ?_
      first | refine jA2 0 rfl rfl tyA9 tyS9 rfl rfl ?_
      refine sq_lenS Tryz.underlying9 rfl rfl ?_
      refine sq_lss rfl rfl rfl ?_
      refine qM rfl rfl ?_
      refine sq_force 15 rfl true (by simp; omega) ?_
      refine jA4 rfl rfl rfl ?_
      refine qM rfl rfl ?_
      refine jA4 rfl rfl rfl ?_
      refine jB2 rfl rfl ?_
      refine jA4 rfl rfl rfl ?_
      refine qFA rfl tyF178_0 (by simp only [Nat.add_zero]; rfl) rfl ?_
      refine jA4 rfl rfl rfl ?_
      first | refine jA2 0 rfl rfl tyA9 tyS9 rfl rfl ?_
      refine jA4 rfl rfl rfl ?_
      refine qM rfl rfl ?_
      refine jA4 rfl rfl rfl ?_
      refine jB2 rfl rfl ?_
      refine jA4 rfl rfl rfl ?_
      refine qFA rfl jF5 (by simp only [Nat.zero_add]; rfl) rfl ?_
      refine jA4 rfl rfl rfl ?_
      first | refine jA2 0 rfl rfl tyA3 tyS3 rfl rfl ?_
      refine jA4 rfl rfl rfl ?_
      refine sq_indexS Tryz.underlying9 rfl rfl (by omega) (by simpa using hc) rfl ?_
      refine jA4 rfl rfl rfl ?_
      refine qM rfl rfl ?_
      refine jA4 rfl rfl rfl ?_
      refine sq_eql rfl rfl rfl ?_
      refine jC5 rfl rfl rfl ?_
      refine jD0 (hZ _ _ ?_ ?_)
      · exact Kn.cons rfl (Kn.cons (congrArg some (congrArg Value.bool (by rw [signB, hc]; exact u8_eq c' c))) Kn.nil)
      · exact HLe.refl _
    refine aC rfl (fun h => ?_) (fun h => ?_)
    · rw [h, if_pos rfl]
      refine aR fun Z hZ => sM rfl rfl ?_
      refine jB1 rfl rfl ?_
      refine sFA rfl jF5 (by simp only [Nat.zero_add]; rfl) rfl ?_
      first | refine sL 0 rfl rfl tyA3 tyS3 rfl rfl ?_
      refine jA7 rfl rfl ((i + 1 : Nat) : Int) (by rw [IntWalk.i64_in _ (by omega)]; omega) rfl ?_
      refine jB1 rfl rfl ?_
      refine sFA rfl jF5 (by simp only [Nat.zero_add]; rfl) rfl ?_
      first | refine sS1 0 rfl rfl rfl tyS3 rfl rfl (by simp only [List.set_cons_succ, List.set_cons_zero]; rfl) (by simp only [List.set_cons_zero]; rfl) ?_
      refine sN (hZ _ _ ?_)
      refine aF [] (Kn.nil) ?_
      refine aR fun Z hZ => sA rfl rfl <| sN (hZ _ _ ?_)
      refine aF [(4, _)] (Kn.cons rfl (Kn.nil)) ?_
      refine aE ?_
      repeat (with_reducible refine nTR ?_)
      exact nR1 rfl rfl ⟨rfl, rfl⟩
    rw [h]
    refine aK ?_
    with_reducible refine nN ?_
    refine aR fun Z hZ => sA rfl rfl <| sN (hZ _ _ ?_)
    refine aF [(4, _)] (Kn.cons rfl (Kn.nil)) ?_
    refine aE ?_
    exact nR1 rfl rfl ⟨rfl, rfl⟩
  · have h' : signB s i c = false := by simp [signB, List.getElem?_eq_none hl]
    rw [h']
    refine aS ?_
    refine jD5 [(0, ptr g 0), (27, .bool false)] [rdr g s i e] mixed (by kernel_rfl) (fun Z hZ => ?_) ?_
    · refine qM rfl rfl ?_
      refine jB2 rfl rfl ?_
      refine qFA rfl jF5 (by simp only [Nat.zero_add]; rfl) rfl ?_
      first | refine jA2 0 rfl rfl tyA3 tyS3 rfl rfl ?_
      refine qM rfl rfl ?_
      refine jB2 rfl rfl ?_
      refine qFA rfl tyF178_0 (by simp only [Nat.add_zero]; rfl) rfl ?_
      first | refine jA2 0 rfl rfl tyA9 tyS9 rfl rfl ?_
      refine sq_lenS Tryz.underlying9 rfl rfl ?_
      refine sq_lss rfl rfl rfl ?_
      refine qM rfl rfl ?_
      refine sq_force 15 rfl false (by simp; omega) ?_
      refine qO rfl rfl rfl rfl rfl ?_
      refine qO rfl rfl rfl rfl rfl ?_
      refine qO rfl rfl rfl rfl rfl ?_
      refine qO rfl rfl rfl rfl rfl ?_
      refine qO rfl rfl rfl rfl rfl ?_
      refine qO rfl rfl rfl rfl rfl ?_
      refine qO rfl rfl rfl rfl rfl ?_
      refine qO rfl rfl rfl rfl rfl ?_
      refine qO rfl rfl rfl rfl rfl ?_
      refine qO rfl rfl rfl rfl rfl ?_
      refine qO rfl rfl rfl rfl rfl ?_
      refine jC5 rfl rfl rfl ?_
      refine jD0 (hZ _ _ ?_ ?_)
      · exact Kn.cons rfl (Kn.cons rfl Kn.nil)
      · exact HLe.refl _
    refine aC rfl (fun h => ?_) (fun h => ?_)
    · cases h
    refine aK ?_
    with_reducible refine nN ?_
    refine aR fun Z hZ => sA rfl rfl <| sN (hZ _ _ ?_)
    refine aF [(4, _)] (Kn.cons rfl (Kn.nil)) ?_
    refine aE ?_
    exact nR1 rfl rfl ⟨rfl, rfl⟩
theorem reach0_fn (g : Nat) (s : List UInt8) (i : Nat) (deep : Nat) (a b : UInt8) (f : Value) (hd : deep ≤ 4) (hi : i < s.length) (hs : s.length ≤ 1000000) (ha : signB s i a = true) (hb : signB s (jE8 s (i + 1)) b = true) :
    Fn Tryz.prog 166 [ptr g 0, iq (deep : Nat), .int .u8 (a.toNat : Int), .int .u8 (b.toNat : Int), f] [rdr g s i 0] fun v H' => v = .tuple #[] ∧ H' = [rdr g s (jE8 s (i + 1) + 1) 0] := by
  have h1 := rsign_fn g s i 0 a (by omega) hs
  rw [ha, if_pos rfl] at h1
  have hle := (blankN_le (s := s) (i := i + 1) (by omega)).2
  have h2 := rend_fn g s (jE8 s (i + 1)) 0 b hle hs
  rw [hb, if_pos rfl] at h2
  refine Fn.enter (N := 70) Tryz.func166 rfl (by kernel_rfl) rfl (fun w0 => ?_)
  refine aS ?_
  refine aR fun Z hZ => sM rfl rfl ?_
  refine jE3 rfl rfl rfl ?_
  refine sN (hZ _ _ ?_)
  refine aF [(0, _), (2, _), (3, _), (4, _), (12, _)] (Kn.cons rfl (Kn.cons rfl (Kn.cons rfl (Kn.cons rfl (Kn.cons rfl (Kn.nil)))))) ?_
  refine aC rfl (fun h => ?_) (fun h => ?_)
  · simp at h; omega
  refine aK ?_
  with_reducible refine nN ?_
  refine aR fun Z hZ => sM rfl rfl <| sM rfl rfl ?_
  refine jB7 [0] [] h1 rfl rfl (by simp) rfl ?_
  rintro v H' ⟨rfl, rfl⟩
  refine jC7 (by simp only [List.filter_cons, List.filter_nil, Ent.wr, if_true, List.cons_append, List.nil_append, pick, List.filterMap_nil]; first | done | rfl) ?_
  refine sN (hZ _ _ ?_)
  refine aF [(0, _), (3, _), (4, _)] (Kn.cons rfl (Kn.cons rfl (Kn.cons rfl (Kn.nil)))) ?_
  refine aS ?_
  refine aR fun Z hZ => sM rfl rfl <| sM rfl rfl ?_
  refine jB7 [0] [] h2 rfl rfl (by simp) rfl ?_
  rintro v H' ⟨rfl, rfl⟩
  refine jC7 (by simp only [List.filter_cons, List.filter_nil, Ent.wr, if_true, List.cons_append, List.nil_append, pick, List.filterMap_nil]; first | done | rfl) ?_
  refine sN (hZ _ _ ?_)
  refine aF [(0, _), (3, _), (4, _), (24, _)] (Kn.cons rfl (Kn.cons rfl (Kn.cons rfl (Kn.cons rfl (Kn.nil))))) ?_
  refine aC rfl (fun h => ?_) (fun h => ?_)
  · refine aE ?_
    repeat (with_reducible refine nTR ?_)
    exact nx_ret0h _ rfl (HLe.refl _) ⟨rfl, rfl⟩
  · cases h
theorem robject0_fn (g : Nat) (s : List UInt8) (i : Nat) (deep : Nat) (hd : deep ≤ 4) (hi : i < s.length) (hs : s.length ≤ 1000000) (ha : signB s i 123 = true) (hb : signB s (jE8 s (i + 1)) 125 = true) :
    Fn Tryz.prog 136 [ptr g 0, iq (deep : Nat)] [rdr g s i 0] fun v H' => (∃ A c, v = .iface 108 (.slice A 0 c)) ∧ H' = [rdr g s (jE8 s (i + 1) + 1) 0] := by
  refine Fn.enter (N := 13) Tryz.func136 rfl (by kernel_rfl) rfl (fun w0 => ?_)
  refine aR (fun Z hZ => ?_)
  refine jA5 rfl rfl rfl (fun g1 => ?_)
  refine jA5 rfl rfl rfl (fun g2 => ?_)
  refine sA rfl rfl <| sN (hZ _ _ ?_)
  refine aF [(2, _), (3, _)] (Kn.cons rfl (Kn.cons rfl (Kn.nil))) ?_
  refine aR (fun Z hZ => ?_)
  refine sx_buildSlice0 Tryz.underlying108 tyS279 rfl (fun gs => ?_)
  refine sAl tyZ108 rfl (fun g3 => ?_)
  refine sS1 0 rfl rfl rfl tyS108 rfl rfl (by simp only [List.set_cons_zero]; rfl) (by simp only [List.set_cons_zero]; rfl) ?_
  refine sN (hZ _ _ ?_)
  refine aF [(2, _), (3, _), (5, _)] (Kn.cons rfl (Kn.cons rfl (Kn.cons rfl (Kn.nil)))) ?_
  refine aR (fun Z hZ => ?_)
  refine sL 3 rfl rfl tyA176 tyS176 rfl rfl ?_
  refine sL 2 rfl rfl tyA3 tyS3 rfl rfl ?_
  refine sx_makeFunc rfl rfl ?_
  refine jD9 [rdr g s i 0] [.own g3 108 [.slice (some ⟨gs, 0, none⟩) 0 0]] (reach0_fn g s i deep 123 125 _ hd hi hs ha hb) rfl (HLe.pick [4, 0] (by simp) rfl) rfl ?_
  rintro v H' ⟨rfl, rfl⟩
  refine jE0 [rdr g s (jE8 s (i + 1) + 1) 0, .own g3 108 [.slice (some ⟨gs, 0, none⟩) 0 0]] (HLe.refl _) ?_
  refine sN (hZ _ _ ?_)
  refine aF [(5, _)] (Kn.cons rfl (Kn.nil)) ?_
  refine aR (fun Z hZ => ?_)
  refine sL 1 rfl rfl tyA108 tyS108 rfl rfl ?_
  refine sx_mkIface Tryz.underlying108 rfl rfl rfl ?_
  refine sA rfl rfl <| sN (hZ _ _ ?_)
  refine aF [(4, _)] (Kn.cons rfl (Kn.nil)) ?_
  refine aE ?_
  exact jD4 [rdr g s (jE8 s (i + 1) + 1) 0] rfl rfl (HLe.pick [0] (by simp) rfl) ⟨⟨_, _, rfl⟩, rfl⟩
theorem rvalue0_fn (g : Nat) (s : List UInt8) (i : Nat) (deep : Nat) (hd : deep ≤ 4) (hi : i < s.length) (hs : s.length ≤ 1000000) (ha : signB s i 123 = true) (hb : signB s (jE8 s (i + 1)) 125 = true) :
    Fn Tryz.prog 86 [ptr g 0, iq (deep : Nat)] [rdr g s i 0] fun v H' => (∃ A c, v = .iface 108 (.slice A 0 c)) ∧ H' = [rdr g s (jE8 s (i + 1) + 1) 0] := by
  have hc : s[i]? = some 123 := by simpa [signB] using ha
  refine Fn.enter (N := 74) Tryz.func86 rfl (by kernel_rfl) rfl (fun w0 => ?_)
  refine aR fun Z hZ => sA rfl rfl <| sN (hZ _ _ ?_)
  refine aF [(0, _), (1, _)] (Kn.cons rfl (Kn.cons rfl (Kn.nil))) ?_
  refine aS ?_
  refine jC1 mixed (by kernel_rfl) (fun Z hZ => ?_)
  refine qM rfl rfl ?_
  refine jB2 rfl rfl ?_
  refine qFA rfl jF5 (by simp only [Nat.zero_add]; rfl) rfl ?_
  first | refine jA2 0 rfl rfl tyA3 tyS3 rfl rfl ?_
  refine qM rfl rfl ?_
  refine jB2 rfl rfl ?_
  refine qFA rfl tyF178_0 (by simp only [Nat.add_zero]; rfl) rfl ?_
  first | refine jA2 0 rfl rfl tyA9 tyS9 rfl rfl ?_
  refine sq_lenS Tryz.underlying9 rfl rfl ?_
  refine sq_eql rfl rfl rfl ?_
  refine jD0 (hZ _ _ ?_)
  refine aF [(0, _), (1, _), (15, _)] (Kn.cons rfl (Kn.cons rfl (Kn.cons rfl (Kn.nil)))) ?_
  refine aC rfl (fun h => ?_) (fun h => ?_)
  · simp at h; omega
  refine aK ?_
  with_reducible refine nN ?_
  refine aS ?_
  refine jC1 mixed (by kernel_rfl) (fun Z hZ => ?_)
  refine qM rfl rfl ?_
  refine jB2 rfl rfl ?_
  refine qFA rfl tyF178_0 (by simp only [Nat.add_zero]; rfl) rfl ?_
  first | refine jA2 0 rfl rfl tyA9 tyS9 rfl rfl ?_
  refine qM rfl rfl ?_
  refine jB2 rfl rfl ?_
  refine qFA rfl jF5 (by simp only [Nat.zero_add]; rfl) rfl ?_
  first | refine jA2 0 rfl rfl tyA3 tyS3 rfl rfl ?_
  refine sq_indexS Tryz.underlying9 rfl rfl (by omega) (by simpa using hc) rfl ?_
  refine jA3 rfl rfl ?_
  refine jD0 (hZ _ _ ?_)
  refine aF [(0, _), (1, _), (5, _)] (Kn.cons rfl (Kn.cons rfl (Kn.cons rfl (Kn.nil)))) ?_
  refine aB ?_
  refine aR fun Z hZ => sM rfl rfl ?_
  refine jD7 rfl rfl rfl ?_
  refine sA rfl rfl <| sN (hZ _ _ ?_)
  refine aF [(0, _), (1, _), (5, _), (27, _)] (Kn.cons rfl (Kn.cons rfl (Kn.cons rfl (Kn.cons rfl (Kn.nil))))) ?_
  refine aC rfl (fun h1 => ?_) (fun h1 => ?_)
  · cases h1
  refine aR fun Z hZ => sM rfl rfl ?_
  refine jD7 rfl rfl rfl ?_
  refine sA rfl rfl <| sN (hZ _ _ ?_)
  refine aF [(0, _), (1, _), (5, _), (32, _)] (Kn.cons rfl (Kn.cons rfl (Kn.cons rfl (Kn.cons rfl (Kn.nil))))) ?_
  refine aC rfl (fun h2 => ?_) (fun h2 => ?_)
  · cases h2
  refine aR fun Z hZ => sM rfl rfl ?_
  refine jD7 rfl rfl rfl ?_
  refine sA rfl rfl <| sN (hZ _ _ ?_)
  refine aF [(0, _), (1, _), (5, _), (38, _)] (Kn.cons rfl (Kn.cons rfl (Kn.cons rfl (Kn.cons rfl (Kn.nil))))) ?_
  refine aC rfl (fun h3 => ?_) (fun h3 => ?_)
  · cases h3
  refine aR fun Z hZ => sM rfl rfl ?_
  refine jD7 rfl rfl rfl ?_
  refine sA rfl rfl <| sN (hZ _ _ ?_)
  refine aF [(0, _), (1, _), (5, _), (44, _)] (Kn.cons rfl (Kn.cons rfl (Kn.cons rfl (Kn.cons rfl (Kn.nil))))) ?_
  refine aC rfl (fun h4 => ?_) (fun h4 => ?_)
  · cases h4
  refine aR fun Z hZ => sM rfl rfl ?_
  refine jD7 rfl rfl rfl ?_
  refine sA rfl rfl <| sN (hZ _ _ ?_)
  refine aF [(0, _), (1, _), (5, _), (50, _)] (Kn.cons rfl (Kn.cons rfl (Kn.cons rfl (Kn.cons rfl (Kn.nil))))) ?_
  refine aC rfl (fun h5 => ?_) (fun h5 => ?_)
  · cases h5
  refine aR fun Z hZ => sM rfl rfl ?_
  refine jD7 rfl rfl rfl ?_
  refine sA rfl rfl <| sN (hZ _ _ ?_)
  refine aF [(0, _), (1, _), (5, _), (56, _)] (Kn.cons rfl (Kn.cons rfl (Kn.cons rfl (Kn.cons rfl (Kn.nil))))) ?_
  refine aC rfl (fun h6 => ?_) (fun h6 => ?_)
  · refine aR (fun Z hZ => ?_)
    refine sM rfl rfl <| sM rfl rfl ?_
    refine jB7 [0] [] (robject0_fn g s i deep hd hi hs ha hb) rfl rfl (by simp) rfl ?_
    rintro v H' ⟨⟨A, c, rfl⟩, rfl⟩
    refine jC7 (by simp only [List.filter_cons, List.filter_nil, Ent.wr, if_true, List.cons_append, List.nil_append, pick, List.filterMap_nil]; first | done | rfl) ?_
    refine sA rfl rfl <| sN (hZ _ _ ?_)
    refine aF [(4, _)] (Kn.cons rfl (Kn.nil)) ?_
    refine aE ?_
    repeat (with_reducible (first | refine nTR ?_ | refine nBR ?_))
    exact jD4 _ rfl rfl (HLe.refl _) ⟨⟨A, c, rfl⟩, rfl⟩
  · cases h6
theorem take0_fn (s : List UInt8) (hs : s.length ≤ 4096) (ha : signB s (jE8 s 0) 123 = true) (hb : signB s (jE8 s (jE8 s 0 + 1)) 125 = true) (he : jE8 s (jE8 s (jE8 s 0 + 1) + 1) = s.length) :
    Fn Tryz.prog 45 [.string (str s)] [] fun v _ => ∃ A c, v = .tuple #[.iface 108 (.slice A 0 c), iq (s.length : Nat), iq 0] := by
  have hi : jE8 s 0 < s.length := by
    have hc : s[jE8 s 0]? = some 123 := by simpa [signB] using ha
    exact (List.getElem?_eq_some_iff.1 hc).1
  have hj : jE8 s (jE8 s 0 + 1) < s.length := by
    have hc : s[jE8 s (jE8 s 0 + 1)]? = some 125 := by simpa [signB] using hb
    exact (List.getElem?_eq_some_iff.1 hc).1
  refine Fn.enter (N := 52) Tryz.func45 rfl (by kernel_rfl) rfl (fun w0 => ?_)
  refine aR fun Z hZ => sA rfl rfl <| sA rfl rfl <| sA rfl rfl <| sN (hZ _ _ ?_)
  refine aF [(0, _)] (Kn.cons rfl (Kn.nil)) ?_
  refine aS ?_
  refine aR fun Z hZ => sM rfl rfl ?_
  refine jF3 Tryz.underlying9 rfl rfl ?_
  refine jE3 rfl rfl rfl ?_
  refine sN (hZ _ _ ?_)
  refine aF [(0, _), (8, _)] (Kn.cons rfl (Kn.cons rfl (Kn.nil))) ?_
  refine aC rfl (fun h => ?_) (fun h => ?_)
  · simp at h; omega
  refine aK ?_
  with_reducible refine nN ?_
  refine aR fun Z hZ => sM rfl rfl ?_
  refine jB3 tyZ178 tyP178 rfl rfl (by simp only [List.take_zero, List.drop_succ_cons, List.drop_zero, List.cons_append, List.nil_append, List.length_cons, List.length_nil, Nat.zero_add, Value.cells, wrV]; rfl) rfl ?_
  refine jA5 rfl rfl rfl (fun g1 => ?_)
  refine sA rfl rfl <| sN (hZ _ _ ?_)
  refine aF [(0, _), (5, _)] (Kn.cons rfl (Kn.cons rfl (Kn.nil))) ?_
  refine aR fun Z hZ => sM rfl rfl ?_
  refine jB7 [0] [] (rblank_fn g1 s 0 0 (by omega) (by omega)) rfl rfl (by simp) rfl ?_
  rintro v H' ⟨rfl, rfl⟩
  refine jC7 (by simp only [List.filter_cons, List.filter_nil, Ent.wr, if_true, List.cons_append, List.nil_append, pick, List.filterMap_nil]; first | done | rfl) ?_
  refine sN (hZ _ _ ?_)
  refine aF [(0, _), (5, _)] (Kn.cons rfl (Kn.cons rfl (Kn.nil))) ?_
  refine aR fun Z hZ => sM rfl rfl ?_
  refine jB7 [0] [] (rvalue0_fn g1 s _ 1 (by omega) hi (by omega) ha hb) rfl rfl (by simp) rfl ?_
  rintro v H' ⟨⟨A, c, rfl⟩, rfl⟩
  refine jC7 (by simp only [List.filter_cons, List.filter_nil, Ent.wr, if_true, List.cons_append, List.nil_append, pick, List.filterMap_nil]; first | done | rfl) ?_
  refine sA rfl rfl <| sN (hZ _ _ ?_)
  refine aF [(0, _), (2, _), (5, _)] (Kn.cons rfl (Kn.cons rfl (Kn.cons rfl (Kn.nil)))) ?_
  refine aS ?_
  refine aR fun Z hZ => sM rfl rfl ?_
  refine jB1 rfl rfl ?_
  refine sFA rfl tyF178_2 (by simp only [Nat.zero_add]; rfl) rfl ?_
  first | refine sL 0 rfl rfl tyA32 tyS32 rfl rfl ?_
  refine jD7 rfl rfl rfl ?_
  refine sN (hZ _ _ ?_)
  refine aF [(0, _), (2, _), (5, _), (20, _)] (Kn.cons rfl (Kn.cons rfl (Kn.cons rfl (Kn.cons rfl (Kn.nil))))) ?_
  refine aC rfl (fun h => ?_) (fun h => ?_)
  · refine aR (fun Z hZ => ?_)
    refine sM rfl rfl ?_
    refine jB7 [0] [] (rblank_fn g1 s _ 0 (by omega) (by omega)) rfl rfl (by simp) rfl ?_
    rintro v H' ⟨rfl, rfl⟩
    refine jC7 (by simp only [List.filter_cons, List.filter_nil, Ent.wr, if_true, List.cons_append, List.nil_append, pick, List.filterMap_nil]; first | done | rfl) ?_
    rw [he]
    refine sN (hZ _ _ ?_)
    refine aF [(0, _), (2, _), (5, _)] (Kn.cons rfl (Kn.cons rfl (Kn.cons rfl (Kn.nil)))) ?_
    refine aR fun Z hZ => sM rfl rfl ?_
    refine jB1 rfl rfl ?_
    refine sFA rfl jF5 (by simp only [Nat.zero_add]; rfl) rfl ?_
    first | refine sL 0 rfl rfl tyA3 tyS3 rfl rfl ?_
    refine sM rfl rfl ?_
    refine jF3 Tryz.underlying9 rfl rfl ?_
    refine jC3 rfl rfl rfl ?_
    refine sN (hZ _ _ ?_)
    refine aF [(0, _), (2, _), (5, _), (29, _)] (Kn.cons rfl (Kn.cons rfl (Kn.cons rfl (Kn.cons rfl (Kn.nil))))) ?_
    refine aC rfl (fun h2 => ?_) (fun h2 => ?_)
    · simp at h2
    refine aK ?_
    with_reducible refine nN ?_
    refine aS ?_
    refine aR fun Z hZ => sM rfl rfl ?_
    refine jB1 rfl rfl ?_
    refine sFA rfl tyF178_2 (by simp only [Nat.zero_add]; rfl) rfl ?_
    first | refine sL 0 rfl rfl tyA32 tyS32 rfl rfl ?_
    refine jC9 rfl rfl rfl ?_
    refine sN (hZ _ _ ?_)
    refine aF [(0, _), (2, _), (5, _), (40, _)] (Kn.cons rfl (Kn.cons rfl (Kn.cons rfl (Kn.cons rfl (Kn.nil))))) ?_
    refine aC rfl (fun h3 => ?_) (fun h3 => ?_)
    · cases h3
    refine aK ?_
    with_reducible refine nN ?_
    refine aR fun Z hZ => sM rfl rfl <| sM rfl rfl ?_
    refine jF3 Tryz.underlying9 rfl rfl ?_
    refine sA rfl rfl <| sA rfl rfl <| sA rfl rfl <| sN (hZ _ _ ?_)
    refine aF [(2, _), (3, _), (4, _)] (Kn.cons rfl (Kn.cons rfl (Kn.cons rfl (Kn.nil)))) ?_
    refine aE ?_
    exact jG9 [] rfl rfl rfl rfl (HLe.sub (List.nil_sublist _)) ⟨A, c, rfl⟩
  · cases h
end Go.Proofs.YtkojkeabelckjaaGreatDoor
end
