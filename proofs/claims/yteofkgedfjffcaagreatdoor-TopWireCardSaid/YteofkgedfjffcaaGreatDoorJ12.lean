/- TopWire: what is asked for over one connection, in pieces, is answered in pieces with just the bytes that were asked for. No conditions. -/
import Derived.Test.YteofkgedfjffcaaGreatDoorJ11
import Derived.Test.YteofkgedfjffcaaGreatDoorJ10
import Derived.Test.YteofkgedfjffcaaGreatDoorCards
import Derived.Test.YteofkgedfjffcaaGreatDoorTie
import Derived.Lib.LaidTab
import Derived.Lib.LaidU8
import Derived.ProofKit
import Derived.MakeChecks
import Derived.LaidSub
import Derived.LaidHandle
import Derived.Lay
import Derived.SevenTiedAt
set_option linter.all false
namespace Go.Proofs.YteofkgedfjffcaaGreatDoor
section
open Go.RowKit V V.L Y
set_option maxRecDepth 100000
theorem yS4 {w : World} {g : Nat} {cs : List Value} (h : ∀ (j : Nat) (u : Value), cs[j]? = some u → w.cell? ⟨g, j, none⟩ = some u) (hne : 0 < cs.length) : Sat w [] [.ro g 0 cs] w := by
  refine ⟨Only.refl _ _, fun e he => ?_, List.pairwise_singleton _ _⟩
  rw [List.mem_singleton.1 he]
  refine ⟨⟨?_, fun j u hu => by rw [Nat.zero_add]; exact h j u hu⟩, fun hw => by cases hw⟩
  have h0 := h 0 _ (List.getElem?_eq_getElem hne)
  unfold World.cell? at h0
  rcases Nat.lt_or_ge g w.heap.size with hlt | hge
  · exact hlt
  · exfalso
    rw [Array.getElem?_eq_none hge] at h0
    cases h0
def p10Z : List Int := [1, 10, 100, 1000, 10000, 100000, 1000000, 10000000, 100000000, 1000000000, 10000000000, 100000000000, 1000000000000, 10000000000000, 100000000000000, 1000000000000000, 10000000000000000, 100000000000000000, 1000000000000000000, 10000000000000000000]
theorem zE0 {w : World} (hL : laidMetH Tryz.prog Rows.topWireRow.laid w) : Sat w [] TP w := by
  have r1 := Lib.laidMet.reads (laidMetH_iff.1 hL).1 (n := "internal/strconv.uint64pow10") (d := Rows.laid_internal_strconv_uint64pow10) (List.mem_filter.2 ⟨by simp [Rows.topWireRow], by kernel_rfl⟩)
  rw [show (Rows.laid_internal_strconv_uint64pow10 : DataW Unit) = Lib.tabData .u64 p10Z by kernel_rfl] at r1
  obtain ⟨g, t, cs, fuel, p, h1, h2, h3, h4⟩ := r1
  obtain rfl := Option.some.inj ((show Tryz.prog.globalNamed "internal/strconv.uint64pow10" = some 1 by kernel_rfl).symm.trans h1)
  obtain rfl := Option.some.inj ((show (Tryz.prog.globals[1]?).map (·.type) = some 399 by kernel_rfl).symm.trans h2)
  have hcs := Lib.cells_of_tab Tryz.underlying399 Tryz.underlying61 (by kernel_rfl) (by kernel_rfl) h4
  refine yS4 (fun j u hu => ?_) (by simp [p10L])
  rw [World.var?_cell h1 h3 j, ← Array.getElem?_toList, hcs]
  match j, hu with
  | 0, hu => exact hu
  | 1, hu => exact hu
  | 2, hu => exact hu
  | 3, hu => exact hu
  | j + 4, hu => simp [p10L] at hu
theorem vY0 : leaves Tryz.prog 5 23 = some [.string, .string, .string] := by kernel_rfl
theorem wK7 : leaves Tryz.prog 5 40 = some [.int .i64, .int .i64] := by kernel_rfl
theorem zO6 (r : List Value) (h : Alike [.int .i64, .int .i64] r) : ∃ x : Int × Int, True ∧ r = ivC x := by
  obtain ⟨a, c, rfl, _, a1⟩ := vG8 h
  obtain ⟨b, c, rfl, _, a2⟩ := vG8 a1
  cases a2
  exact ⟨(a, b), trivial, rfl⟩
theorem yB8 {H : Type} {enc : TypeId × Value → H} {w : World} {b0 : Nat} {r : Reach} {v : Value} {d : DataW H} {p : List MemPlace}
    (hv : Value.okWide Tryz.prog w r b0 24 v) (h : DataW.Trod enc Tryz.prog w 0 (fun _ => true) true 24 v d p) :
    ∃ A c, ∃ L : List (Int × Int), ∃ T : Heap, v = .slice A L.length c ∧ jK9 A L.length ∧ (0 < L.length → T = roE A (L.flatMap ivC)) ∧ Ro T ∧ Sat w [] T w := by
  obtain ⟨A, n, c, rows, rfl, h1, h2, h3, h4⟩ := wJ5 5 Tryz.underlying24 wK7 (by kernel_rfl) (Nat.succ_pos _) hv h
  obtain ⟨L, h5, h6, h7⟩ := wH7 (f := ivC) (ok := fun _ => True) zO6 rows h3
  have hn : L.length = n := by omega
  subst hn
  rw [h5] at h4
  by_cases h0 : 0 < L.length
  · exact ⟨A, c, L, roE A (L.flatMap ivC), rfl, yN1 h4, fun _ => rfl, Ro.roE _ _, zC3 h4 h0⟩
  · exact ⟨A, c, L, [], rfl, yN1 h4, fun h => absurd h h0, Ro.nil, Sat.nil w⟩
theorem zH8 : leaves Tryz.prog 5 25 = some [.int .u16] := by kernel_rfl
theorem TopWire_read {H : Type} {enc : TypeId × Value → H} (w : World) {base : Nat} {v0 v1 v2 : Value} {d0 d1 d2 : DataW H} {p0 p1 p2 : List MemPlace}
    (hL : laidMetH Tryz.prog Rows.topWireRow.laid w)
    (k0 : Value.okWide Tryz.prog w .any base 23 v0) (h0 : DataW.Trod enc Tryz.prog w 0 (fun _ => true) true 23 v0 d0 p0)
    (k1 : Value.okWide Tryz.prog w .any base 24 v1) (h1 : DataW.Trod enc Tryz.prog w 0 (fun _ => true) true 24 v1 d1 p1)
    (k2 : Value.okWide Tryz.prog w .any base 26 v2) (h2 : DataW.Trod enc Tryz.prog w 0 (fun _ => true) true 26 v2 d2 p2) :
    Calls Tryz.prog 3 #[v0, v1, v2] w fun e w' => e = .returned (.bool true) ∧ Bel w w' := by
  obtain ⟨cs, rfl, b⟩ := vK2 5 Tryz.underlying23 vY0 k0 h0
  obtain ⟨s1, e1, rfl, _, b1⟩ := kN9 b
  obtain ⟨s2, e2, rfl, _, b2⟩ := kN9 b1
  obtain ⟨s3, e3, rfl, _, b3⟩ := kN9 b2
  cases b3
  obtain ⟨A, c, L, T, rfl, hA, hT, hro, hS⟩ := yB8 k1 h1
  obtain ⟨ds, rfl, al⟩ := yB9 5 Tryz.underlying26 zH8 (by kernel_rfl) (by kernel_rfl) k2 h2
  obtain ⟨n0, l0, rfl, hn0, al1⟩ := vG7 (show Alike (.int .u16 :: [.int .u16]) ds from al)
  obtain ⟨n1, l1, rfl, hn1, al2⟩ := vG7 al1
  cases al2
  exact wX9 (hro.append jQ4) (hS.both (zE0 hL) hro jQ4) (wX3 s1 s2 s3 A c L T hA hT hro n0 n1 (by omega) (by omega) wC8)
namespace topWire
open Go.ChangeShapes Go.WideShapes Go.ChangeAt Go.RowKit
theorem own : ownKnob Tryz.prog.godebug = none := by kernel_rfl
theorem vK7 : laidOutB Tryz.prog = true := by kernel_rfl
theorem yV1 {P : Program} {w0 : World} {l : List (String × DataW Unit)} (args : Array Value) (hf : w0.layFits P l [] = true) (hi : w0.layIfaces P l (w0.layVars P l) = true) :
    laidMet P l ((w0.layVars P l).forCall (fun _ _ => 0) ⟨#[], args, []⟩).memory := by
  have e1 : (l.filter fun x => (l.map (·.1)).contains x.1) = l := List.filter_eq_self.2 fun x hx => List.contains_iff_mem.2 (List.mem_map.2 ⟨x, hx, rfl⟩)
  have e2 : (l.filter fun x => !(l.map (·.1)).contains x.1) = [] := List.filter_eq_nil_iff.2 fun x hx => by rw [List.contains_iff_mem.2 (List.mem_map.2 ⟨x, hx, rfl⟩)]; simp
  have h : laidMet P l (w0.layVars P l) := laidMet_layVars (w0 := w0) (l.map (·.1)) [] (by rw [e1]) (by rw [e1]; exact hf) (by rw [e1]; exact hi) (by rw [e2]; exact LaidIn.none)
  exact h.of_heap (by simp [World.memory, World.forCall, Input.heap])
noncomputable def laidW (os : Os) : World :=
  let w0 := World.holding Tryz.prog os ⟨#[], #[], []⟩
  { w0 with heap := w0.heap.modify 0 fun
      | .cells _ t frozen => .cells #[.iface 263 (.agg #[typeHandle Tryz.prog 86])] t frozen
      | o => o }
set_option maxRecDepth 100000 in
theorem lifted (os : Os) (started : os.Started) (H : Type) (enc : TypeId × Value → H) :
    ReturnsInHanded {} Tryz.checked os 3 .any (fun w args => (Rows.topWireSpec.pre enc Tryz.prog Tryz.f3 [] false w args ∧ laidMetH Tryz.prog Rows.topWireRow.laid w) ∧ sizedMet enc Tryz.prog Tryz.f3 (OpenSpec.ofChange Rows.topWireSpec) false w args)
      (Rows.topWireSpec.post enc Tryz.prog Tryz.f3 false true false false) := by
  refine returnsInHanded_of_change_and (C := Tryz.checked) (X := fun w _ => laidMetH Tryz.prog Rows.topWireRow.laid w) (fun _ _ _ hh h => h.of_heap hh) own started (by kernel_rfl) Tryz.func3
    (ChangeSpec.witness_shaped (enc := enc) (C := Tryz.checked) (os := os) (X := fun w _ => laidMetH Tryz.prog Rows.topWireRow.laid w) false ((laidW os).layVars Tryz.prog (Rows.topWireRow.laid.filter fun x => x.2.handleName?.isNone)) #[.agg #[.string ⟨#[]⟩, .string ⟨#[]⟩, .string ⟨#[]⟩], .slice none 0 0, .agg #[.int .u16 0, .int .u16 0]] 8 (World.layVars_os _ _ _)
      (World.shaped_of_ZipB (by kernel_rfl) (by kernel_rfl)) (by kernel_rfl) (by kernel_rfl) (by kernel_rfl)
      (laidMetH_of_parts (yV1 _ (by kernel_rfl) (by kernel_rfl)) (by kernel_rfl))) ?_
  intro W base args ds gs before hval0 hW _ _ hL _
  have hval : ∀ (j : Nat) t v, Tryz.f3.params[j]? = some t → args[j]? = some v → Value.okWide Tryz.prog W .any base t v := hval0
  have hW' := hW
  obtain ⟨p, q, hA0, hV, rfl, hfz, hnd⟩ := hW
  have hA : DataW.TrodAll enc Tryz.prog W 0 (fun _ => true) true Tryz.f3.params.toList args.toList ds p := hA0
  rw [Tryz.params3] at hA hval
  obtain ⟨v0, vs0, d0, ds0, p0, q0, hargs, rfl, rfl, h0, r0⟩ := trodAll_cons hA
  obtain ⟨v1, vs1, d1, ds1, p1, q1, rfl, rfl, rfl, h1, r1⟩ := trodAll_cons r0
  obtain ⟨v2, vs2, d2, ds2, p2, q2, rfl, rfl, rfl, h2, r2⟩ := trodAll_cons r1
  obtain ⟨rfl, rfl, rfl⟩ := trodAll_nil r2
  obtain rfl : args = #[v0, v1, v2] := by cases args; simp_all
  obtain ⟨rfl, rfl⟩ := trodVars_none hV
  have lt0 : ∀ x ∈ p0, x.block < W.heap.size := by obtain ⟨m, hm⟩ := h0; exact DataW.trod_lt m _ _ _ hm
  have lt1 : ∀ x ∈ p1, x.block < W.heap.size := by obtain ⟨m, hm⟩ := h1; exact DataW.trod_lt m _ _ _ hm
  have lt2 : ∀ x ∈ p2, x.block < W.heap.size := by obtain ⟨m, hm⟩ := h2; exact DataW.trod_lt m _ _ _ hm
  refine (TopWire_read W hL (hval 0 23 v0 rfl rfl) h0 (hval 1 24 v1 rfl rfl) h1 (hval 2 26 v2 rfl rfl) h2).mono fun e W' ⟨he, bel0⟩ => ?_
  have bel : Below W.heap.size W W' := bel0
  subst he
  exact ⟨_, rfl, _, _, _, [], _, [], hW', trodAll_mk1 (shut_bool Tryz.underlying4 _), (trodAll_cons_mk (Below.trod vK7 (by kernel_rfl) (of_decide_eq_true (by kernel_rfl)) h0 bel lt0) (trodAll_cons_mk (Below.trod vK7 (by kernel_rfl) (of_decide_eq_true (by kernel_rfl)) h1 bel lt1) (trodAll_cons_mk (Below.trod vK7 (by kernel_rfl) (of_decide_eq_true (by kernel_rfl)) h2 bel lt2) trodAll_mk0))), rfl, bel.frame _, fun h => by cases h⟩
theorem zN3 : ∀ os : Os, os.Started → ∀ (H : Type) (enc : TypeId × Value → H), (∀ a b, enc a = enc b → a = b) →
    ReturnsInHanded Rows.topWireRow.assume Tryz.pinned.checked os 3 .any (Rows.topWireRow.pre enc Tryz.pinned.checked.prog Tryz.f3 (OpenSpec.ofChange Rows.topWireSpec)) (Rows.topWireSpec.post enc Tryz.pinned.checked.prog Tryz.f3 Rows.topWireRow.apart Rows.topWireRow.fresh Rows.topWireRow.handsOn Rows.topWireRow.again) := fun os started H enc _ => lifted os started H enc
theorem over : Rows.topWireRow.holds Tryz.pinned (OpenSpec.ofChange Rows.topWireSpec) :=
  OpenClaim.holds_of_wide 3 Tryz.f3 rfl rfl rfl rfl rfl rfl rfl ⟨rfl, rfl, rfl, rfl, rfl⟩ rfl rfl rfl rfl rfl zN7 Tryz.func3 zN6 zN5 zN4 zN3
theorem proved : Rows.TopWireCardSaid :=
  Claim7.holds_tied_plain_at .later [] [.data, .data, .data, .data, .handle, .sentinel, .sentinel, .pinned] true (true, "e58a5955c2df21de9d1992307790c20339df95100f3962d58cad38b6e5afb506") true over (fun _ h => by cases h) (by kernel_rfl) (fun _ h => by cases h) topWire_row_tie rfl ⟨rfl, rfl⟩ (by kernel_rfl) rfl
    (fun f fn hf hfn => by
      obtain rfl : f = 3 := Option.some.inj ((show Tryz.prog.funcNamed "gazetteer/gazetteertop.TopWire" = some 3 by kernel_rfl).symm.trans hf) |>.symm
      obtain rfl : fn = Tryz.f3 := (Option.some.inj (Tryz.func3.symm.trans hfn)).symm
      exact ⟨by kernel_rfl, fun j t ht => by
        rw [Tryz.params3] at ht
        have hm : t ∈ [23, 24, 26] := by simpa using Array.mem_of_getElem? ht
        have hall : ([23, 24, 26].all fun u => !Tryz.prog.wantsStandIn u) = true := by kernel_rfl
        exact (show Tryz.prog.wantsStandIn t = false by simpa using List.all_eq_true.1 hall t hm)⟩)
    (by kernel_rfl)
#print axioms proved
end topWire
end
end Go.Proofs.YteofkgedfjffcaaGreatDoor
