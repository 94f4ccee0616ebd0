/- Walks and plain laws for this claim (texts Mg7, Mg8, Pk1, Mg9, Mg10, Mg11, Mg12, Mg13, Mg14, Mg15, Mp1, joined). Each theorem states its own conditions. -/
import Derived.Test.YtkojkeabelckjaaGreatDoorJ26
import Derived.Test.YtkojkeabelckjaaGreatDoorJ07
import Derived.Test.YtkojkeabelckjaaGreatDoorJ05
import Derived.Test.YtkojkeabelckjaaGreatDoorJ12

section
set_option linter.all false
namespace Go.Proofs.YtkojkeabelckjaaGreatDoor.V
open Go.RowKit
set_option maxRecDepth 100000
theorem mset_run {M : List En} {k : Nat} {e : En} (h : M[k]? = some e) (y : Nat) : (jA1 M).set (k * 4 + 3) (wq4 y) = jA1 (M.set k { e with run := y }) := fm_set (x := e) (y := { e with run := y }) (j := 3) en_len rfl (by omega) h
def put1 (out : List En) (e : En) : List En :=
 match out[out.length - 1]? with
 | some a => if oneQ a e then out.set (out.length - 1) { a with run := a.run + 1 } else out ++ [e]
 | none => out ++ [e]
def enOf (ts : List Tx) (x : It) : En := ⟨x.id, (addC ts x.tx).1, (addC ts x.tx).2, 1⟩
def rwS (s : List En × List Tx) (x : It) : List En × List Tx := (put1 s.1 (enOf s.2 x), addT s.2 x.tx)
def rowsS (L : List It) : List En × List Tx := L.foldl rwS ([], [])
theorem rows_snoc {L : List It} {k : Nat} {x : It} (h : L[k]? = some x) : rowsS (L.take (k + 1)) = rwS (rowsS (L.take k)) x := by
 obtain ⟨hlt, rfl⟩ := List.getElem?_eq_some_iff.1 h
 unfold rowsS
 rw [List.take_succ_eq_append_getElem hlt, List.foldl_append, List.foldl_cons, List.foldl_nil]
theorem fdQ_le : ∀ (ts : List Tx) (o : Nat) (s : Tx) (c : Nat × Nat), fdQ o ts s = some c → c.2 = s.length ∧ c.1 + c.2 ≤ o + ts.flatten.length
 | [], _, _, _, h => by cases h
 | t :: r, o, s, c, h => by
  rw [fdQ] at h
  rw [List.flatten_cons, List.length_append]
  split at h
  ·rename_i e
   injection h with h
   subst h
   subst e
   exact ⟨rfl, by simp only; omega⟩
  ·obtain ⟨h1, h2⟩ := fdQ_le r _ s c h
   exact ⟨h1, by omega⟩
theorem addC_le (ts : List Tx) (s : Tx) : (addC ts s).2 = s.length ∧ (addC ts s).1 + (addC ts s).2 ≤ ts.flatten.length + s.length := by
 unfold addC
 cases h : fdQ 0 ts s with
 | none => exact ⟨rfl, Nat.le_refl _⟩
 | some c =>
  obtain ⟨h1, h2⟩ := fdQ_le ts 0 s c h
  refine ⟨h1, ?_⟩
  simp only [Option.getD_some]
  omega
structure RsOk (k : Nat) (s : List En × List Tx) : Prop where
 ts : TsOk s.2
 nt : s.2.length ≤ k
 fl : s.2.flatten.length ≤ k * 65536
 no : s.1.length ≤ k
 es : ∀ e ∈ s.1, e.ok ∧ e.run ≤ k
theorem addT_fl (ts : List Tx) (s : Tx) : (addT ts s).length ≤ ts.length + 1 ∧ (addT ts s).flatten.length ≤ ts.flatten.length + s.length := by
 unfold addT
 split
 ·exact ⟨by omega, by omega⟩
 ·simp
theorem RsOk.step {k : Nat} {s : List En × List Tx} (h : RsOk k s) (hk : k < 2048) {x : It} (h1 : x.id < 6004799503160661) (h2 : x.tx ≠ []) (h3 : x.tx.length ≤ 65536) : RsOk (k + 1) (rwS s x) := by
 obtain ⟨a1, a2⟩ := addT_fl s.2 x.tx
 have h4 := h.nt
 have h5 := h.fl
 have h6 := h.no
 obtain ⟨c1, c2⟩ := addC_le s.2 x.tx
 have heo : (enOf s.2 x).ok ∧ (enOf s.2 x).run ≤ k + 1 := ⟨⟨by show x.id < _; omega, by show (addC s.2 x.tx).1 < _; omega, by show (addC s.2 x.tx).2 < _; omega, by show 1 < _; omega⟩, by show 1 ≤ k + 1; omega⟩
 have happ : ∀ e ∈ s.1 ++ [enOf s.2 x], e.ok ∧ e.run ≤ k + 1 := fun e he => by
  rcases List.mem_append.1 he with he | he
  ·obtain ⟨g1, g2⟩ := h.es e he
   exact ⟨g1, by omega⟩
  ·rw [List.mem_singleton.1 he]; exact heo
 have hpl : (put1 s.1 (enOf s.2 x)).length ≤ k + 1 ∧ ∀ e ∈ put1 s.1 (enOf s.2 x), e.ok ∧ e.run ≤ k + 1 := by
  unfold put1
  split
  ·rename_i a ha
   split
   ·refine ⟨by rw [List.length_set]; omega, fun e he => ?_⟩
    rcases List.mem_or_eq_of_mem_set he with he | rfl
    ·obtain ⟨g1, g2⟩ := h.es e he
     exact ⟨g1, by omega⟩
    ·obtain ⟨⟨g1, g2, g3, g4⟩, g5⟩ := h.es a (List.mem_of_getElem? ha)
     exact ⟨⟨g1, g2, g3, by show a.run + 1 < _; omega⟩, by show a.run + 1 ≤ k + 1; omega⟩
   ·exact ⟨by rw [List.length_append, List.length_singleton]; omega, happ⟩
  ·exact ⟨by rw [List.length_append, List.length_singleton]; omega, happ⟩
 exact ⟨addT_ok h.ts h2, by show (addT s.2 x.tx).length ≤ _; omega, by show (addT s.2 x.tx).flatten.length ≤ _; omega, hpl.1, hpl.2⟩
theorem rows_ok {L : List It} (h : ChOk L) : ∀ k, k ≤ L.length → RsOk k (rowsS (L.take k))
 | 0, _ => by
  rw [List.take_zero]
  exact ⟨⟨List.nodup_nil, fun t ht => by cases ht⟩, Nat.le_refl _, by simp [rowsS], by simp [rowsS], fun e he => by cases he⟩
 | k + 1, hk => by
  have hx := itAt_at (show k < L.length by omega)
  have hm := List.mem_of_getElem? hx
  rw [rows_snoc hx]
  have h4 := h.len
  obtain ⟨h5, h6⟩ := h.tx _ hm
  exact (rows_ok h k (by omega)).step (by omega) (h.lt _ hm) h5 h6
theorem le_rows (a b c d e : Ent) (X T : Heap) : HLe ((b :: c :: d :: X) ++ (a :: T)) (a :: b :: c :: d :: e :: (X ++ T)) :=
 HLe.trans (HLe.perm (List.perm_middle (l₁ := b :: c :: d :: X)).symm) (HLe.sub (List.Sublist.cons_cons a (List.Sublist.cons_cons b (List.Sublist.cons_cons c (List.Sublist.cons_cons d (List.sublist_cons_self e (X ++ T)))))))
theorem le_done (d a b c : Ent) (R X K : Heap) : HLe (d :: a :: b :: (X ++ R)) (d :: ((a :: b :: c :: (R ++ X)) ++ K)) :=
 (HLe.perm (A := d :: a :: b :: (X ++ R)) (B := d :: a :: b :: (R ++ X)) (List.Perm.cons d (List.Perm.cons a (List.Perm.cons b List.perm_append_comm)))).trans (HLe.sub (List.Sublist.cons_cons d (List.Sublist.cons_cons a (List.Sublist.cons_cons b (List.Sublist.cons c (List.sublist_append_left (R ++ X) K))))))
theorem put1_nil (e : En) : put1 [] e = [e] := rfl
theorem put1_some {out : List En} {a e : En} (h : out[out.length - 1]? = some a) : put1 out e = if oneQ a e then out.set (out.length - 1) { a with run := a.run + 1 } else out ++ [e] := by
 unfold put1
 rw [h]
theorem mrows_fn (A : Option Addr) (c : Nat) (L : List It) (T : Heap) (hA : jH1 A L.length) (hT : 0 < L.length → T = roE A (jA0 L)) (hro : Ro T) (hok : ChOk L) :
  Fn Tryz.prog 22 [chV A L.length c] T fun v H' => ∃ u, v = .tuple #[u, .string (str (rowsS L).2.flatten)] ∧ RowOk u (rowsS L).1.length ∧ H' = rowE u 114 4 (jA1 (rowsS L).1) := by
 have hlen := hok.len
 refine Fn.enterM (n := 63) Tryz.func22 rfl (by kernel_rfl) rfl (fun w0 => ?_)
 refine aR (fun Z hZ => ?_)
 refine jC3 rfl rfl rfl (fun g1 => ?_)
 refine sA rfl rfl <| sA rfl rfl <| sN (hZ _ _ ?_)
 refine aF [(1, _)] (Kn.cons rfl (Kn.nil)) ?_
 refine aR (fun Z hZ => ?_)
 refine sAl tyZ110 rfl (fun g2 => ?_)
 refine sS1 0 rfl rfl rfl tyS110 rfl rfl (by simp only [List.set_cons_zero]; rfl) (by simp only [List.set_cons_zero]; rfl) ?_
 refine sN (hZ _ _ ?_)
 refine aF [(1, _), (4, _)] (kR rfl) ?_
 refine aR (fun Z hZ => ?_)
 refine jD3 [] _ pnew_fn rfl (HLe.refl _) rfl ?_
 rintro v X0 ⟨gp, rfl, hP0⟩
 rw [hP0.wrs.filter]
 refine jC1 _ (HLe.comm3 X0 [_, _] T) ?_
 refine sAl tyZ117 rfl (fun g3 => ?_)
 refine sS1 0 rfl rfl rfl tyS117 rfl rfl (by simp only [List.set_cons_zero]; rfl) (by simp only [List.set_cons_zero]; rfl) ?_
 refine sN (hZ _ _ ?_)
 refine aF [(1, _), (4, _), (5, _)] (kR rfl) ?_
 refine aR (fun Z hZ => ?_)
 refine sAl tyZ68 rfl (fun g4 => ?_)
 refine sN (hZ _ _ ?_)
 refine aF [(1, _), (4, _), (5, _), (6, _)] (kR rfl) ?_
 refine aS ?_
 refine aR (fun Z hZ => ?_)
 refine sLA 3 rfl rfl tyA27 tyS27 rfl (by simp only [qS, Value.cells]; rfl) rfl ?_
 refine jD3 [] _ (ceach_fn A L.length c) rfl (HLe.refl _) rfl ?_
 rintro v H' ⟨ge, rfl, rfl⟩
 refine sN (hZ _ _ ?_)
 refine aF [(4, _), (5, _), (6, _), (16, _)] (kR rfl) ?_
 refine aB ?_
 refine awp_range (fun k H => ∃ v X, RowOk v (rowsS (L.take k)).1.length ∧ PoolIs gp (rowsS (L.take k)).2 X ∧ H = .own g4 68 [v] :: .own g3 117 [ptr gp 0] :: .own g2 110 [.func (.func 46) #[] #[]] :: (rowE v 114 4 (jA1 (rowsS (L.take k)).1) ++ X)) [] (fun _ _ => False) (.own g4 68 [nilS] :: .own g3 117 [ptr gp 0] :: .own g2 110 [.func (.func 46) #[] #[]] :: X0)
  (ceach_it ge A c L T hA hT (by omega)) rfl (fun k H h => by obtain ⟨v, X, _, hX, rfl⟩ := h; exact Wrs.cons rfl (Wrs.cons rfl (Wrs.cons rfl ((rowE_wrs _ _ _ _).append hX.wrs)))) (fun _ _ h => h.elim) Ro.nil (fun x hx => by rcases List.mem_cons.1 hx with rfl | hx; rfl; exact hro x hx) (fun k vs h => by rw [List.getElem?_map] at h; cases hk : L[k]? with | none => rw [hk] at h; cases h | some x => rw [hk] at h; obtain rfl := Option.some.inj h; rfl) rfl
  ⟨nilS, X0, by simpa [rowsS] using RowOk.nil, by simpa [rowsS] using hP0, rfl⟩ (by rw [List.append_nil]; exact (HLe.toRo (_ :: _ :: _ :: X0) T).trans (le_rows _ _ _ _ _ X0 T)) rfl ?_ ?_ (fun _ _ _ h => h.elim)
 ·rintro k vs H hk ⟨v, X, hv, hX, rfl⟩ l w1
  rw [List.getElem?_map] at hk
  cases hkx : L[k]? with
  | none => rw [hkx] at hk; cases hk
  | some x =>
   rw [hkx] at hk
   obtain rfl := Option.some.inj hk
   have hkl := (List.getElem?_eq_some_iff.1 hkx).1
   have hxm := List.mem_of_getElem? hkx
   have hrs := rows_ok hok k (by omega)
   rw [rows_snoc hkx]
   obtain ⟨s, hs⟩ : ∃ s, rowsS (L.take k) = s := ⟨_, rfl⟩
   rw [hs] at hv hX hrs ⊢
   obtain ⟨out, ts⟩ := s
   simp only [rwS] at hv hX ⊢
   obtain ⟨t1, t2⟩ := hok.tx x hxm
   have hxl := hok.lt x hxm
   obtain ⟨r1, r2, r3, r4, r5⟩ := hrs
   simp only at r1 r2 r3 r4 r5
   have hadd := add_fn hX x.tx r1 (by omega) (by omega) t1 t2
   obtain ⟨c1, c2⟩ := addC_le ts x.tx
   obtain ⟨cc, hcc⟩ : ∃ cc, addC ts x.tx = cc := ⟨_, rfl⟩
   have hen : enOf ts x = ⟨x.id, cc.1, cc.2, 1⟩ := by unfold enOf; rw [hcc]
   rw [hcc] at hadd c1 c2
   rw [hen]
   refine aR fun Z hZ => sA rfl rfl <| sN (hZ _ _ ?_)
   refine aF [(4, _), (5, _), (6, _), (7, _), (18, _)] (kR rfl) ?_
   refine aG (fun Z hZ => ?_)
   refine sA rfl rfl <| sN (hZ _ _ ?_)
   refine nF [(4, _), (5, _), (6, _), (7, _), (8, _)] (kR rfl) ?_
   refine nx_assign [] Wrs.nil (HLe.refl _) fun w2 => ?_
   refine jA8 (.own g4 68 [v] :: .own g3 117 [ptr gp 0] :: .own g2 110 [.func (.func 46) #[] #[]] :: (rowE v 114 4 (jA1 out) ++ X)) (by simp only [qS]; exact HLe.refl _) ?_
   refine aB ?_
   refine aR (fun Z hZ => ?_)
   refine sL 1 rfl rfl tyA117 tyS117 rfl rfl ?_
   refine sM rfl rfl ?_
   refine jD3 X (_ :: _ :: _ :: rowE v 114 4 (jA1 out)) hadd rfl (HLe.swap (_ :: _ :: _ :: rowE v 114 4 (jA1 out)) X) rfl ?_
   rintro u X2 ⟨⟨b, rfl⟩, hX2⟩
   rw [hX2.wrs.filter]
   refine jC1 _ (HLe.swap X2 (_ :: _ :: _ :: rowE v 114 4 (jA1 out))) ?_
   refine sM rfl rfl <| sX rfl rfl rfl <| sX rfl rfl rfl <| sX rfl rfl rfl ?_
   refine sAl tyZ123 rfl (fun g5 => ?_)
   refine sS 0 rfl rfl rfl tyS123 (by simp only [Value.cells]; rfl) rfl rfl rfl (by simp only [qS, Nat.reduceAdd, wrV]; rfl) (by simp only [List.set_cons_zero]; rfl) ?_
   refine sA rfl rfl <| sA rfl rfl <| sN (hZ _ _ ?_)
   refine aF [(4, _), (6, _), (7, _), (9, _)] (kR rfl) ?_
   refine aR fun Z hZ => sM rfl rfl ?_
   refine sFA rfl tyF123_0 (by simp only [Nat.add_zero]; rfl) rfl ?_
   refine sL 0 rfl rfl tyA45 tyS45 rfl rfl ?_
   refine sFA rfl tyF123_1 (by simp only [Nat.zero_add]; rfl) rfl ?_
   refine sL 0 rfl rfl tyA112 tyS112 rfl rfl ?_
   refine jD1 tyZ114 tyP114 rfl rfl (by simp only [qS, Nat.reduceAdd, Value.cells, wrV]; rfl) rfl ?_
   refine sAl tyZ114 rfl (fun g6 => ?_)
   refine sS 0 rfl rfl rfl tyS114 (by simp only [Value.cells]; rfl) rfl rfl rfl (by simp only [qS, Nat.reduceAdd, wrV]; rfl) (by simp only [List.set_cons_zero]; rfl) ?_
   refine sN (hZ _ _ ?_)
   refine aF [(4, _), (6, _), (12, _)] (kR rfl) ?_
   obtain ⟨Av, cv, rfl, hAv⟩ := hv.form
   rcases Nat.eq_zero_or_pos out.length with h0 | h0
   ·obtain rfl := List.eq_nil_of_length_eq_zero h0
    rw [put1_nil]
    refine aS ?_
    refine aR (fun Z hZ => ?_)
    refine sL 2 rfl rfl tyA68 tyS68 rfl rfl ?_
    refine jD9 Tryz.underlying68 rfl rfl ?_
    refine sx_sub rfl rfl (-1 : Int) (by show IntKind.i64.wrap (((([] : List En).length : Nat) : Int) - 1) = -1; rfl) rfl ?_
    refine sA rfl rfl <| sN (hZ _ _ ?_)
    refine aF [(4, _), (6, _), (12, _), (13, _)] (kR rfl) ?_
    refine jC6 [(6, ptr g4 0), (12, ptr g6 0), (13, iq (-1)), (47, .bool false)] (.own g6 114 (⟨x.id, cc.1, cc.2, 1⟩ : En).cells :: .own g5 123 (ctC cc) :: .own g4 68 [.slice Av ([] : List En).length cv] :: .own g3 117 [ptr gp 0] :: .own g2 110 [.func (.func 46) #[] #[]] :: (rowE (.slice Av ([] : List En).length cv) 114 4 (jA1 []) ++ X2)) mixed (by kernel_rfl) (fun Z hZ => ?_) ?_
    ·refine qM rfl rfl ?_
     refine sq_geq rfl rfl rfl ?_
     refine qM rfl rfl ?_
     refine jG4 37 rfl false (by rfl) ?_
     refine qO rfl rfl rfl rfl rfl ?_
     refine qO rfl rfl rfl rfl rfl ?_
     refine qO rfl rfl rfl rfl rfl ?_
     refine qO rfl rfl rfl rfl rfl ?_
     refine qO rfl rfl rfl rfl rfl ?_
     refine qO rfl rfl rfl rfl rfl ?_
     refine qO rfl rfl rfl rfl rfl ?_
     refine qO rfl rfl rfl rfl rfl ?_
     refine qO rfl rfl rfl rfl rfl ?_
     refine jC5 rfl rfl rfl ?_
     refine jE0 (hZ _ _ ?_ ?_)
     ·exact kR rfl
     ·exact HLe.refl _
    refine aC rfl (fun h9 => ?_) (fun h9 => ?_)
    ·cases h9
    refine aK ?_
    with_reducible refine nN ?_
    refine aG (fun Z hZ => ?_)
    refine sL 2 rfl rfl tyA68 tyS68 rfl rfl ?_
    refine sLA 0 rfl rfl tyA114 tyS114 rfl (by simp only [qS]; rfl) rfl ?_
    refine sBS Tryz.underlying68 tyS114 tyZ114 rfl rfl rfl rfl (by simp only [qS, Nat.reduceAdd, Value.cells, wrV, Nat.reduceMul, Nat.zero_mul]; rfl) rfl (fun g7 => ?_)
    refine jD2 (xs := jA1 []) (_ :: _ :: _ :: _ :: _ :: _ :: X2) elemEn rfl hv rfl rfl (fun w hw => rd_own (i := 0) (xs := (⟨x.id, cc.1, cc.2, 1⟩ : En).cells) rfl rfl hw) rfl (by decide) (by decide) (le_fst (X := [_, _, _, _, _, _])) rfl (fun v2 hv2 => ?_)
    obtain ⟨gv2, cv2, rfl⟩ := hv2.some (by omega)
    refine sS1 3 rfl rfl rfl tyS68 rfl rfl (by simp only [List.set_cons_zero]; rfl) rfl ?_
    refine sN (hZ _ _ ?_)
    refine nF [] (Kn.nil) ?_
    refine nBN ?_
    refine nx_next (.own g4 68 [.slice (some ⟨gv2, 0, none⟩) (0 + 1) cv2] :: .own g3 117 [ptr gp 0] :: .own g2 110 [.func (.func 46) #[] #[]] :: (rowE (.slice (some ⟨gv2, 0, none⟩) (0 + 1) cv2) 114 4 (jA1 [⟨x.id, cc.1, cc.2, 1⟩]) ++ X2)) ⟨_, X2, hv2, hX2, rfl⟩ ?_
    exact (HLe.drop 3 rfl).trans (le_fstB (X := [_, _, _, _, _, _]))
   ·obtain ⟨m, hm⟩ : ∃ m, out.length = m + 1 := ⟨out.length - 1, by omega⟩
    have hml : m < out.length := by omega
    obtain ⟨a, ha⟩ : ∃ a, out[m]? = some a := ⟨_, List.getElem?_eq_getElem hml⟩
    obtain ⟨hao, har⟩ := r5 a (List.mem_of_getElem? ha)
    have hp1 : put1 out ⟨x.id, cc.1, cc.2, 1⟩ = if oneQ a ⟨x.id, cc.1, cc.2, 1⟩ then out.set m { a with run := a.run + 1 } else out ++ [⟨x.id, cc.1, cc.2, 1⟩] := by rw [put1_some (a := a) (by rw [hm, Nat.add_sub_cancel]; exact ha), hm, Nat.add_sub_cancel]
    rw [hp1]
    obtain ⟨gv, cv', hev⟩ := hv.some (by omega)
    injection hev with he1 _ he2
    subst he1; subst he2
    have hgo := goes_fn a ⟨x.id, cc.1, cc.2, 1⟩ hao
    obtain ⟨q, hq⟩ : ∃ q, oneQ a ⟨x.id, cc.1, cc.2, 1⟩ = q := ⟨_, rfl⟩
    rw [hq] at hgo ⊢
    refine jA8 (.own g6 114 (⟨x.id, cc.1, cc.2, 1⟩ : En).cells :: .own g5 123 (ctC cc) :: .own g4 68 [.slice (some ⟨gv, 0, none⟩) out.length cv] :: .own g3 117 [ptr gp 0] :: .own g2 110 [.func (.func 46) #[] #[]] :: .ob gv (RowP 114 4 out.length cv (jA1 out)) :: X2) (HLe.refl _) ?_
    refine aS ?_
    refine aR (fun Z hZ => ?_)
    refine sL 2 rfl rfl tyA68 tyS68 rfl rfl ?_
    refine jD9 Tryz.underlying68 rfl rfl ?_
    refine sx_sub rfl rfl ((m : Nat) : Int) (by rw [IntWalk.i64_in _ (by omega)]; omega) rfl ?_
    refine sA rfl rfl <| sN (hZ _ _ ?_)
    refine aF [(4, _), (6, _), (12, _), (13, _)] (kR rfl) ?_
    refine jC6 [(6, ptr g4 0), (12, ptr g6 0), (13, iq (m : Nat)), (47, .bool q)] (.own g6 114 (⟨x.id, cc.1, cc.2, 1⟩ : En).cells :: .own g5 123 (ctC cc) :: .own g4 68 [.slice (some ⟨gv, 0, none⟩) out.length cv] :: .own g3 117 [ptr gp 0] :: .own g2 110 [.func (.func 46) #[] #[]] :: .ob gv (RowP 114 4 out.length cv (jA1 out)) :: X2) mixed (by kernel_rfl) (fun Z hZ => ?_) ?_
    ·refine qM rfl rfl ?_
     refine sq_geq rfl rfl rfl ?_
     refine qM rfl rfl ?_
     refine jG4 37 rfl true (by simp) ?_
     refine jA4 rfl rfl rfl ?_
     refine jB7 4 rfl rfl tyA110 tyS110 rfl rfl ?_
     refine jA4 rfl rfl rfl ?_
     refine jB7 2 rfl rfl tyA68 tyS68 rfl rfl ?_
     refine jA4 rfl rfl rfl ?_
     refine qM rfl rfl ?_
     refine jA4 rfl rfl rfl ?_
     refine jE8 (0 + m * 4) Tryz.underlying68 tyS114 rfl rfl (by omega) (by simp) rfl ?_
     refine jA4 rfl rfl rfl ?_
     refine sq_loadRd (m * 4) rfl rfl (fun w hw => rd_row (i := 5) rfl hw) (by omega) tyA114 tyS114 (ecells_all ha) rfl ?_
     refine jA4 rfl rfl rfl ?_
     refine sq_build tyZ116 tyP116 rfl rfl (by simp only [qS, Nat.reduceAdd, Value.cells, wrV]; rfl) rfl ?_
     refine jA4 rfl rfl rfl ?_
     refine sq_loadA 0 rfl rfl tyA114 tyS114 rfl (by simp only [qS]; rfl) rfl ?_
     refine jA4 rfl rfl rfl ?_
     refine sq_build tyZ116 tyP116 rfl rfl (by simp only [qS, Nat.reduceAdd, Value.cells, wrV]; rfl) rfl ?_
     refine jA4 rfl rfl rfl ?_
     refine sq_callFP hgo rfl rfl rfl ?_
     refine jC5 rfl rfl rfl ?_
     refine jE0 (hZ _ _ ?_ ?_)
     ·exact kR rfl
     ·exact HLe.refl _
    refine aC rfl (fun h9 => ?_) (fun h9 => ?_)
    ·rw [if_pos h9]
     refine aR (fun Z hZ => ?_)
     refine sL 2 rfl rfl tyA68 tyS68 rfl rfl ?_
     refine sM rfl rfl ?_
     refine jA6 (0 + m * 4) Tryz.underlying68 tyS114 rfl rfl (by omega) (by simp) rfl ?_
     refine sFA rfl tyF114_3 (by simp only [Nat.zero_add]; rfl) rfl ?_
     refine sx_loadRd (m * 4 + 3) rfl (by omega) (fun w hw => rd_row (i := 5) rfl hw) (by omega) tyA112 tyS112 (ecells_run ha) rfl ?_
     refine jB8 rfl rfl ((a.run + 1 : Nat) : Int) (by rw [IntWalk.u32_in _ (by omega)]; omega) rfl ?_
     refine jA6 (0 + m * 4) Tryz.underlying68 tyS114 rfl rfl (by omega) (by simp) rfl ?_
     refine sFA rfl tyF114_3 (by simp only [Nat.zero_add]; rfl) rfl ?_
     refine sx_storeRw (o := m * 4 + 3) 5 rfl rfl rfl tyS112 rfl (by omega) (mset_run ha (a.run + 1)) rfl ?_
     refine sN (hZ _ _ ?_)
     refine aF [] (Kn.nil) ?_
     refine jB1 ?_
     repeat (with_reducible refine nTE ?_)
     with_reducible refine nBE ?_
     refine nx_next (.own g4 68 [.slice (some ⟨gv, 0, none⟩) out.length cv] :: .own g3 117 [ptr gp 0] :: .own g2 110 [.func (.func 46) #[] #[]] :: (rowE (.slice (some ⟨gv, 0, none⟩) out.length cv) 114 4 (jA1 (out.set m { a with run := a.run + 1 })) ++ X2)) ⟨_, X2, by rw [List.length_set]; exact hv, hX2, rfl⟩ (HLe.drop 2 rfl)
    rw [if_neg (by rw [h9]; simp)]
    refine aK ?_
    with_reducible refine nN ?_
    refine aG (fun Z hZ => ?_)
    refine sL 2 rfl rfl tyA68 tyS68 rfl rfl ?_
    refine sLA 0 rfl rfl tyA114 tyS114 rfl (by simp only [qS]; rfl) rfl ?_
    refine sBS Tryz.underlying68 tyS114 tyZ114 rfl rfl rfl rfl (by simp only [qS, Nat.reduceAdd, Value.cells, wrV, Nat.reduceMul, Nat.zero_mul]; rfl) rfl (fun g8 => ?_)
    refine jD2 (xs := jA1 out) (_ :: _ :: _ :: _ :: _ :: _ :: X2) elemEn rfl hv (by rw [ecells_len]) rfl (fun w hw => rd_own (i := 0) (xs := (⟨x.id, cc.1, cc.2, 1⟩ : En).cells) rfl rfl hw) rfl (by show _ ≤ 9223372036854775807; omega) (by omega) (le_fst (X := [_, _, _, _, _, _]) (T := rowE (.slice (some ⟨gv, 0, none⟩) out.length cv) 114 4 (jA1 out))) rfl (fun v2 hv2 => ?_)
    obtain ⟨gv2, cv2, rfl⟩ := hv2.some (by omega)
    refine sS1 3 rfl rfl rfl tyS68 rfl rfl (by simp only [List.set_cons_zero]; rfl) rfl ?_
    refine sN (hZ _ _ ?_)
    refine nF [] (Kn.nil) ?_
    refine nBN ?_
    refine nx_next (.own g4 68 [.slice (some ⟨gv2, 0, none⟩) (out.length + 1) cv2] :: .own g3 117 [ptr gp 0] :: .own g2 110 [.func (.func 46) #[] #[]] :: (rowE (.slice (some ⟨gv2, 0, none⟩) (out.length + 1) cv2) 114 4 (jA1 (out ++ [⟨x.id, cc.1, cc.2, 1⟩])) ++ X2)) ⟨_, X2, by rw [List.length_append]; exact hv2, hX2, rfl⟩ ?_
    rw [show jA1 (out ++ [⟨x.id, cc.1, cc.2, 1⟩]) = jA1 out ++ (⟨x.id, cc.1, cc.2, 1⟩ : En).cells by simp [jA1]]
    exact (HLe.drop 3 rfl).trans (le_fstB (X := [_, _, _, _, _, _]))
 ·rintro D H ⟨v, X, hv, hX, rfl⟩
  rw [List.length_map, List.take_length] at hv hX
  rw [List.length_map, List.take_length]
  have hrs := rows_ok hok L.length (Nat.le_refl _)
  rw [List.take_length] at hrs
  refine nBN ?_
  with_reducible refine nx_normalM ?_
  have htx := text_fn hX (by have := hrs.fl; omega)
  obtain ⟨Av, cv, rfl, hAv⟩ := hv.form
  refine jA8 (.ob D isDef :: .own g4 68 [.slice Av (rowsS L).1.length cv] :: .own g3 117 [ptr gp 0] :: (X ++ rowE (.slice Av (rowsS L).1.length cv) 114 4 (jA1 (rowsS L).1))) ?_ ?_
  ·exact le_done _ _ _ _ _ X _
  refine jD0 _ [(0, true), (1, true), (2, false), (3, true), (4, true)] mixed (by kernel_rfl) (HLe.pick [1, 2] (by simp) (by simp only [pick, List.filterMap_cons, qS]; rfl)) (fun Z hZ => ?_)
  refine tw_p rfl ?_
  refine jE6 0 rfl rfl tyA68 tyS68 rfl rfl ?_
  refine vN ?_
  refine tw_p rfl ?_
  refine jE6 1 rfl rfl tyA117 tyS117 rfl rfl ?_
  refine vN ?_
  refine tw_g rfl ?_
  refine jD3 X (_ :: _ :: _ :: rowE (.slice Av (rowsS L).1.length cv) 114 4 (jA1 (rowsS L).1)) htx rfl (HLe.comm3 [_, _, _] X _) rfl ?_
  rintro u X3 ⟨rfl, rfl⟩
  rw [hX.wrs.filter]
  refine jC1 _ (HLe.swap X3 (_ :: _ :: _ :: rowE (.slice Av (rowsS L).1.length cv) 114 4 (jA1 (rowsS L).1))) ?_
  refine sN ⟨HLe.pick [1, 2] (by simp) rfl, ?_⟩
  refine tw_p rfl ?_
  refine jD7 rfl rfl ?_
  refine vN ?_
  refine tw_p rfl ?_
  refine jD7 rfl rfl ?_
  refine vN ?_
  refine jH2 (hZ _ _ ?_)
  refine aF [(2, _), (3, _)] (kR rfl) ?_
  refine aE ?_
  exact nx_unmark [0] ⟨rfl, trivial⟩ (jB4 (rowE (.slice Av (rowsS L).1.length cv) 114 4 (jA1 (rowsS L).1)) rfl rfl rfl (HLe.trans (HLe.sub (List.sublist_append_left _ X3)) (HLe.drop 2 rfl)) ⟨_, rfl, hv, rfl⟩)
end Go.Proofs.YtkojkeabelckjaaGreatDoor.V
end

section
set_option linter.all false
namespace Go.Proofs.YtkojkeabelckjaaGreatDoor.V
open Go.RowKit
theorem findIdx_b {l : List MapEntry} (hn : (l.map (·.born)).Nodup) {j : Nat} {e0 : MapEntry} (h : l[j]? = some e0) : l.findIdx? (fun e => ((e.born : Nat) : Int) == ((e0.born : Nat) : Int)) = some j := by
 induction l generalizing j with
 | nil => simp at h
 | cons a r ih =>
  simp only [List.map_cons, List.nodup_cons] at hn
  cases j with
  | zero =>
   simp only [List.getElem?_cons_zero, Option.some.injEq] at h
   subst h
   simp [List.findIdx?_cons]
  | succ j =>
   simp only [List.getElem?_cons_succ] at h
   have hne : a.born ≠ e0.born := fun e1 => hn.1 (List.mem_map.2 ⟨e0, List.mem_of_getElem? h, e1.symm⟩)
   have hb : (((a.born : Nat) : Int) == ((e0.born : Nat) : Int)) = false := by
    simp only [beq_eq_false_iff_ne, ne_eq, Int.natCast_inj]
    exact hne
   rw [List.findIdx?_cons, hb]
   simp [ih hn.2 h]
section
variable {κ ν : Type} [DecidableEq κ] (encK : κ → Value) (encV : ν → Value)
structure EsOk (es : Array MapEntry) (clock : Nat) (M : List (κ × ν)) : Prop where
 rd : es.toList.map (fun e : MapEntry => (e.key, e.val)) = M.map (fun x => (encK x.1, encV x.2))
 nd : (jE1 M).Nodup
 lt : ∀ e ∈ es.toList, e.born < clock
 bn : (es.toList.map (·.born)).Nodup
def MapSP (M : List (κ × ν)) (o : Obj) : Prop := ∃ es clock, o = .map es clock ∧ EsOk encK encV es clock M
def MapRP (M1 : List (κ × ν)) (k : κ) (x : ν) (M2 : List (κ × ν)) (st : Nat) (o : Obj) : Prop :=
 ∃ es clock e0, o = .map es clock ∧ EsOk encK encV es clock (M1 ++ (k, x) :: M2) ∧ es.toList[M1.length]? = some e0 ∧ e0.born = st
abbrev mapS (b : Nat) (M : List (κ × ν)) : Ent := .ob b (MapSP encK encV M)
variable {encK encV} {b : Nat} {M : List (κ × ν)} {w w' : World}
theorem mapS_is (h : (mapS encK encV b M).holds w) : MapIs encK encV w b M := by
 obtain ⟨o, h1, es, clock, rfl, h2⟩ := h
 exact ⟨es, clock, h1, h2.rd, h2.nd⟩
variable {P : Program} {K T E : TypeId}
theorem run_mapEntry (h : KeyOk P K encK) (hT : P.underlying T = some (.map K E)) (hm : (mapS encK encV b M).holds w) {z : Value} (hz : (zeroValue E).run P w = .ok z w) {zv : ν} (hzv : encV zv = z) (k : κ) :
  ∃ w' M1 x M2 st, (Instr.mapEntry T (.map (some b)) (encK k)).run P w = .ok (.tuple #[((aget M k).map encV).getD z, goInt (st : Nat)]) w' ∧ (Ent.ob b (MapRP encK encV M1 k x M2 st)).holds w' ∧ OnlyMap w w' b ∧
   M1 ++ (k, x) :: M2 = aput M k ((aget M k).getD zv) ∧ k ∉ jE1 M1 ∧ encV x = ((aget M k).map encV).getD z ∧ ∀ v, aput M k v = M1 ++ (k, v) :: M2 := by
 obtain ⟨o, hb, es, clock, rfl, ⟨hes, hnd, hlt, hbn⟩⟩ := hm
 obtain ⟨f1, f2⟩ := run_findKey h w k es.toList M hes
 rcases at_key M k with ⟨h1, h2, h3, _⟩ | ⟨M1, x, M2, e, h1, h2, h3, _⟩
 ·have hl : es.toList.length = M.length := by simpa using congrArg List.length hes
  refine ⟨_, M, zv, [], clock, ?_, ⟨_, heap_set w hb _, es.push { key := encK k, val := z, born := clock }, clock + 1, { key := encK k, val := z, born := clock }, rfl, ⟨?_, ?_, ?_, ?_⟩, ?_, rfl⟩, ⟨_, rfl⟩, ?_, h1, ?_, h3⟩
  ·simp [Instr.mapEntry, run_underlying hT, MapKept.run_getObj_map hb, h.chk, f1 h1, hz, h2, MapKept.run_setObj_map _ hb, Result.andThen]
  ·simp [hes, hzv]
  ·rw [← h3]; exact nodup_put hnd k zv
  ·intro y hy
   rw [Array.toList_push] at hy
   rcases List.mem_append.1 hy with hy | hy
   ·have := hlt y hy; omega
   ·rw [List.mem_singleton.1 hy]; exact Nat.lt_succ_self _
  ·simp only [Array.toList_push, List.map_append, List.map_cons, List.map_nil]
   refine List.nodup_append.2 ⟨hbn, by simp, fun a ha c hc e1 => ?_⟩
   simp only [List.mem_singleton] at hc
   obtain ⟨y, hy, rfl⟩ := List.mem_map.1 ha
   have := hlt y hy
   omega
  ·rw [Array.toList_push, ← hl]; simp
  ·rw [h2, h3]; rfl
  ·rw [h2, hzv]; rfl
 ·have hlen : M1.length < es.toList.length := by
   have := congrArg List.length hes
   rw [e] at this
   simp at this
   simp [this]
  have hold : es.toList[M1.length]? = some es.toList[M1.length] := List.getElem?_eq_getElem hlen
  obtain ⟨e0, he0⟩ : ∃ e0, es.toList[M1.length] = e0 := ⟨_, rfl⟩
  rw [he0] at hold
  have hkv : e0.key = encK k ∧ e0.val = encV x := by
   have := congrArg (fun l => l[M1.length]?) hes
   simp only [List.getElem?_map] at this
   rw [e, hold] at this
   simp only [List.getElem?_append_right (Nat.le_refl _), Nat.sub_self, List.getElem?_cons_zero, Option.map_some, Option.some.injEq, Prod.mk.injEq] at this
   exact this
  have hj : es[M1.length]? = some e0 := by simpa using hold
  have hsame : es.modify M1.length (fun e => { e with key := encK k }) = es := by
   apply Array.ext'
   rw [Array.toList_modify]
   apply List.ext_getElem?
   intro j
   rw [List.getElem?_modify]
   by_cases hjm : M1.length = j
   ·subst hjm
    rw [hold]
    simp only [if_true]
    rw [← hkv.1]
    rfl
   ·simp [hjm]
  refine ⟨_, M1, x, M2, e0.born, ?_, ⟨_, heap_set w hb _, es, clock, e0, rfl, ⟨?_, ?_, hlt, hbn⟩, hold, rfl⟩, ⟨_, rfl⟩, ?_, h1, ?_, h3⟩
  ·simp [Instr.mapEntry, run_underlying hT, MapKept.run_getObj_map hb, h.chk, f2 M1 x M2 e h1, hj, hkv.1, h2, Instr.keyThatStays, h.same, hsame, MapKept.run_setObj_map _ hb, Result.andThen]
  ·rw [← e]; exact hes
  ·rw [← e]; exact hnd
  ·rw [h2, h3]; rfl
  ·rw [h2]; rfl
theorem run_entryStore {M1 M2 : List (κ × ν)} {k : κ} {x v : ν} {st : Nat} (hm : (Ent.ob b (MapRP encK encV M1 k x M2 st)).holds w) :
  ∃ w', (Instr.entryStore T (.map (some b)) (goInt (st : Nat)) (encV v)).run P w = .ok () w' ∧ (mapS encK encV b (M1 ++ (k, v) :: M2)).holds w' ∧ OnlyMap w w' b := by
 obtain ⟨o, hb, es, clock, e0, rfl, ⟨hes, hnd, hlt, hbn⟩, hj, hst⟩ := hm
 have hidx : es.findIdx? (fun e => ((e.born : Nat) : Int) == ((st : Nat) : Int)) = some M1.length := by
  have := findIdx_b hbn hj
  rw [hst] at this
  cases es
  simpa using this
 refine ⟨_, ?_, ⟨_, heap_set w hb _, es.modify M1.length (fun e => { e with val := encV v }), clock, rfl, ⟨?_, ?_, ?_, ?_⟩⟩, ⟨_, rfl⟩⟩
 ·simp [Instr.entryStore, MapKept.run_getObj_map hb, asInt, asIntOf, goInt, hidx, MapKept.run_setObj_map _ hb, Result.andThen]
 ·apply List.ext_getElem?
  intro j
  have hj2 := congrArg (fun l => l[j]?) hes
  simp only [List.getElem?_map, Array.getElem?_toList] at hj2
  simp only [List.getElem?_map, Array.getElem?_toList, Array.getElem?_modify]
  by_cases hjm : M1.length = j
  ·subst hjm
   simp only [List.getElem?_append_right (Nat.le_refl _), Nat.sub_self, List.getElem?_cons_zero, Option.map_some, if_true] at hj2 ⊢
   have hj3 : es[M1.length]? = some e0 := by simpa using hj
   rw [hj3] at hj2 ⊢
   simp only [Option.map_some, Option.some.injEq, Prod.mk.injEq] at hj2
   rw [← hj2.1]
   rfl
  ·simp only [hjm, if_false]
   rw [hj2]
   congr 1
   by_cases hlt2 : j < M1.length
   ·rw [List.getElem?_append_left hlt2, List.getElem?_append_left hlt2]
   ·rw [List.getElem?_append_right (by omega), List.getElem?_append_right (by omega)]
    obtain ⟨i, hi⟩ : ∃ i, j - M1.length = i + 1 := ⟨j - M1.length - 1, by omega⟩
    rw [hi]
    rfl
 ·have : jE1 (M1 ++ (k, v) :: M2) = jE1 (M1 ++ (k, x) :: M2) := by simp [jE1]
  rw [this]; exact hnd
 ·intro y hy
  rw [Array.toList_modify] at hy
  obtain ⟨j, hj2⟩ := List.mem_iff_getElem?.1 hy
  rw [List.getElem?_modify] at hj2
  cases hq : es.toList[j]? with
  | none => rw [hq] at hj2; simp at hj2
  | some q =>
   rw [hq] at hj2
   have := hlt q (List.mem_of_getElem? hq)
   have hj3 : (if M1.length = j then ({ q with val := encV v } : MapEntry) else q) = y := Option.some.inj hj2
   subst hj3
   split <;> exact this
 ·have : (es.modify M1.length (fun e => { e with val := encV v })).toList.map (·.born) = es.toList.map (·.born) := by
   rw [Array.toList_modify]
   apply List.ext_getElem?
   intro j
   rw [List.getElem?_map, List.getElem?_modify, List.getElem?_map]
   cases es.toList[j]? with
   | none => simp
   | some q => simp only [Option.map_some]; split <;> rfl
  rw [this]; exact hbn
end
section
variable {P : Program} {N : Frm} {w0 : World} {Wr : List Nat} {ops : Array Oper} {rest : List Oper} {fr : Fr} {H : Heap} {Z : Fr → Heap → Prop} {d ty : Nat} {pos : String} {after : Array Edge}
variable {κ ν : Type} [DecidableEq κ] {encK : κ → Value} {encV : ν → Value} {K T E : TypeId}
theorem mapR_is {b : Nat} {M1 M2 : List (κ × ν)} {k : κ} {x : ν} {st : Nat} {w : World} (h : (Ent.ob b (MapRP encK encV M1 k x M2 st)).holds w) : MapIs encK encV w b (M1 ++ (k, x) :: M2) := by
 obtain ⟨o, h1, es, clock, e0, rfl, h2, _⟩ := h
 exact ⟨es, clock, h1, h2.rd, h2.nd⟩
theorem sx_lookupS (i : Nat) (hK : KeyOk P K encK) (hT : P.underlying T = some (.map K E)) {z : Value} (hz : ∀ w, (zeroValue E).run P w = .ok z w) {x y : Operand} {b : Nat} {M : List (κ × ν)} (k : κ) {ok : Bool} (v : Value)
  (hx : ev fr x = some (.map (some b))) (hy : ev fr y = some (encK k)) (hH : H[i]? = some (mapS encK encV b M)) (hv : (if ok = true then Value.tuple #[((aget M k).map encV).getD z, .bool (aget M k).isSome] else ((aget M k).map encV).getD z) = v) (hN : Nat.ble (d + 1) N.n = true)
  (h : sx P N w0 Wr ops rest ((d, v) :: fr) H Z) : sx P N w0 Wr ops (⟨some d, .lookup T x y ok, ty, pos, after, none⟩ :: rest) fr H Z :=
 jE3 v hN (fun a w ha hw => by
  subst hv
  have := run_look hK hT (mapS_is (hw.mem hH)) (hz w) k ok
  simp only [execOp, ha.eval hx, ha.eval hy, Sem.run_bind, this, Result.andThen_ok]
  rfl) h
theorem sx_lookupR (i : Nat) (hK : KeyOk P K encK) (hT : P.underlying T = some (.map K E)) {z : Value} (hz : ∀ w, (zeroValue E).run P w = .ok z w) {x y : Operand} {b : Nat} {M1 M2 : List (κ × ν)} {u : ν} {st : Nat} (k : κ) (v : Value)
  (hx : ev fr x = some (.map (some b))) (hy : ev fr y = some (encK k)) (hH : H[i]? = some (.ob b (MapRP encK encV M1 k u M2 st))) (hk : k ∉ jE1 M1) (hv : encV u = v) (hN : Nat.ble (d + 1) N.n = true)
  (h : sx P N w0 Wr ops rest ((d, v) :: fr) H Z) : sx P N w0 Wr ops (⟨some d, .lookup T x y false, ty, pos, after, none⟩ :: rest) fr H Z :=
 jE3 v hN (fun a w ha hw => by
  subst hv
  have := run_look hK hT (mapR_is (hw.mem hH)) (hz w) k false
  have hg : aget (M1 ++ (k, u) :: M2) k = some u := by
   rcases at_key (M1 ++ (k, u) :: M2) k with ⟨h1, _⟩ | ⟨N1, y, N2, e, h1, h2, _⟩
   ·exact absurd (by simp [jE1]) h1
   ·rw [h2]
    clear this
    have : ∀ (M1 N1 : List (κ × ν)), M1 ++ (k, u) :: M2 = N1 ++ (k, y) :: N2 → k ∉ jE1 M1 → k ∉ jE1 N1 → u = y := by
     intro M1
     induction M1 with
     | nil =>
      intro N1 e h1 h2
      cases N1 with
      | nil => simp at e; exact e.1
      | cons a r => simp at e; exact absurd (by rw [← e.1]; simp [jE1]) h2
     | cons a r ih =>
      intro N1 e h1 h2
      cases N1 with
      | nil => simp at e; exact absurd (by rw [e.1]; simp [jE1]) h1
      | cons a' r' =>
       simp only [List.cons_append, List.cons.injEq] at e
       simp only [jE1, List.map_cons, List.mem_cons, not_or] at h1 h2
       exact ih r' e.2 h1.2 h2.2
    rw [this M1 N1 e hk h1]
  rw [hg] at this
  simp only [execOp, ha.eval hx, ha.eval hy, Sem.run_bind, this, Result.andThen_ok]
  rfl) h
theorem sx_lenS2 (i : Nat) (hT : P.underlying T = some (.map K E)) {x : Operand} {b : Nat} {M : List (κ × ν)} (hx : ev fr x = some (.map (some b))) (hH : H[i]? = some (mapS encK encV b M)) (hN : Nat.ble (d + 1) N.n = true)
  (h : sx P N w0 Wr ops rest ((d, .int .i64 (M.length : Nat)) :: fr) H Z) : sx P N w0 Wr ops (⟨some d, .call { callee := .builtin .len, args := #[x], argTypes := #[T] }, ty, pos, after, none⟩ :: rest) fr H Z :=
 jE3 _ hN (fun a w ha hw => by
  have := run_len_map (ty := ty) hT (mapS_is (hw.mem hH))
  have he := ha.eval hx
  simp [execOp, resolve, invoke, builtin, he, Sem.run_bind, this]) h
theorem sx_makeMapS {t : TypeId} (hN : Nat.ble (d + 1) N.n = true) (encK : κ → Value) (encV : ν → Value)
  (h : ∀ b, sx P N w0 Wr ops rest ((d, .map (some b)) :: fr) (mapS encK encV b [] :: H) Z) : sx P N w0 Wr ops (⟨some d, .makeMap t none, ty, pos, after, none⟩ :: rest) fr H Z := by
 refine sx_make (R := fun v H' => ∃ b, v = .map (some b) ∧ H' = mapS encK encV b [] :: H) hN (fun a w ha hw => ?_) (fun v H' hR => by obtain ⟨b, rfl, rfl⟩ := hR; exact h b)
 refine ⟨.map (some w.heap.size), w.alloc (.map #[] 0), _, ?_, ⟨w.heap.size, rfl, rfl⟩, hw.fresh ?_ ((Bel.refl w).alloc _) (Nat.le_refl _)⟩
 ·simp [execOp, Instr.makeMap]
 ·exact ⟨_, by show (w.heap.push _)[w.heap.size]? = _; simp, #[], 0, rfl, ⟨by simp, by simp [jE1], by simp, by simp⟩⟩
theorem sx_mapEntry (i : Nat) (hK : KeyOk P K encK) (hT : P.underlying T = some (.map K E)) {z : Value} (hz : ∀ w, (zeroValue E).run P w = .ok z w) {zv : ν} (hzv : encV zv = z) {x y : Operand} {b : Nat} {M : List (κ × ν)} (k : κ)
  (hx : ev fr x = some (.map (some b))) (hy : ev fr y = some (encK k)) (hH : H[i]? = some (mapS encK encV b M)) (hN : Nat.ble (d + 1) N.n = true)
  (h : ∀ (M1 : List (κ × ν)) (u : ν) (M2 : List (κ × ν)) (st : Nat), k ∉ jE1 M1 → encV u = ((aget M k).map encV).getD z → (∀ v, aput M k v = M1 ++ (k, v) :: M2) →
   sx P N w0 Wr ops rest ((d, .tuple #[((aget M k).map encV).getD z, goInt (st : Nat)]) :: fr) (H.set i (.ob b (MapRP encK encV M1 k u M2 st))) Z) : sx P N w0 Wr ops (⟨some d, .mapEntry T x y, ty, pos, after, none⟩ :: rest) fr H Z := by
 refine sx_make (R := fun v H' => ∃ (M1 : List (κ × ν)) (u : ν) (M2 : List (κ × ν)) (st : Nat), (k ∉ jE1 M1 ∧ encV u = ((aget M k).map encV).getD z ∧ ∀ v, aput M k v = M1 ++ (k, v) :: M2) ∧ v = .tuple #[((aget M k).map encV).getD z, goInt (st : Nat)] ∧ H' = H.set i (.ob b (MapRP encK encV M1 k u M2 st))) hN (fun a w ha hw => ?_) (fun v H' hR => by
  obtain ⟨M1, u, M2, st, ⟨h1, h2, h3⟩, rfl, rfl⟩ := hR
  exact h M1 u M2 st h1 h2 h3)
 obtain ⟨w', M1, u, M2, st, h1, h2, h3, _, h5, h6, h7⟩ := run_mapEntry hK hT (hw.mem hH) (hz w) hzv k
 refine ⟨_, w', _, ?_, ⟨M1, u, M2, st, ⟨h5, h6, h7⟩, rfl, rfl⟩, hw.turn hH rfl rfl h3.only h2⟩
 simp only [execOp, ha.eval hx, ha.eval hy, Sem.run_bind, h1, Result.andThen_ok]
 rfl
theorem sx_entryStore (i : Nat) {x s y : Operand} {b : Nat} {M1 M2 : List (κ × ν)} {k : κ} {u v : ν} {st : Nat} (hx : ev fr x = some (.map (some b))) (hs : ev fr s = some (goInt (st : Nat))) (hy : ev fr y = some (encV v)) (hH : H[i]? = some (.ob b (MapRP encK encV M1 k u M2 st)))
  {H2 : Heap} (hH2 : H.set i (mapS encK encV b (M1 ++ (k, v) :: M2)) = H2)
  (h : sx P N w0 Wr ops rest fr H2 Z) : sx P N w0 Wr ops (⟨none, .entryStore T x s y, ty, pos, after, none⟩ :: rest) fr H Z :=
 sx_do (fun a w ha hw => by
  subst hH2
  obtain ⟨w', h1, h2, h3⟩ := run_entryStore (P := P) (T := T) (v := v) (hw.mem hH)
  refine ⟨w', ?_, hw.turn hH rfl rfl h3.only h2⟩
  simp only [execOp, ha.eval hx, ha.eval hs, ha.eval hy, Sem.run_bind, h1, Result.andThen_ok]
  rfl) h
end
end Go.Proofs.YtkojkeabelckjaaGreatDoor.V
end

section
set_option linter.all false
namespace Go.Proofs.YtkojkeabelckjaaGreatDoor.V
open Go.RowKit
set_option maxRecDepth 100000
section
variable {N : Frm} {w0 w : World} {Wr : List Nat} {ops : Array Oper} {rest : List Oper} {fr : Fr} {H : Heap} {Z : Fr → Heap → Prop} {d ty : Nat} {pos : String} {after : Array Edge} {xs : List Operand} {ts : Array TypeId} {A B : Option Addr} {c c2 : Nat}
end
theorem keyC : KeyOk Tryz.prog 213 (fun c : Nat × Nat => ctV c) where
 eq a b w := by
  obtain ⟨a1, a2⟩ := a
  obtain ⟨b1, b2⟩ := b
  simp [go_sem, Op.equal, Op.maxDepth]
  by_cases h1 : a1 = b1 <;> by_cases h2 : a2 = b2
  ·simp [h1, h2]
  ·have : ¬ (a2 : Int) = b2 := by omega
   simp [h1, h2, this]
  ·have : ¬ (a1 : Int) = b1 := by omega
   simp [h1, this]
  ·have : ¬ (a1 : Int) = b1 := by omega
   simp [h1, this]
 chk e a w := by
  have hi : ∀ (x : Nat) (n : Nat), (Instr.checkKey e (n + 1) 45 (.int .u64 (x : Int))).run Tryz.prog w = .ok () w := fun x n => by
   rw [Instr.checkKey]
   simp [run_underlying Tryz.underlying45]
  have hj : ∀ (x : Nat) (n : Nat), (Instr.checkKey e (n + 1) 112 (.int .u32 (x : Int))).run Tryz.prog w = .ok () w := fun x n => by
   rw [Instr.checkKey]
   simp [run_underlying Tryz.underlying112]
  rw [show (10000 : Nat) = 9998 + 1 + 1 from rfl, Instr.checkKey]
  simp [go_sem, run_underlying Tryz.underlying213, hi, hj]
 und := ⟨_, Tryz.underlying213, .inl fun a b => by simp [Instr.sameNow]⟩
 same a := by simp [Instr.sameBits]
abbrev CtM := List ((Nat × Nat) × Nat)
def seeC (M : CtM) (k : Nat × Nat) : CtM := aput M k ((aget M k).getD 0 + 1)
def cst1 (M : CtM) (e : En) : CtM := if chkE e = 0 ∧ 0 < e.run then seeC M (e.off, e.len) else M
def cstM (L : List En) : CtM := L.foldl cst1 []
theorem cstM_snoc {L : List En} {k : Nat} {x : En} (h : L[k]? = some x) : cstM (L.take (k + 1)) = cst1 (cstM (L.take k)) x := by
 obtain ⟨hlt, rfl⟩ := List.getElem?_eq_some_iff.1 h
 unfold cstM
 rw [List.take_succ_eq_append_getElem hlt, List.foldl_append, List.foldl_cons, List.foldl_nil]
theorem cst_le : ∀ (L : List En) (i : Nat), i ≤ L.length → ∀ k, (aget (cstM (L.take i)) k).getD 0 ≤ i
 | L, 0, _, k => by simp [cstM, aget]
 | L, i + 1, h, k => by
  have hx : L[i]? = some L[i] := List.getElem?_eq_getElem (by omega)
  have ih := cst_le L i (by omega)
  rw [cstM_snoc hx]
  unfold cst1 seeC
  split
  ·rw [aget_put]
   split
   ·have := ih (L[i].off, L[i].len); simp only [Option.getD_some]; omega
   ·have := ih k; omega
  ·have := ih k; omega
abbrev seenE (gm : Nat) (M : CtM) : Ent := mapS (fun c : Nat × Nat => ctV c) (fun n : Nat => iq (n : Nat)) gm M
theorem contents_fn (A : Option Addr) (c : Nat) (L : List En) (T : Heap) (hA : jH1 A L.length) (hT : 0 < L.length → T = roE A (jA1 L)) (hL : L.length ≤ 100000) (hE : jF2 L) :
  Fn Tryz.prog 64 [.slice A L.length c] T fun v _ => v = iq ((cstM L).length : Nat) := by
 refine Fn.enter (N := 33) Tryz.func64 rfl (by kernel_rfl) rfl (fun w0 => ?_)
 refine aR fun Z hZ => sA rfl rfl <| sN (hZ _ _ ?_)
 refine aF [(0, _)] (Kn.cons rfl (Kn.nil)) ?_
 refine aR (fun Z hZ => ?_)
 refine sx_makeMapS rfl (fun c : Nat × Nat => ctV c) (fun n : Nat => iq (n : Nat)) (fun gm => ?_)
 refine sA rfl rfl <| sN (hZ _ _ ?_)
 refine aF [(0, _), (3, _)] (kR rfl) ?_
 refine aS ?_
 refine aR fun Z hZ => sM rfl rfl ?_
 refine jD9 Tryz.underlying68 rfl rfl ?_
 refine sM rfl rfl <| sN (hZ _ _ ?_)
 refine aF [(3, _), (7, _), (8, _), (9, _)] (kR rfl) ?_
 refine aB ?_
 refine jB6 (ι := Nat) (fun i => [(3, .map (some gm)), (7, .slice A L.length c), (8, iq (L.length : Nat)), (9, iq (i : Nat))]) (fun i => seenE gm (cstM (L.take i)) :: T)
  (fun i => i ≤ L.length) (fun i => L.length - i) 0 (by simp) (kR rfl) (HLe.refl _) ?_
 rintro i hi
 refine aR (fun Z hZ => ?_)
 refine jC4 rfl rfl rfl ?_
 refine sN (hZ _ _ ?_)
 refine aF [(3, _), (7, _), (8, _), (9, _), (10, _)] (kR rfl) ?_
 refine aS (aC rfl (fun h1 => ?_) (fun h1 => ?_))
 ·have hlt : i < L.length := by simpa using h1
  obtain ⟨x, hx⟩ : ∃ x, L[i]? = some x := ⟨_, List.getElem?_eq_getElem hlt⟩
  have hxo := hE x (List.mem_of_getElem? hx)
  have hsn := cstM_snoc hx
  have hcl := cst_le L i (by omega) (x.off, x.len)
  obtain ⟨M, hM⟩ : ∃ M, cstM (L.take i) = M := ⟨_, rfl⟩
  rw [hM] at hsn hcl ⊢
  obtain ⟨g, o, rfl⟩ := hA (by omega)
  obtain rfl := hT (by omega)
  refine jA8 [seenE gm M, .ro g o (jA1 L)] (HLe.refl _) ?_
  refine aK ?_
  with_reducible refine nN ?_
  refine aS (aB ?_)
  refine aR (fun Z hZ => ?_)
  refine jA6 (o + i * 4) Tryz.underlying68 tyS114 rfl rfl (by omega) (by simp) rfl ?_
  refine jD5 1 rfl rfl (i * 4) rfl tyA114 tyS114 (ecells_all hx) rfl ?_
  refine sAl tyZ114 rfl (fun g1 => ?_)
  refine sS 0 rfl rfl rfl tyS114 (by simp only [Value.cells]; rfl) rfl rfl rfl (by simp only [qS, Nat.reduceAdd, wrV]; rfl) (by simp only [List.set_cons_zero]; rfl) ?_
  refine sN (hZ _ _ ?_)
  refine aF [(3, _), (5, _), (7, _), (8, _), (9, _)] (kR rfl) ?_
  refine jA7 [(3, .map (some gm)), (5, ptr g1 0), (7, .slice (some ⟨g, o, none⟩) L.length c), (8, iq (L.length : Nat)), (9, iq (i : Nat)), (19, .bool (decide (chkE x = 0 ∧ 0 < x.run)))] [.own g1 114 x.cells, seenE gm M, .ro g o (jA1 L)] (fun Z hZ => ?_) ?_
  ·refine sLA 0 rfl rfl tyA114 tyS114 rfl (by simp only [qS]; rfl) rfl ?_
   refine sCP (emay_fn x hxo) rfl rfl ?_
   refine sM rfl rfl ?_
   refine jG0 15 rfl (fun hb2 => ?_) (fun hb2 => ?_)
   ·refine sOn rfl rfl rfl ?_
    refine sFA rfl tyF114_3 (by simp only [Nat.zero_add]; rfl) rfl ?_
    refine sOn rfl rfl rfl ?_
    refine sL 0 rfl rfl tyA112 tyS112 rfl rfl ?_
    refine sOn rfl rfl rfl ?_
    refine jF3 rfl rfl rfl ?_
    refine sP rfl rfl rfl ?_
    refine sN (hZ _ _ ?_ ?_)
    ·exact Kn.cons rfl (Kn.cons rfl (Kn.cons rfl (Kn.cons rfl (Kn.cons rfl (Kn.cons (congrArg some (congrArg Value.bool (by first | (simp at *; done) | (simp at *; omega) | (simp at *; simp_all; done) | (simp at *; simp_all; omega)))) Kn.nil)))))
    ·exact HLe.refl _
   ·refine sO rfl rfl rfl rfl rfl ?_
    refine sO rfl rfl rfl rfl rfl ?_
    refine sO rfl rfl rfl rfl rfl ?_
    refine sP rfl rfl rfl ?_
    refine sN (hZ _ _ ?_ ?_)
    ·exact Kn.cons rfl (Kn.cons rfl (Kn.cons rfl (Kn.cons rfl (Kn.cons rfl (Kn.cons (congrArg some (congrArg Value.bool (by first | (simp at *; done) | (simp at *; omega) | (simp at *; simp_all; done) | (simp at *; simp_all; omega)))) Kn.nil)))))
    ·exact HLe.refl _
  refine aC rfl (fun h2 => ?_) (fun h2 => ?_)
  ·have hc : chkE x = 0 ∧ 0 < x.run := by simpa using h2
   have h3 : cst1 M x = aput M (x.off, x.len) ((aget M (x.off, x.len)).getD 0 + 1) := by unfold cst1 seeC; rw [if_pos hc]
   have hget : ((aget M (x.off, x.len)).map fun n : Nat => iq (n : Nat)).getD (iq (0 : Nat)) = iq ((aget M (x.off, x.len)).getD 0 : Nat) := by cases aget M (x.off, x.len) <;> rfl
   rw [h3] at hsn
   obtain ⟨n, hn⟩ : ∃ n, (aget M (x.off, x.len)).getD 0 = n := ⟨_, rfl⟩
   rw [hn] at hget hcl hsn
   refine awr_region (fun _ : Unit => [(3, .map (some gm)), (7, .slice (some ⟨g, o, none⟩) L.length c), (8, iq (L.length : Nat)), (9, iq (i : Nat))]) (fun _ => [seenE gm (aput M (x.off, x.len) (n + 1)), .ro g o (jA1 L)]) (fun _ => True) _ [6, 8, 10] (Tr.step (0, true) (Tr.step (1, true) (Tr.step (2, true) (Tr.step (3, true) (Tr.step (4, true) (Tr.step (5, true) (Tr.fork (Tr.step (6, false) (Tr.step (7, true) (Tr.step (8, false) (Tr.step (9, true) (Tr.step (10, false) Tr.nil))))) (Tr.step (8, false) (Tr.step (9, true) (Tr.step (6, false) (Tr.step (7, true) (Tr.step (10, false) Tr.nil)))))))))))) mixed (by kernel_rfl) (HLe.pick [0] (by simp) (by simp only [pick, List.filterMap_cons, qS]; rfl)) ?_ ?_
   ·refine tt_p rfl ?_
    refine jA3 rfl rfl ?_
    refine vN ?_
    refine tt_p rfl ?_
    refine jA2 rfl jH0 (by simp only [Nat.zero_add]; rfl) rfl ?_
    refine vN ?_
    refine tt_p rfl ?_
    first | refine jE6 0 rfl rfl tyA45 tyS45 rfl rfl ?_
    refine vN ?_
    refine tt_p rfl ?_
    refine jA2 rfl tyF114_2 (by simp only [Nat.zero_add]; rfl) rfl ?_
    refine vN ?_
    refine tt_p rfl ?_
    first | refine jE6 0 rfl rfl tyA112 tyS112 rfl rfl ?_
    refine vN ?_
    refine tt_p rfl ?_
    refine sv_build tyZ213 tyP213 rfl rfl (by simp only [qS, Nat.reduceAdd, Value.cells, wrV]; rfl) rfl ?_
    refine vN ?_
    refine tt_fork ?_ ?_
    ·refine tt_g rfl ?_
     refine sx_lookupS 1 keyC Tryz.underlying211 zeroI (x.off, x.len) (iq (n : Nat)) rfl rfl rfl hget rfl ?_
     refine sN ⟨HLe.pick [0] (by simp) rfl, ?_⟩
     refine tt_p rfl ?_
     refine sv_add rfl rfl ((n + 1 : Nat) : Int) (by rw [IntWalk.i64_in _ (by omega)]; omega) rfl ?_
     refine vN ?_
     refine tt_g rfl ?_
     refine sx_mapEntry 1 keyC Tryz.underlying211 zeroI (zv := 0) rfl (x.off, x.len) rfl rfl rfl rfl (fun M1 u1 M2 st hk1 hu1 hap => ?_)
     refine sN ⟨HLe.pick [0] (by simp) rfl, ?_⟩
     refine tt_p rfl ?_
     refine jG6 rfl rfl rfl ?_
     refine vN ?_
     refine tt_g rfl ?_
     refine sx_entryStore (v := n + 1) 1 rfl rfl rfl rfl rfl ?_
     refine sN ⟨HLe.pick [0] (by simp) rfl, ?_⟩
     refine tt_nil ?_
     rw [hap]
     exact ⟨(), trivial, kR rfl, HLe.drop 1 rfl⟩
    ·refine tt_g rfl ?_
     refine sx_mapEntry 1 keyC Tryz.underlying211 zeroI (zv := 0) rfl (x.off, x.len) rfl rfl rfl rfl (fun M1 u1 M2 st hk1 hu1 hap => ?_)
     refine sN ⟨HLe.pick [0] (by simp) rfl, ?_⟩
     refine tt_p rfl ?_
     refine jG6 rfl rfl rfl ?_
     refine vN ?_
     refine tt_g rfl ?_
     refine sx_lookupR 1 keyC Tryz.underlying211 zeroI (x.off, x.len) (iq (n : Nat)) rfl rfl rfl hk1 (hu1.trans hget) rfl ?_
     refine sN ⟨HLe.pick [0] (by simp) rfl, ?_⟩
     refine tt_p rfl ?_
     refine sv_add rfl rfl ((n + 1 : Nat) : Int) (by rw [IntWalk.i64_in _ (by omega)]; omega) rfl ?_
     refine vN ?_
     refine tt_g rfl ?_
     refine sx_entryStore (v := n + 1) 1 rfl rfl rfl rfl rfl ?_
     refine sN ⟨HLe.pick [0] (by simp) rfl, ?_⟩
     refine tt_nil ?_
     rw [hap]
     exact ⟨(), trivial, kR rfl, HLe.drop 1 rfl⟩
   rintro ⟨⟩ -
   repeat (with_reducible refine nBN ?_)
   with_reducible refine nN ?_
   refine aG (fun Z hZ => ?_)
   refine jB8 rfl rfl ((i + 1 : Nat) : Int) (by rw [IntWalk.i64_in _ (by omega)]; omega) rfl ?_
   refine sM rfl rfl <| sN (hZ _ _ ?_)
   refine nF [(3, _), (7, _), (8, _), (9, _)] (kR rfl) ?_
   exact jB5 (i + 1) hlt (by omega) (kR rfl) (by rw [hsn]; exact HLe.refl _)
  ·have hc : ¬ (chkE x = 0 ∧ 0 < x.run) := by simpa using h2
   have h3 : cst1 M x = M := by unfold cst1; rw [if_neg hc]
   rw [h3] at hsn
   refine aK ?_
   repeat (with_reducible refine nBN ?_)
   with_reducible refine nN ?_
   refine aG (fun Z hZ => ?_)
   refine jB8 rfl rfl ((i + 1 : Nat) : Int) (by rw [IntWalk.i64_in _ (by omega)]; omega) rfl ?_
   refine sM rfl rfl <| sN (hZ _ _ ?_)
   refine nF [(3, _), (7, _), (8, _), (9, _)] (kR rfl) ?_
   exact jB5 (i + 1) hlt (by omega) (kR rfl) (by rw [hsn]; exact HLe.drop 1 rfl)
 ·refine jB1 ?_
  repeat (with_reducible refine nTE ?_)
  with_reducible refine nBE ?_
  with_reducible refine nN ?_
  have hke : i = L.length := by simp at h1; omega
  subst hke
  rw [List.take_length]
  refine aR fun Z hZ => sM rfl rfl ?_
  refine sx_lenS2 0 Tryz.underlying211 rfl rfl rfl ?_
  refine sA rfl rfl <| sN (hZ _ _ ?_)
  refine aF [(2, _)] (Kn.cons rfl (Kn.nil)) ?_
  refine aE ?_
  exact nR1 rfl rfl rfl
end Go.Proofs.YtkojkeabelckjaaGreatDoor.V
end

section
set_option linter.all false
namespace Go.Proofs.YtkojkeabelckjaaGreatDoor.V
open Go.RowKit
theorem chk_mk {e : En} (h1 : e.len ≠ 0) (h2 : e.id + e.wide ≤ 6004799503160661) (h3 : e.off + e.len ≤ 1099511627776) : chkE e = 0 := by
 have hw : 1 ≤ e.wide := by unfold En.wide; omega
 have hn : e.next = e.off + e.len := by unfold En.next; omega
 unfold chkE
 rw [if_neg h1, if_neg (by omega), if_neg (by omega)]
theorem last_is {e : En} (h : chkE e = 0) (hr : 0 < e.run) : lastE e = e.id + e.run - 1 := by
 unfold lastE En.wide
 rw [if_pos h]
 omega
theorem fdQ_app : ∀ (ts r : List Tx) (o : Nat) (t : Tx), t ∈ ts → fdQ o (ts ++ r) t = fdQ o ts t
 | [], _, _, _, h => by cases h
 | x :: q, r, o, t, h => by
  rw [List.cons_append, fdQ, fdQ]
  split
  ·rfl
  ·rename_i hne
   rcases List.mem_cons.1 h with e | h
   ·exact absurd e.symm hne
   ·exact fdQ_app q r _ t h
theorem addC_app {ts : List Tx} (r : List Tx) {t : Tx} (h : t ∈ ts) : addC (ts ++ r) t = addC ts t := by
 unfold addC
 rw [fdQ_app ts r 0 t h]
 cases hf : fdQ 0 ts t with
 | none => exact absurd h ((fdQ_none ts 0 t).1 hf)
 | some c => rfl
theorem addC_mem {ts : List Tx} (hn : ts.Nodup) {t : Tx} (h : t ∈ ts) : (ts.flatten.drop (addC ts t).1).take (addC ts t).2 = t ∧ (addC ts t).1 + (addC ts t).2 ≤ ts.flatten.length ∧ (addC ts t).2 = t.length := by
 obtain ⟨k, hk, hkt⟩ := List.getElem_of_mem h
 have hg : ts[k]? = some t := by rw [List.getElem?_eq_getElem hk, hkt]
 obtain ⟨h1, h2⟩ := flat_at ts k t hg
 have hc : addC ts t = ((ts.take k).flatten.length, t.length) := by unfold addC; rw [fdQ_at ts 0 k t hn hg, Nat.zero_add]; rfl
 rw [hc]
 exact ⟨h2, h1, rfl⟩
theorem addT_mem (ts : List Tx) (s : Tx) : s ∈ addT ts s := by
 unfold addT
 split
 ·assumption
 ·simp
theorem addT_sub {ts : List Tx} (s : Tx) {t : Tx} (h : t ∈ ts) : t ∈ addT ts s := by
 unfold addT
 split
 ·exact h
 ·exact List.mem_append_left _ h
theorem addC_addT {ts : List Tx} (hn : ts.Nodup) (s : Tx) : addC (addT ts s) s = addC ts s := by
 unfold addT
 split
 ·rfl
 ·rename_i hm
  have hn2 : (ts ++ [s]).Nodup := List.nodup_append.2 ⟨hn, by simp, fun a ha b hb => by rw [List.mem_singleton.1 hb]; exact fun e => hm (e ▸ ha)⟩
  have h1 : addC ts s = (ts.flatten.length, s.length) := by unfold addC; rw [(fdQ_none ts 0 s).2 hm]; rfl
  have h2 : addC (ts ++ [s]) s = (ts.flatten.length, s.length) := by
   unfold addC
   rw [fdQ_at (ts ++ [s]) 0 ts.length s hn2 (by simp), Nat.zero_add]
   simp
  rw [h1, h2]
def tsS (C : List It) : List Tx := C.foldl (fun ts x => addT ts x.tx) []
theorem tsS_pre : ∀ (Q : List It) (ts : List Tx), ∃ r, Q.foldl (fun ts x => addT ts x.tx) ts = ts ++ r
 | [], ts => ⟨[], by simp⟩
 | x :: q, ts => by
  obtain ⟨r, hr⟩ := tsS_pre q (addT ts x.tx)
  rw [List.foldl_cons, hr]
  unfold addT
  split
  ·exact ⟨r, rfl⟩
  ·exact ⟨[x.tx] ++ r, by rw [List.append_assoc]⟩
theorem tsS_snoc {C : List It} {k : Nat} {x : It} (h : C[k]? = some x) : tsS (C.take (k + 1)) = addT (tsS (C.take k)) x.tx := by
 obtain ⟨hlt, rfl⟩ := List.getElem?_eq_some_iff.1 h
 unfold tsS
 rw [List.take_succ_eq_append_getElem hlt, List.foldl_append, List.foldl_cons, List.foldl_nil]
theorem tsS_take (C : List It) (k : Nat) : ∃ r, tsS C = tsS (C.take k) ++ r := by
 have h : tsS C = (C.drop k).foldl (fun ts x => addT ts x.tx) (tsS (C.take k)) := by
  unfold tsS
  rw [← List.foldl_append, List.take_append_drop]
 rw [h]
 exact tsS_pre _ _
theorem tsS_ok {C : List It} (h : ∀ x ∈ C, x.tx ≠ []) : ∀ k, k ≤ C.length → TsOk (tsS (C.take k)) ∧ ∀ t, t ∈ tsS (C.take k) ↔ ∃ x ∈ C.take k, x.tx = t
 | 0, _ => ⟨⟨List.nodup_nil, fun t ht => by cases ht⟩, fun t => by simp [tsS]⟩
 | k + 1, hk => by
  have hx : C[k]? = some C[k] := List.getElem?_eq_getElem (by omega)
  obtain ⟨h1, h2⟩ := tsS_ok h k (by omega)
  rw [tsS_snoc hx]
  refine ⟨addT_ok h1 (h _ (List.getElem_mem _)), fun t => ?_⟩
  rw [List.take_succ_eq_append_getElem (by omega)]
  constructor
  ·intro ht
   unfold addT at ht
   split at ht
   ·obtain ⟨x, hx, he⟩ := (h2 t).1 ht
    exact ⟨x, List.mem_append_left _ hx, he⟩
   ·rcases List.mem_append.1 ht with ht | ht
    ·obtain ⟨x, hx, he⟩ := (h2 t).1 ht
     exact ⟨x, List.mem_append_left _ hx, he⟩
    ·exact ⟨C[k], List.mem_append_right _ (List.mem_singleton.2 rfl), (List.mem_singleton.1 ht).symm⟩
  ·rintro ⟨x, hx2, rfl⟩
   rcases List.mem_append.1 hx2 with hx2 | hx2
   ·exact addT_sub _ ((h2 x.tx).2 ⟨x, hx2, rfl⟩)
   ·rw [List.mem_singleton.1 hx2]; exact addT_mem _ _
def unitsQ (C : List It) : List En := C.map (enOf (tsS C))
theorem rows_eq {C : List It} (h : ∀ x ∈ C, x.tx ≠ []) : ∀ k, k ≤ C.length → rowsS (C.take k) = (((C.take k).map (enOf (tsS C))).foldl put1 [], tsS (C.take k))
 | 0, _ => by simp [rowsS, tsS]
 | k + 1, hk => by
  have hx : C[k]? = some C[k] := List.getElem?_eq_getElem (by omega)
  obtain ⟨h1, h2⟩ := tsS_ok h k (by omega)
  have hen : enOf (tsS (C.take k)) C[k] = enOf (tsS C) C[k] := by
   obtain ⟨r, hr⟩ := tsS_take C (k + 1)
   unfold enOf
   rw [hr, addC_app r (by rw [tsS_snoc hx]; exact addT_mem _ _), tsS_snoc hx, addC_addT h1.nd]
  rw [rows_snoc hx, rows_eq h k (by omega), tsS_snoc hx]
  unfold rwS
  simp only
  rw [hen, List.take_succ_eq_append_getElem (by omega), List.map_append, List.foldl_append]
  rfl
theorem rows_is {C : List It} (h : ∀ x ∈ C, x.tx ≠ []) : rowsS C = ((unitsQ C).foldl put1 [], tsS C) := by
 have := rows_eq h C.length (Nat.le_refl _)
 rw [List.take_length] at this
 exact this
end Go.Proofs.YtkojkeabelckjaaGreatDoor.V
end
