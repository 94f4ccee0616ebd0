/- Entries that tell of a chart are not fewer than its own, nor their contents: plain laws. -/
import Derived.Test.YtffahimbmpddpaaMp4
namespace Go.Proofs.Ytffahimbmpddpaa.V
open Go.RowKit
set_option linter.unusedVariables false
set_option linter.unusedSimpArgs false
def blkU (id n : Nat) (c : Nat × Nat) : List En := (List.range n).map fun k => ⟨id + k, c.1, c.2, 1⟩
theorem blkU_succ (id n : Nat) (c : Nat × Nat) : blkU id (n + 1) c = blkU id n c ++ [⟨id + n, c.1, c.2, 1⟩] := by simp [blkU, List.range_succ]
theorem put1_len (G : List En) (u : En) : (put1 G u).length ≤ G.length + 1 := by
  unfold put1
  split
  · split
    · rw [List.length_set]; omega
    · simp
  · simp
theorem put1_last {us G : List En} (h : GrOk us G) {u : En} (hu : UnOk u) (hr : ∀ v ∈ us, v.id < u.id) (hl : us.length < 4294967295) : ∃ X a, put1 G u = X ++ [a] ∧ lastE a = u.id ∧ a.off = u.off ∧ a.len = u.len := by
  have hst := h.step hu hr hl
  have hlu : lastE u = u.id := by
    have := last_is hu.chk (by rw [hu.run]; exact Nat.one_pos)
    rw [hu.run] at this
    omega
  by_cases h0 : G = []
  · subst h0
    exact ⟨[], u, rfl, hlu, rfl, rfl⟩
  · obtain ⟨X, a, rfl⟩ := list_snoc G h0
    rw [put1_snoc] at hst ⊢
    by_cases ho : oneQ a u = true
    · rw [if_pos ho] at hst ⊢
      obtain ⟨o1, o2, o3⟩ := of_decide_eq_true ho
      obtain ⟨h1, h2, h3⟩ := hst.ok { a with run := a.run + 1 } (by simp)
      have h4 := last_is h2 h1
      obtain ⟨g1, g2, g3⟩ := h.ok a (by simp)
      have h5 := last_is g2 g1
      refine ⟨X, _, rfl, ?_, o2.symm, o3.symm⟩
      rw [h4]
      show a.id + (a.run + 1) - 1 = u.id
      omega
    · rw [if_neg ho]
      exact ⟨X ++ [a], u, rfl, hlu, rfl, rfl⟩
theorem blk_len (id : Nat) (c : Nat × Nat) : ∀ (n : Nat) (G us0 : List En), GrOk us0 G → (∀ u ∈ blkU id n c, UnOk u) → (us0 ++ blkU id n c).Pairwise (fun a b => a.id < b.id) → (us0 ++ blkU id n c).length < 4294967295 →
    ((blkU id n c).foldl put1 G).length ≤ G.length + 1 ∧ (0 < n → ∃ X a, (blkU id n c).foldl put1 G = X ++ [a] ∧ lastE a = id + n - 1 ∧ a.off = c.1 ∧ a.len = c.2)
  | 0, G, us0, _, _, _, _ => ⟨by simp [blkU], fun h => absurd h (by omega)⟩
  | n + 1, G, us0, h, hu, hp, hl => by
    rw [blkU_succ] at hu hp hl ⊢
    rw [← List.append_assoc] at hp hl
    have hp0 := (List.pairwise_append.1 hp).1
    have hl0 : (us0 ++ blkU id n c).length < 4294967295 := by rw [List.length_append] at hl; omega
    have hu0 : ∀ u ∈ blkU id n c, UnOk u := fun u hm => hu u (List.mem_append_left _ hm)
    obtain ⟨h1, h2⟩ := blk_len id c n G us0 h hu0 hp0 hl0
    have hgr := gr_fold (blkU id n c) G us0 h hu0 hp0 hl0
    have hun := hu ⟨id + n, c.1, c.2, 1⟩ (by simp)
    have hlt : ∀ v ∈ us0 ++ blkU id n c, v.id < (⟨id + n, c.1, c.2, 1⟩ : En).id := fun v hv => (List.pairwise_append.1 hp).2.2 v hv _ (by simp)
    rw [List.foldl_append, List.foldl_cons, List.foldl_nil]
    obtain ⟨X, a, hX, k1, k2, k3⟩ := put1_last hgr hun hlt hl0
    refine ⟨?_, fun _ => ⟨X, a, hX, by rw [k1]; show id + n = id + (n + 1) - 1; omega, k2, k3⟩⟩
    rcases Nat.eq_zero_or_pos n with hn | hn
    · subst hn
      exact Nat.le_trans (put1_len _ _) (by simp [blkU])
    · obtain ⟨Y, b, hY, b1, b2, b3⟩ := h2 hn
      rw [hY] at h1 ⊢
      rw [put1_snoc, if_pos]
      · simpa using h1
      · exact decide_eq_true ⟨by rw [b1]; show id + n = id + n - 1 + 1; omega, b2.symm, b3.symm⟩
abbrev Blk := Nat × Nat × (Nat × Nat)
theorem blks_len : ∀ (L : List Blk) (G us0 : List En), GrOk us0 G → (∀ u ∈ L.flatMap (fun b => blkU b.1 b.2.1 b.2.2), UnOk u) → (us0 ++ L.flatMap (fun b => blkU b.1 b.2.1 b.2.2)).Pairwise (fun a b => a.id < b.id) → (us0 ++ L.flatMap (fun b => blkU b.1 b.2.1 b.2.2)).length < 4294967295 →
    ((L.flatMap (fun b => blkU b.1 b.2.1 b.2.2)).foldl put1 G).length ≤ G.length + L.length
  | [], G, us0, _, _, _, _ => by simp
  | b :: r, G, us0, h, hu, hp, hl => by
    rw [List.flatMap_cons] at hu hp hl ⊢
    rw [← List.append_assoc] at hp hl
    have hp0 := (List.pairwise_append.1 hp).1
    have hl0 : (us0 ++ blkU b.1 b.2.1 b.2.2).length < 4294967295 := by rw [List.length_append] at hl; omega
    have hu0 : ∀ u ∈ blkU b.1 b.2.1 b.2.2, UnOk u := fun u hm => hu u (List.mem_append_left _ hm)
    have h1 := (blk_len b.1 b.2.2 b.2.1 G us0 h hu0 hp0 hl0).1
    have hgr := gr_fold _ G us0 h hu0 hp0 hl0
    have h2 := blks_len r _ _ hgr (fun u hm => hu u (List.mem_append_right _ hm)) hp hl
    rw [List.foldl_append, List.length_cons]
    omega
theorem mbR_inv (D : List UInt8) : ∀ (L : List En) (many : Nat) (out O : List It), mbR D many out L = (0, O) → O = out ++ L.flatMap (fun e => itsOf e D) ∧ ∀ e ∈ L, 0 < e.run ∧ e.off + e.len ≤ D.length
  | [], many, out, O, h => by
    rw [mbR] at h
    injection h with _ h
    exact ⟨by simp [h], fun e he => by cases he⟩
  | a :: r, many, out, O, h => by
    rw [mbR] at h
    split at h
    · rename_i hw
      obtain ⟨w1, w2, w3, w4⟩ := mwr_zero hw
      obtain ⟨h1, h2⟩ := mbR_inv D r _ _ O h
      refine ⟨by rw [h1, List.flatMap_cons, List.append_assoc], fun e he => ?_⟩
      rcases List.mem_cons.1 he with rfl | he
      · exact ⟨by omega, w2⟩
      · exact h2 e he
    · rename_i hw
      injection h with h _
      exact absurd h hw
theorem units_ok {C : List It} (h : ChOk C) : (∀ u ∈ unitsQ C, UnOk u) ∧ (unitsQ C).Pairwise (fun a b => a.id < b.id) ∧ (unitsQ C).length < 4294967295 := by
  have hne : ∀ x ∈ C, x.tx ≠ [] := fun x hx => (h.tx x hx).1
  have hrs := rows_ok h C.length (Nat.le_refl _)
  rw [List.take_length] at hrs
  have hlen := h.len
  obtain ⟨h1, h2⟩ := tsS_ok hne C.length (Nat.le_refl _)
  rw [List.take_length] at h1 h2
  have hfl := hrs.fl
  rw [rows_is hne] at hfl
  refine ⟨fun u hu => ?_, List.pairwise_map.2 h.rise, by rw [unitsQ, List.length_map]; omega⟩
  obtain ⟨x, hx, rfl⟩ := List.mem_map.1 hu
  obtain ⟨x1, x2⟩ := h.tx x hx
  have x3 := h.lt x hx
  obtain ⟨c1, c2, c3⟩ := addC_mem h1.nd ((h2 x.tx).2 ⟨x, hx, rfl⟩)
  have hpos := List.length_pos_iff.2 x1
  simp only at hfl
  exact ⟨rfl, chk_mk (by show (addC (tsS C) x.tx).2 ≠ 0; omega) (by show x.id + max 1 1 ≤ _; omega) (by show (addC (tsS C) x.tx).1 + (addC (tsS C) x.tx).2 ≤ _; omega), by show x.id < _; omega, by show (addC (tsS C) x.tx).1 < _; omega, by show (addC (tsS C) x.tx).2 < _; omega, by show 1 < _; omega⟩
theorem tsS_fl : ∀ (C : List It) (ts : List Tx), (C.foldl (fun ts x => addT ts x.tx) ts).flatten.length ≤ ts.flatten.length + cBytes C
  | [], ts => by simp [cBytes]
  | x :: r, ts => by
    rw [List.foldl_cons]
    have h1 := tsS_fl r (addT ts x.tx)
    have h2 := (addT_fl ts x.tx).2
    have h3 : cBytes (x :: r) = x.tx.length + cBytes r := by simp [cBytes]
    omega
theorem cst_no : ∀ (L : List En) (M : CtM), (L.foldl cst1 M).length ≤ M.length + L.length
  | [], M => Nat.le_refl _
  | a :: r, M => by
    rw [List.foldl_cons, List.length_cons]
    have h1 := cst_no r (cst1 M a)
    have h2 : (cst1 M a).length ≤ M.length + 1 := by
      unfold cst1 seeC
      split
      · by_cases hk : (a.off, a.len) ∈ akeys M
        · rw [length_put_in _ hk]; omega
        · rw [length_put_out _ hk]; exact Nat.le_refl _
      · omega
    omega
theorem flat_all (n : Nat) : ∀ ts : List Tx, (∀ t ∈ ts, t.length ≤ n) → ts.flatten.length ≤ ts.length * n
  | [], _ => Nat.zero_le _
  | t :: r, h => by
    have h1 := flat_all n r (fun x hx => h x (List.mem_cons_of_mem _ hx))
    have h2 := h t List.mem_cons_self
    rw [List.flatten_cons, List.length_append, List.length_cons, Nat.add_mul]
    omega
/-- What is known of a chart that entries tell of. -/
structure FewOk (L : List En) (D : List UInt8) (C : List It) : Prop where
  no : (rowsS C).1.length ≤ L.length
  all : (rowsS C).2.flatten.length ≤ cBytes C
  cts : (cstM (rowsS C).1).length ≤ (cstM L).length
  cnt : cntQ L = C.length
  dl : (rowsS C).2.flatten.length ≤ L.length * D.length
theorem few_ok {L : List En} (hE : EnsOk L) {D : List UInt8} {C : List It} (h : mbQ L D = (0, C)) : FewOk L D C := by
  have hok := mb_ok hE D
  rw [h] at hok
  simp only at hok
  have hwh := wh_ok hok
  have hne : ∀ x ∈ C, x.tx ≠ [] := fun x hx => (hok.tx x hx).1
  unfold mbQ at h
  split at h
  · rename_i hr
    have hq : rowQ 0 L = 0 := by
      unfold rowC at hr
      split at hr
      · cases hr
      · exact hr
    have hc := mrowQ_at L 0 hq
    obtain ⟨h1, h2⟩ := mbR_inv D L 0 [] C h
    rw [List.nil_append] at h1
    obtain ⟨u1, u2, u3⟩ := units_ok hok
    have hun : unitsQ C = (L.map (fun e => ((e.id, e.run, addC (tsS C) (txOf e D)) : Blk))).flatMap (fun b => blkU b.1 b.2.1 b.2.2) := by
      rw [List.flatMap_map]
      unfold unitsQ
      conv => lhs; arg 2; rw [h1]
      rw [List.map_flatMap]
      congr 1
      funext e
      unfold itsOf blkU
      rw [List.map_map]
      rfl
    have hrs : (rowsS C).1 = (unitsQ C).foldl put1 [] := by rw [rows_is hne]
    have hcts : (cstM (rowsS C).1).length ≤ (cstM L).length := by
      rw [hwh.cts]
      obtain ⟨k1, k2⟩ := cst_keys L [] List.nodup_nil
      rw [← cst_len L]
      have := len_le_sub (tsS C) ((akeys (cstM L)).map fun k => (D.drop k.1).take k.2) hwh.ts.nd (fun t ht => by
        obtain ⟨x, hx, rfl⟩ := (hwh.tm t).1 ht
        rw [h1] at hx
        obtain ⟨e, he, hx⟩ := List.mem_flatMap.1 hx
        obtain ⟨k, _, rfl⟩ := List.mem_map.1 hx
        exact List.mem_map.2 ⟨(e.off, e.len), (k2 _).2 (.inr ⟨e, he, ⟨hc e he, (h2 e he).1⟩, rfl⟩), rfl⟩)
      rwa [List.length_map] at this
    refine ⟨?_, ?_, hcts, ?_, ?_⟩
    · rw [hrs]
      rw [hun] at u1 u2 u3 ⊢
      have := blks_len _ [] [] GrOk.nil u1 (by rw [List.nil_append]; exact u2) (by rw [List.nil_append]; exact u3)
      simpa using this
    · rw [rows_is hne]
      have := tsS_fl C []
      simpa [tsS] using this
    · have := cnt_gr L 0 hc
      unfold cntQ
      rw [this, Nat.zero_add, h1, its_all]
      simp
    · rw [rows_is hne]
      have h3 := cst_no L []
      have h4 := flat_all D.length (tsS C) (fun t ht => by
        obtain ⟨x, hx, rfl⟩ := (hwh.tm t).1 ht
        rw [h1] at hx
        obtain ⟨e, he, hx⟩ := List.mem_flatMap.1 hx
        obtain ⟨k, _, rfl⟩ := List.mem_map.1 hx
        show (txOf e D).length ≤ _
        unfold txOf
        rw [List.length_take, List.length_drop]
        omega)
      have h5 : (tsS C).length ≤ L.length := by rw [hwh.cts] at hcts; unfold cstM at hcts; simp only [List.length_nil, Nat.zero_add] at h3; omega
      exact Nat.le_trans h4 (Nat.mul_le_mul_right _ h5)
  · rename_i hr
    injection h with h _
    exact absurd h hr
end Go.Proofs.Ytffahimbmpddpaa.V
