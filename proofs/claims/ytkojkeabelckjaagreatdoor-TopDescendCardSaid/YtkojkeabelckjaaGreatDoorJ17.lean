/- Walks and plain laws for this claim (texts Mp2, Mp3, Mp4, Mp6, Gdr1, joined). Each theorem states its own conditions. -/
import Derived.Test.YtkojkeabelckjaaGreatDoorJ16
import Derived.Test.YtkojkeabelckjaaGreatDoorJ11

set_option linter.all false
namespace Go.Proofs.YtkojkeabelckjaaGreatDoor.V
open Go.RowKit
def expE (e : En) : List En := (List.range e.run).map fun k => { e with id := e.id + k, run := 1 }
theorem expE_len (e : En) : (expE e).length = e.run := by simp [expE]
theorem expE_mem {e u : En} : u ∈ expE e ↔ ∃ k, k < e.run ∧ u = { e with id := e.id + k, run := 1 } := by
  unfold expE
  rw [List.mem_map]
  exact ⟨fun ⟨k, hk, h⟩ => ⟨k, List.mem_range.1 hk, h.symm⟩, fun ⟨k, hk, h⟩ => ⟨k, List.mem_range.2 hk, h.symm⟩⟩
structure UnOk (u : En) : Prop where
  run : u.run = 1
  chk : chkE u = 0
  ok : u.ok
structure GrOk (us G : List En) : Prop where
  ex : G.flatMap expE = us
  ok : ∀ e ∈ G, 0 < e.run ∧ chkE e = 0 ∧ e.ok
  sep : ∀ i a b, G[i]? = some a → G[i + 1]? = some b → lastE a < b.id ∧ oneQ a b = false
theorem list_snoc {α : Type} (G : List α) (h : G ≠ []) : ∃ X a, G = X ++ [a] := ⟨G.dropLast, G.getLast h, (List.dropLast_concat_getLast h).symm⟩
theorem put1_snoc (X : List En) (a u : En) : put1 (X ++ [a]) u = if oneQ a u then X ++ [{ a with run := a.run + 1 }] else X ++ [a] ++ [u] := by
  have hl : (X ++ [a]).length - 1 = X.length := by simp
  have hg : (X ++ [a])[(X ++ [a]).length - 1]? = some a := by rw [hl]; simp
  rw [put1_some hg, hl]
  split
  · rw [List.set_append_right _ _ (Nat.le_refl _), Nat.sub_self]; rfl
  · rfl
theorem GrOk.step {us G : List En} (h : GrOk us G) {u : En} (hu : UnOk u) (hr : ∀ v ∈ us, v.id < u.id) (hl : us.length < 4294967295) : GrOk (us ++ [u]) (put1 G u) := by
  have hux : expE u = [u] := by
    unfold expE
    rw [hu.run]
    have : ({ u with id := u.id + 0, run := 1 } : En) = u := by
      obtain ⟨a, b, c, d⟩ := u
      have := hu.run
      simp only at this
      subst this
      rfl
    simpa using this
  by_cases h0 : G = []
  · subst h0
    have : us = [] := h.ex.symm
    subst this
    refine ⟨by show [u].flatMap expE = _; simp [hux], fun e he => ?_, fun i a b h1 h2 => ?_⟩
    · rw [show e = u from List.mem_singleton.1 he]
      exact ⟨by rw [hu.run]; exact Nat.one_pos, hu.chk, hu.ok⟩
    · simp [put1] at h2
  · obtain ⟨X, a, rfl⟩ := list_snoc G h0
    obtain ⟨ha1, ha2, ha3⟩ := h.ok a (by simp)
    have hex := h.ex
    rw [List.flatMap_append] at hex
    have hexa : [a].flatMap expE = expE a := by simp
    rw [hexa] at hex
    have hal : a.run ≤ us.length := by rw [← hex, List.length_append, expE_len]; omega
    have hla := last_is ha2 ha1
    have hlt : lastE a < u.id := by
      have hm : ({ a with id := a.id + (a.run - 1), run := 1 } : En) ∈ us := by
        rw [← hex]
        exact List.mem_append_right _ (expE_mem.2 ⟨a.run - 1, by omega, rfl⟩)
      have := hr _ hm
      simp only at this
      omega
    rw [put1_snoc]
    split
    · rename_i hone
      obtain ⟨o1, o2, o3⟩ := of_decide_eq_true hone
      obtain ⟨c1, c2, c3, c4⟩ := chk_ok ha3 ha2
      obtain ⟨d1, d2, d3, d4⟩ := chk_ok hu.ok hu.chk
      obtain ⟨k1, k2, k3, k4⟩ := ha3
      have hwu : u.wide = 1 := by unfold En.wide; rw [hu.run]; rfl
      have hsame : ({ a with id := a.id + a.run, run := 1 } : En) = u := by
        obtain ⟨p, q, r, s⟩ := u
        have := hu.run
        simp only at this o1 o2 o3 ⊢
        subst this; subst o2; subst o3
        congr 1
        omega
      refine ⟨?_, fun e he => ?_, fun i x y h1 h2 => ?_⟩
      · rw [List.flatMap_append, ← hex, List.append_assoc]
        congr 1
        show [({ a with run := a.run + 1 } : En)].flatMap expE = _
        simp only [List.flatMap_cons, List.flatMap_nil, List.append_nil]
        unfold expE
        rw [List.range_succ, List.map_append]
        simp only [List.map_cons, List.map_nil]
        rw [hsame]
      · rcases List.mem_append.1 he with he | he
        · exact h.ok e (List.mem_append_left _ he)
        · rw [List.mem_singleton.1 he]
          have hn : a.next = a.off + a.len := by unfold En.next; omega
          exact ⟨Nat.succ_pos _, chk_mk c1 (by show a.id + max 1 (a.run + 1) ≤ _; omega) (by show a.off + a.len ≤ _; omega), k1, k2, k3, by show a.run + 1 < _; omega⟩
      · have hil : i + 1 < (X ++ [({ a with run := a.run + 1 } : En)]).length := (List.getElem?_eq_some_iff.1 h2).1
        rw [List.length_append, List.length_singleton] at hil
        have hx : X[i]? = some x := by rwa [List.getElem?_append_left (by omega)] at h1
        rcases Nat.lt_or_ge (i + 1) X.length with hlt2 | hge
        · rw [List.getElem?_append_left hlt2] at h2
          exact h.sep i x y (by rw [List.getElem?_append_left (by omega)]; exact hx) (by rw [List.getElem?_append_left hlt2]; exact h2)
        · have hi : i + 1 = X.length := by omega
          have hs := h.sep i x a (by rw [List.getElem?_append_left (by omega)]; exact hx) (by rw [hi]; simp)
          rw [hi] at h2
          simp only [List.getElem?_concat_length, Option.some.injEq] at h2
          subst h2
          exact ⟨hs.1, hs.2⟩
    · rename_i hone
      refine ⟨?_, fun e he => ?_, fun i x y h1 h2 => ?_⟩
      · rw [List.flatMap_append, List.flatMap_append, hexa, hex]
        simp [hux]
      · rcases List.mem_append.1 he with he | he
        · exact h.ok e he
        · rw [List.mem_singleton.1 he]
          exact ⟨by rw [hu.run]; exact Nat.one_pos, hu.chk, hu.ok⟩
      · have hil : i + 1 < (X ++ [a] ++ [u]).length := (List.getElem?_eq_some_iff.1 h2).1
        rw [List.length_append, List.length_append, List.length_singleton, List.length_singleton] at hil
        rcases Nat.lt_or_ge (i + 1) (X ++ [a]).length with hlt2 | hge
        · rw [List.getElem?_append_left hlt2] at h2
          rw [List.getElem?_append_left (by omega)] at h1
          exact h.sep i x y h1 h2
        · have hi : i + 1 = (X ++ [a]).length := by rw [List.length_append, List.length_singleton] at hge ⊢; omega
          rw [hi] at h2
          simp only [List.getElem?_concat_length, Option.some.injEq] at h2
          subst h2
          have hi2 : i = X.length := by simpa using hi
          rw [List.getElem?_append_left (by omega), hi2] at h1
          simp only [List.getElem?_concat_length, Option.some.injEq] at h1
          subst h1
          exact ⟨hlt, by simpa using hone⟩
theorem GrOk.nil : GrOk [] [] := ⟨rfl, fun e he => absurd he (by simp), fun i a b h1 => absurd h1 (by simp)⟩
theorem gr_fold : ∀ (us G0 us0 : List En), GrOk us0 G0 → (∀ u ∈ us, UnOk u) → (us0 ++ us).Pairwise (fun a b => a.id < b.id) → (us0 ++ us).length < 4294967295 → GrOk (us0 ++ us) (us.foldl put1 G0)
  | [], G0, us0, h, _, _, _ => by simpa using h
  | u :: r, G0, us0, h, hu, hp, hl => by
    have hr : ∀ v ∈ us0, v.id < u.id := fun v hv => (List.pairwise_append.1 hp).2.2 v hv u List.mem_cons_self
    have h1 := h.step (hu u List.mem_cons_self) hr (by rw [List.length_append] at hl; omega)
    have := gr_fold r (put1 G0 u) (us0 ++ [u]) h1 (fun v hv => hu v (List.mem_cons_of_mem _ hv)) (by rw [List.append_assoc]; exact hp) (by rw [List.append_assoc]; exact hl)
    rw [List.append_assoc] at this
    exact this
theorem len_le_sub {α : Type} [DecidableEq α] : ∀ (L M : List α), L.Nodup → (∀ x ∈ L, x ∈ M) → L.length ≤ M.length
  | [], _, _, _ => Nat.zero_le _
  | a :: r, M, hn, h => by
    have ha := h a List.mem_cons_self
    have hr := List.nodup_cons.1 hn
    have := len_le_sub r (M.erase a) hr.2 (fun x hx => (List.mem_erase_of_ne (fun (e : x = a) => hr.1 (by rw [← e]; exact hx))).2 (h x (List.mem_cons_of_mem _ hx)))
    rw [List.length_erase_of_mem ha] at this
    have hp := List.length_pos_of_mem ha
    rw [List.length_cons]
    omega
theorem sep_tail {a : En} {r : List En} (h : ∀ i x y, (a :: r)[i]? = some x → (a :: r)[i + 1]? = some y → lastE x < y.id ∧ oneQ x y = false) : ∀ i x y, r[i]? = some x → r[i + 1]? = some y → lastE x < y.id ∧ oneQ x y = false :=
  fun i x y h1 h2 => h (i + 1) x y (by rwa [List.getElem?_cons_succ]) (by rwa [List.getElem?_cons_succ])
theorem rowQ_gr : ∀ (G : List En) (free : Nat), (∀ e ∈ G, 0 < e.run ∧ chkE e = 0 ∧ e.ok) → (∀ i x y, G[i]? = some x → G[i + 1]? = some y → lastE x < y.id ∧ oneQ x y = false) → (∀ x, G[0]? = some x → free ≤ x.id) → rowQ free G = 0
  | [], _, _, _, _ => rfl
  | a :: r, free, h1, h2, h3 => by
    have ha := h3 a rfl
    rw [rowQ, if_pos (h1 a List.mem_cons_self).2.1, if_neg (by omega)]
    exact rowQ_gr r _ (fun e he => h1 e (List.mem_cons_of_mem _ he)) (sep_tail h2) (fun x hx => (h2 0 a x rfl (by rwa [List.getElem?_cons_succ])).1)
theorem akeys_put (M : CtM) (k k' : Nat × Nat) (v : Nat) : k' ∈ jD1 (aput M k v) ↔ k' = k ∨ k' ∈ jD1 M := by
  have h1 := aget_none (M := aput M k v) (k := k')
  have h2 := aget_none (M := M) (k := k')
  rw [aget_put] at h1
  by_cases h : k = k'
  · rw [if_pos h] at h1
    have : k' ∈ jD1 (aput M k v) := Classical.byContradiction fun hn => by have := h1.2 hn; cases this
    exact ⟨fun _ => .inl h.symm, fun _ => this⟩
  · rw [if_neg h, h2] at h1
    constructor
    · intro hm
      exact .inr (Classical.byContradiction fun hn => h1.1 hn hm)
    · rintro (e | hm)
      · exact absurd e.symm h
      · exact Classical.byContradiction fun hn => h1.2 hn hm
theorem cst_keys : ∀ (L : List En) (M : CtM), (jD1 M).Nodup → (jD1 (L.foldl cst1 M)).Nodup ∧ ∀ k, k ∈ jD1 (L.foldl cst1 M) ↔ k ∈ jD1 M ∨ ∃ e ∈ L, (chkE e = 0 ∧ 0 < e.run) ∧ (e.off, e.len) = k
  | [], M, h => ⟨h, fun k => by simp⟩
  | a :: r, M, h => by
    rw [List.foldl_cons]
    unfold cst1
    split
    · rename_i hc
      obtain ⟨h1, h2⟩ := cst_keys r (seeC M (a.off, a.len)) (nodup_put h _ _)
      refine ⟨h1, fun k => ?_⟩
      have := h2 k
      unfold cst1 at this
      rw [this]
      unfold seeC
      rw [akeys_put]
      constructor
      · rintro ((e | h) | ⟨e, he, h⟩)
        · exact .inr ⟨a, List.mem_cons_self, hc, e.symm⟩
        · exact .inl h
        · exact .inr ⟨e, List.mem_cons_of_mem _ he, h⟩
      · rintro (h | ⟨e, he, h⟩)
        · exact .inl (.inr h)
        · rcases List.mem_cons.1 he with rfl | he
          · exact .inl (.inl h.2.symm)
          · exact .inr ⟨e, he, h⟩
    · rename_i hc
      obtain ⟨h1, h2⟩ := cst_keys r M h
      refine ⟨h1, fun k => ?_⟩
      have := h2 k
      unfold cst1 at this
      rw [this]
      constructor
      · rintro (h | ⟨e, he, h⟩)
        · exact .inl h
        · exact .inr ⟨e, List.mem_cons_of_mem _ he, h⟩
      · rintro (h | ⟨e, he, h⟩)
        · exact .inl h
        · rcases List.mem_cons.1 he with rfl | he
          · exact absurd h.1 hc
          · exact .inr ⟨e, he, h⟩
theorem cst_len (L : List En) : (jD1 (cstM L)).length = (cstM L).length := by simp [jD1]
theorem its_exp (e : En) (D : List UInt8) : itsOf e D = (expE e).map fun u => ⟨u.id, txOf u D⟩ := by
  unfold itsOf expE
  rw [List.map_map]
  rfl
theorem its_all (D : List UInt8) : ∀ L : List En, L.flatMap (fun e => itsOf e D) = (L.flatMap expE).map fun u => ⟨u.id, txOf u D⟩
  | [] => rfl
  | a :: r => by rw [List.flatMap_cons, List.flatMap_cons, List.map_append, its_all D r, its_exp]
theorem mbR_gr (D : List UInt8) : ∀ (L : List En) (many : Nat) (out : List It), (∀ e ∈ L, 0 < e.run ∧ e.off + e.len ≤ D.length ∧ e.len ≤ 65536) → many + (L.flatMap expE).length ≤ 2048 → mbR D many out L = (0, out ++ L.flatMap fun e => itsOf e D)
  | [], _, out, _, _ => by rw [mbR]; simp
  | a :: r, many, out, h, hm => by
    obtain ⟨h1, h2, h3⟩ := h a List.mem_cons_self
    rw [List.flatMap_cons, List.length_append, expE_len] at hm
    have hw : mwrQ a (many + a.run) D = 0 := by
      unfold mwrQ
      rw [if_neg (by omega), if_neg (by omega), if_neg (by omega), if_neg (by omega)]
    rw [mbR, if_pos hw, mbR_gr D r _ _ (fun e he => h e (List.mem_cons_of_mem _ he)) (by omega), List.flatMap_cons, List.append_assoc]
structure WhOk (C : List It) (R : List En) (D : List UInt8) : Prop where
  eq : rowsS C = (R, tsS C)
  fl : (tsS C).flatten = D
  ts : TsOk (tsS C)
  tm : ∀ t, t ∈ tsS C ↔ ∃ x ∈ C, x.tx = t
  gr : GrOk (unitsQ C) R
  no : R.length ≤ 2048
  dl : D.length ≤ 134217728
theorem wh_ok {C : List It} (h : ChOk C) : WhOk C (rowsS C).1 (rowsS C).2.flatten := by
  have hne : ∀ x ∈ C, x.tx ≠ [] := fun x hx => (h.tx x hx).1
  have hr := rows_is hne
  have hrs := rows_ok h C.length (Nat.le_refl _)
  rw [List.take_length] at hrs
  have hlen := h.len
  obtain ⟨h1, h2⟩ := tsS_ok hne C.length (Nat.le_refl _)
  rw [List.take_length] at h1 h2
  have h22 : (rowsS C).2 = tsS C := by rw [hr]
  have hfl := hrs.fl
  have hno := hrs.no
  refine ⟨by rw [hr], by rw [h22], h1, h2, ?_, by omega, by omega⟩
  rw [hr]
  rw [h22] at hfl
  have := gr_fold (unitsQ C) [] [] GrOk.nil (fun u hu => ?_) ?_ ?_
  · simpa using this
  · obtain ⟨x, hx, rfl⟩ := List.mem_map.1 hu
    obtain ⟨x1, x2⟩ := h.tx x hx
    have x3 := h.lt x hx
    obtain ⟨c1, c2, c3⟩ := addC_mem h1.nd ((h2 x.tx).2 ⟨x, hx, rfl⟩)
    have hpos := List.length_pos_iff.2 x1
    refine ⟨rfl, chk_mk (by show (addC (tsS C) x.tx).2 ≠ 0; omega) (by show x.id + max 1 1 ≤ _; omega) (by show (addC (tsS C) x.tx).1 + (addC (tsS C) x.tx).2 ≤ _; omega), by show x.id < _; omega, by show (addC (tsS C) x.tx).1 < _; omega, by show (addC (tsS C) x.tx).2 < _; omega, by show 1 < _; omega⟩
  · rw [List.nil_append]
    exact List.pairwise_map.2 h.rise
  · simp only [List.nil_append, unitsQ, List.length_map]
    omega
section
variable {C : List It} {R : List En} {D : List UInt8}
theorem WhOk.ent (h : WhOk C R D) {e : En} (he : e ∈ R) : ∃ x ∈ C, (addC (tsS C) x.tx).1 = e.off ∧ (addC (tsS C) x.tx).2 = e.len ∧ x.id = e.id := by
  have hr := (h.gr.ok e he).1
  have hu : ({ e with id := e.id + 0, run := 1 } : En) ∈ unitsQ C := by
    rw [← h.gr.ex]
    exact List.mem_flatMap.2 ⟨e, he, expE_mem.2 ⟨0, hr, rfl⟩⟩
  obtain ⟨x, hx, hxe⟩ := List.mem_map.1 hu
  refine ⟨x, hx, congrArg En.off hxe, congrArg En.len hxe, ?_⟩
  have := congrArg En.id hxe
  simpa [enOf] using this
theorem WhOk.pos (h : WhOk C R D) {x : It} (hx : x ∈ C) : (D.drop (addC (tsS C) x.tx).1).take (addC (tsS C) x.tx).2 = x.tx ∧ (addC (tsS C) x.tx).1 + (addC (tsS C) x.tx).2 ≤ D.length ∧ (addC (tsS C) x.tx).2 = x.tx.length := by
  have := addC_mem h.ts.nd ((h.tm x.tx).2 ⟨x, hx, rfl⟩)
  rwa [h.fl] at this
theorem WhOk.ens (h : WhOk C R D) : jD6 R := fun e he => (h.gr.ok e he).2.2
theorem WhOk.exl (h : WhOk C R D) : (R.flatMap expE).length = C.length := by rw [h.gr.ex]; simp [unitsQ]
theorem WhOk.row (h : WhOk C R D) : rowC R = 0 := by
  unfold rowC
  have := h.no
  rw [if_neg (by omega)]
  exact rowQ_gr R 0 h.gr.ok h.gr.sep (fun _ _ => Nat.zero_le _)
theorem WhOk.nxt (h : WhOk C R D) {e : En} (he : e ∈ R) : e.off + e.len ≤ D.length ∧ e.next = e.off + e.len := by
  obtain ⟨x, hx, h1, h2, _⟩ := h.ent he
  have h3 := (h.pos hx).2.1
  have h4 := h.dl
  rw [h1, h2] at h3
  exact ⟨h3, by unfold En.next; omega⟩
theorem WhOk.back (h : WhOk C R D) (hok : ChOk C) : mbQ R D = (0, C) := by
  unfold mbQ
  rw [if_pos h.row]
  have hl := hok.len
  rw [mbR_gr D R 0 [] (fun e he => by
    obtain ⟨x, hx, h1, h2, _⟩ := h.ent he
    have h3 := (h.pos hx).2.2
    have h4 := (hok.tx x hx).2
    exact ⟨(h.gr.ok e he).1, (h.nxt he).1, by omega⟩) (by rw [h.exl]; omega), its_all, h.gr.ex, List.nil_append]
  congr 1
  unfold unitsQ
  rw [List.map_map]
  have : ∀ x ∈ C, ((fun u : En => (⟨u.id, txOf u D⟩ : It)) ∘ enOf (tsS C)) x = x := fun x hx => by
    show (⟨x.id, (D.drop (addC (tsS C) x.tx).1).take (addC (tsS C) x.tx).2⟩ : It) = x
    rw [(h.pos hx).1]
  rw [List.map_congr_left this, List.map_id']
end
theorem tsS_fl6 : ∀ (C : List It) (ts : List Tx), (C.foldl (fun ts x => addT ts x.tx) ts).flatten.length ≤ ts.flatten.length + cBytes C
  | [], ts => by simp [cBytes]
  | x :: r, ts => by
    rw [List.foldl_cons]
    have h1 := tsS_fl6 r (addT ts x.tx)
    have h2 := (addT_fl ts x.tx).2
    have h3 : cBytes (x :: r) = x.tx.length + cBytes r := by simp [cBytes]
    omega
def zeroEn : En := ⟨0, 0, 0, 0⟩
def jH1 (L : List En) (i : Nat) : En := if i = 0 then zeroEn else L.getD (i - 1) zeroEn
def atE (L : List En) (i : Nat) : En := L.getD i zeroEn
def numQ (c i : Nat) (a e : En) : Nat :=
  if c = 0 then (e.id + 18446744073709551616 - a.id) % 18446744073709551616 else if c = 1 then e.run else if c = 2 then e.len
  else if 0 < i ∧ e.off = a.next then 0 else (e.off + 1) % 18446744073709551616
def colQ (L : List En) (c : Nat) : List Nat := (List.range L.length).map fun i => numQ c i (jH1 L i) (atE L i)
def jD3 (L : List En) : List Nat := L.length :: (colQ L 0 ++ (colQ L 1 ++ (colQ L 2 ++ colQ L 3)))
theorem zero_ok : zeroEn.ok := ⟨by decide, by decide, by decide, by decide⟩
theorem atE_ok {L : List En} (h : jD6 L) (i : Nat) : (atE L i).ok := by
  unfold atE
  rcases Nat.lt_or_ge i L.length with hl | hl
  · rw [List.getD_eq_getElem?_getD, List.getElem?_eq_getElem hl]; exact h _ (List.getElem_mem _)
  · rw [List.getD_eq_getElem?_getD, List.getElem?_eq_none hl]; exact zero_ok
theorem prevE_ok {L : List En} (h : jD6 L) (i : Nat) : (jH1 L i).ok := by
  unfold jH1
  split
  · exact zero_ok
  · exact atE_ok h (i - 1)
theorem atE_at {L : List En} {i : Nat} (h : i < L.length) : L[i]? = some (atE L i) := by simp [atE, h]
theorem prevE_succ (L : List En) (i : Nat) : jH1 L (i + 1) = atE L i := by simp [jH1, atE]
theorem numQ_lt {c i : Nat} {a e : En} (h : e.ok) : numQ c i a e < 18446744073709551616 := by
  obtain ⟨h1, h2, h3, h4⟩ := h
  unfold numQ
  split
  · omega
  split
  · omega
  split
  · omega
  split <;> omega
theorem colQ_len (L : List En) (c : Nat) : (colQ L c).length = L.length := by simp [colQ]
theorem numsQ_len (L : List En) : (jD3 L).length = 1 + 4 * L.length := by simp [jD3, colQ_len]; omega
theorem colQ_at {L : List En} {c i : Nat} (h : i < L.length) : (colQ L c)[i]? = some (numQ c i (jH1 L i) (atE L i)) := by simp [colQ, h]
theorem numsQ_at {L : List En} {c i : Nat} (hc : c < 4) (h : i < L.length) : (jD3 L)[1 + c * L.length + i]? = some (numQ c i (jH1 L i) (atE L i)) := by
  have key : ∀ c, (colQ L c).length = L.length := colQ_len L
  unfold jD3
  rw [show 1 + c * L.length + i = (c * L.length + i) + 1 by omega, List.getElem?_cons_succ]
  match c, hc with
  | 0, _ => rw [List.getElem?_append_left (by rw [key]; omega), Nat.zero_mul, Nat.zero_add]; exact colQ_at h
  | 1, _ =>
    rw [List.getElem?_append_right (by rw [key]; omega), key, List.getElem?_append_left (by rw [key]; omega)]
    rw [show 1 * L.length + i - L.length = i by omega]; exact colQ_at h
  | 2, _ =>
    rw [List.getElem?_append_right (by rw [key]; omega), key, List.getElem?_append_right (by rw [key]; omega), key, List.getElem?_append_left (by rw [key]; omega)]
    rw [show 2 * L.length + i - L.length - L.length = i by omega]; exact colQ_at h
  | 3, _ =>
    rw [List.getElem?_append_right (by rw [key]; omega), key, List.getElem?_append_right (by rw [key]; omega), key, List.getElem?_append_right (by rw [key]; omega), key]
    rw [show 3 * L.length + i - L.length - L.length - L.length = i by omega]; exact colQ_at h
theorem numsQ_lt {L : List En} (h : jD6 L) (hl : L.length < 18446744073709551616) : ∀ x ∈ jD3 L, x < 18446744073709551616 := fun x hx => by
  have hcol : ∀ c, x ∈ colQ L c → x < 18446744073709551616 := fun c hc => by
    obtain ⟨i, _, rfl⟩ := List.mem_map.1 hc
    exact numQ_lt (atE_ok h i)
  simp only [jD3, List.mem_cons, List.mem_append] at hx
  rcases hx with rfl | hx | hx | hx | hx
  · exact hl
  · exact hcol _ hx
  · exact hcol _ hx
  · exact hcol _ hx
  · exact hcol _ hx
theorem dnext_fn (e : En) (h : e.ok) : Fn Tryz.prog 144 [e.val] [] fun v _ => v = uq e.next := by
  obtain ⟨h1, h2, h3, h4⟩ := h
  refine Fn.enter (N := 9) Tryz.func144 rfl (by kernel_rfl) rfl (fun w0 => ?_)
  refine aR (fun Z hZ => ?_)
  refine jA5 rfl rfl rfl (fun g1 => ?_)
  refine sA rfl rfl <| sN (hZ _ _ ?_)
  refine aF [(1, _)] (Kn.cons rfl (Kn.nil)) ?_
  refine aR (fun Z hZ => ?_)
  refine sFA rfl jF6 (by simp only [Nat.zero_add]; rfl) rfl ?_
  first | refine sL 0 rfl rfl tyA45 tyS45 rfl rfl ?_
  refine sFA rfl tyF114_2 (by simp only [Nat.zero_add]; rfl) rfl ?_
  first | refine sL 0 rfl rfl tyA112 tyS112 rfl rfl ?_
  refine jA6 Tryz.underlying112 Tryz.underlying45 rfl ((e.len : Nat) : Int) (by rw [IntWalk.u64_in _ (by omega)]) rfl ?_
  refine jA7 rfl rfl ((e.next : Nat) : Int) (by rw [← Int.natCast_add, u64_w]; rfl) rfl ?_
  refine sA rfl rfl <| sN (hZ _ _ ?_)
  refine aF [(2, _)] (Kn.cons rfl (Kn.nil)) ?_
  refine aE ?_
  exact nR1 rfl rfl rfl
theorem u64_sub {a b : Nat} (ha : a < 18446744073709551616) (hb : b < 18446744073709551616) : IntKind.u64.wrap ((a : Int) - (b : Int)) = (((a + 18446744073709551616 - b) % 18446744073709551616 : Nat) : Int) := by
  have : IntKind.u64.wrap ((a : Int) - (b : Int)) = ((a : Int) - b) % 18446744073709551616 := by simp [IntKind.wrap, IntKind.bits, IntKind.signed]
  rw [this]
  omega
theorem dnumber_fn (c i : Nat) (a e : En) (hc : c < 4) (hi : i ≤ 1000000) (ha : a.ok) (he : e.ok) : Fn Tryz.prog 98 [iq c, iq i, a.val, e.val] [] fun v _ => v = uq (numQ c i a e) := by
  have hao := ha
  have heo := he
  obtain ⟨a1, a2, a3, a4⟩ := ha
  obtain ⟨e1, e2, e3, e4⟩ := he
  have hn : a.next < 18446744073709551616 := by simp only [En.next]; omega
  refine Fn.enter (N := 42) Tryz.func98 rfl (by kernel_rfl) rfl (fun w0 => ?_)
  refine aR (fun Z hZ => ?_)
  refine jA5 rfl rfl rfl (fun g1 => ?_)
  refine jA5 rfl rfl rfl (fun g2 => ?_)
  refine sA rfl rfl <| sN (hZ _ _ ?_)
  refine aF [(0, _), (1, _), (6, _), (7, _)] (Kn.cons rfl (Kn.cons rfl (Kn.cons rfl (Kn.cons rfl (Kn.nil))))) ?_
  refine aS (aB ?_)
  refine aR fun Z hZ => sM rfl rfl ?_
  refine jD7 rfl rfl rfl ?_
  refine sA rfl rfl <| sN (hZ _ _ ?_)
  refine aF [(0, _), (1, _), (6, _), (7, _), (9, _)] (Kn.cons rfl (Kn.cons rfl (Kn.cons rfl (Kn.cons rfl (Kn.cons rfl (Kn.nil)))))) ?_
  refine aC rfl (fun h => ?_) (fun h => ?_)
  · have h0 : c = 0 := by simp at h; omega
    rw [show numQ c i a e = (e.id + 18446744073709551616 - a.id) % 18446744073709551616 by unfold numQ; rw [if_pos h0]]
    refine aR (fun Z hZ => ?_)
    refine sFA rfl tyF114_0 (by simp only [Nat.add_zero]; rfl) rfl ?_
    refine sL 0 rfl rfl tyA45 tyS45 rfl rfl ?_
    refine sFA rfl tyF114_0 (by simp only [Nat.add_zero]; rfl) rfl ?_
    refine sL 1 rfl rfl tyA45 tyS45 rfl rfl ?_
    refine jG4 rfl rfl _ (u64_sub e1 a1) rfl ?_
    refine sA rfl rfl <| sN (hZ _ _ ?_)
    refine aF [(8, _)] (Kn.cons rfl (Kn.nil)) ?_
    refine aE ?_
    repeat (with_reducible (first | refine nTR ?_ | refine nBR ?_))
    exact nR1 rfl rfl rfl
  have h0 : c ≠ 0 := by simp at h; omega
  refine aR fun Z hZ => sM rfl rfl ?_
  refine jD7 rfl rfl rfl ?_
  refine sA rfl rfl <| sN (hZ _ _ ?_)
  refine aF [(0, _), (1, _), (6, _), (7, _), (17, _)] (Kn.cons rfl (Kn.cons rfl (Kn.cons rfl (Kn.cons rfl (Kn.cons rfl (Kn.nil)))))) ?_
  refine aC rfl (fun h1 => ?_) (fun h1 => ?_)
  · have h1' : c = 1 := by simp at h1; omega
    rw [show numQ c i a e = e.run by unfold numQ; rw [if_neg h0, if_pos h1']]
    refine aR (fun Z hZ => ?_)
    refine sFA rfl tyF114_3 (by simp only [Nat.zero_add]; rfl) rfl ?_
    refine sL 0 rfl rfl tyA112 tyS112 rfl rfl ?_
    refine jA6 Tryz.underlying112 Tryz.underlying45 rfl ((e.run : Nat) : Int) (by rw [IntWalk.u64_in _ (by omega)]) rfl ?_
    refine sA rfl rfl <| sN (hZ _ _ ?_)
    refine aF [(8, _)] (Kn.cons rfl (Kn.nil)) ?_
    refine aE ?_
    repeat (with_reducible (first | refine nTR ?_ | refine nBR ?_))
    exact nR1 rfl rfl rfl
  have h1' : c ≠ 1 := by simp at h1; omega
  refine aR fun Z hZ => sM rfl rfl ?_
  refine jD7 rfl rfl rfl ?_
  refine sA rfl rfl <| sN (hZ _ _ ?_)
  refine aF [(1, _), (6, _), (7, _), (23, _)] (Kn.cons rfl (Kn.cons rfl (Kn.cons rfl (Kn.cons rfl (Kn.nil))))) ?_
  refine aC rfl (fun h2 => ?_) (fun h2 => ?_)
  · have h2' : c = 2 := by simp at h2; omega
    rw [show numQ c i a e = e.len by unfold numQ; rw [if_neg h0, if_neg h1', if_pos h2']]
    refine aR (fun Z hZ => ?_)
    refine sFA rfl tyF114_2 (by simp only [Nat.zero_add]; rfl) rfl ?_
    refine sL 0 rfl rfl tyA112 tyS112 rfl rfl ?_
    refine jA6 Tryz.underlying112 Tryz.underlying45 rfl ((e.len : Nat) : Int) (by rw [IntWalk.u64_in _ (by omega)]) rfl ?_
    refine sA rfl rfl <| sN (hZ _ _ ?_)
    refine aF [(8, _)] (Kn.cons rfl (Kn.nil)) ?_
    refine aE ?_
    repeat (with_reducible (first | refine nTR ?_ | refine nBR ?_))
    exact nR1 rfl rfl rfl
  have h2' : c ≠ 2 := by simp at h2; omega
  refine jD5 [(7, ptr g2 0), (29, .bool (decide (0 < i ∧ e.off = a.next)))] [.own g2 114 e.cells, .own g1 114 a.cells] mixed (by kernel_rfl) (fun Z hZ => ?_) ?_
  · refine qM rfl rfl ?_
    refine sq_gtr rfl rfl rfl ?_
    refine qM rfl rfl ?_
    refine jH6 32 rfl (fun hb2 => ?_) (fun hb2 => ?_)
    · refine jA4 rfl rfl rfl ?_
      refine qFA rfl jF6 (by simp only [Nat.zero_add]; rfl) rfl ?_
      refine jA4 rfl rfl rfl ?_
      refine jA2 0 rfl rfl tyA45 tyS45 rfl rfl ?_
      refine jA4 rfl rfl rfl ?_
      refine sq_loadA 1 rfl rfl tyA114 tyS114 rfl (by simp only [List.take_succ_cons, List.take_zero, List.drop_zero, Value.cells]; rfl) rfl ?_
      refine jA4 rfl rfl rfl ?_
      refine jH7 (dnext_fn a hao) rfl rfl ?_
      refine jA4 rfl rfl rfl ?_
      refine sq_eql rfl rfl rfl ?_
      refine jC5 rfl rfl rfl ?_
      refine jA3 rfl rfl ?_
      refine jD0 (hZ _ _ ?_ ?_)
      · exact Kn.cons rfl (Kn.cons (congrArg some (congrArg Value.bool (by simp at hb2; rw [Bool.eq_iff_iff]; simp; omega))) Kn.nil)
      · exact HLe.refl _
    · refine qO rfl rfl rfl rfl rfl ?_
      refine qO rfl rfl rfl rfl rfl ?_
      refine qO rfl rfl rfl rfl rfl ?_
      refine qO rfl rfl rfl rfl rfl ?_
      refine qO rfl rfl rfl rfl rfl ?_
      refine jC5 rfl rfl rfl ?_
      refine jA3 rfl rfl ?_
      refine jD0 (hZ _ _ ?_ ?_)
      · exact Kn.cons rfl (Kn.cons (congrArg some (congrArg Value.bool (by simp at hb2; rw [Bool.eq_iff_iff]; simp; omega))) Kn.nil)
      · exact HLe.refl _
  refine aC rfl (fun h3 => ?_) (fun h3 => ?_)
  · have h3' : 0 < i ∧ e.off = a.next := by simpa using h3
    rw [show numQ c i a e = 0 by unfold numQ; rw [if_neg h0, if_neg h1', if_neg h2', if_pos h3']]
    refine aR fun Z hZ => sA rfl rfl <| sN (hZ _ _ ?_)
    refine aF [(8, _)] (Kn.cons rfl (Kn.nil)) ?_
    refine aE ?_
    repeat (with_reducible (first | refine nTR ?_ | refine nBR ?_))
    exact nR1 rfl rfl rfl
  have h3' : ¬ (0 < i ∧ e.off = a.next) := by simpa using h3
  rw [show numQ c i a e = (e.off + 1) % 18446744073709551616 by unfold numQ; rw [if_neg h0, if_neg h1', if_neg h2', if_neg h3']]
  refine aK ?_
  repeat (with_reducible refine nBN ?_)
  with_reducible refine nN ?_
  refine aR (fun Z hZ => ?_)
  refine sFA rfl jF6 (by simp only [Nat.zero_add]; rfl) rfl ?_
  refine sL 0 rfl rfl tyA45 tyS45 rfl rfl ?_
  refine jA7 rfl rfl (((e.off + 1) % 18446744073709551616 : Nat) : Int) (by rw [show (e.off : Int) + 1 = ((e.off + 1 : Nat) : Int) by omega, u64_w]) rfl ?_
  refine sA rfl rfl <| sN (hZ _ _ ?_)
  refine aF [(8, _)] (Kn.cons rfl (Kn.nil)) ?_
  refine aE ?_
  exact nR1 rfl rfl rfl
end Go.Proofs.YtkojkeabelckjaaGreatDoor.V
namespace Go.Proofs.YtkojkeabelckjaaGreatDoor.V
open Go.RowKit
theorem wrs_flt {T K A : Heap} (h : Wrs T) : HLe T (A ++ (T.filter Ent.wr ++ K)) := by
  rw [h.filter]
  exact HLe.sub ((List.sublist_append_left T K).trans (List.sublist_append_right A _))
theorem numbers_fn (A : Option Addr) (n c : Nat) : Fn Tryz.prog 57 [.slice A n c] [] fun v H' => ∃ g, v = .func (.func 97) #[] #[ptr g 0] ∧ H' = [.own g 68 [.slice A n c]] := by
  refine Fn.enter (N := 4) Tryz.func57 rfl (by kernel_rfl) rfl (fun w0 => ?_)
  refine aR (fun Z hZ => ?_)
  refine jA5 rfl rfl rfl (fun g1 => ?_)
  refine sA rfl rfl <| sN (hZ _ _ ?_)
  refine aF [(1, _)] (Kn.cons rfl (Kn.nil)) ?_
  refine aR (fun Z hZ => ?_)
  refine sx_makeFunc rfl rfl ?_
  refine sA rfl rfl <| sN (hZ _ _ ?_)
  refine aF [(2, _)] (Kn.cons rfl (Kn.nil)) ?_
  refine aE ?_
  exact nR1 rfl rfl ⟨g1, rfl, rfl⟩
theorem numbers_it (g : Nat) (A : Option Addr) (cp : Nat) (L : List En) (T : Heap) (hA : ArgOk A L.length) (hT : 0 < L.length → T = roE A (jA0 L)) (hL : L.length ≤ 100000) (hE : jD6 L) :
    Iter Tryz.prog 97 [ptr g 0] (.ro g 0 [.slice A L.length cp] :: T) ((jD3 L).map fun x => [uq x]) := by
  intro l J Jr S hJ hS hJr hY T0 hT0
  have hlen : ((jD3 L).map fun x => [uq x]).length = 1 + 4 * L.length := by rw [List.length_map, numsQ_len]
  rw [hlen]
  have hitem : ∀ k x, (jD3 L)[k]? = some x → ((jD3 L).map fun x => [uq x])[k]? = some [uq x] := fun k x h => by rw [List.getElem?_map, h]; rfl
  refine Fn.enter (N := 34) Tryz.func97 rfl (by kernel_rfl) rfl (fun w0 => ?_)
  refine jB5 (.ro g 0 [.slice A L.length cp] :: (T ++ (T0 ++ Jr))) (HLe.refl _) ?_
  refine aS ?_
  refine awy_seq_region (fun Z hZ => ?_)
  refine sy_x rfl ?_
  refine sM rfl rfl ?_
  refine sN ?_
  refine sy_x rfl ?_
  refine jF0 0 rfl rfl 0 rfl tyA68 tyS68 rfl rfl ?_
  refine sN ?_
  refine sy_x rfl ?_
  refine jE7 Tryz.underlying68 rfl rfl ?_
  refine sN ?_
  refine sy_x rfl ?_
  refine jA6 Tryz.underlying3 Tryz.underlying45 rfl ((L.length : Nat) : Int) (by rw [IntWalk.u64_in _ (by omega)]) rfl ?_
  refine sN ?_
  refine sy_yield (.ro g 0 [.slice A L.length cp] :: T) T0 Jr Jr (hY 0 [uq L.length] T0 (hitem 0 _ rfl) hT0) rfl rfl rfl (List.Sublist.refl _) hJr rfl ?_
  rintro v T1 ⟨b, rfl, hb1, hb2⟩
  refine sy_x rfl ?_
  refine sx_not rfl rfl ?_
  refine sN ?_
  refine sy_nil (hZ _ _ ?_)
  refine aF [(0, _), (1, _), (12, _)] (Kn.cons rfl (Kn.cons rfl (Kn.cons rfl (Kn.nil)))) ?_
  refine aC rfl (fun h => ?_) (fun h => ?_)
  · have hb : b = false := by simpa using h
    refine aE ?_
    repeat (with_reducible refine nTR ?_)
    exact nx_ret0h T1 rfl (wrs_flt (A := _ :: T) (hS T1 (hb2 hb))) (.inr (hb2 hb))
  have hb : b = true := by simpa using h
  have hT1 := hb1 hb
  rw [(hJ _ T1 hT1).filter]
  refine aK ?_
  with_reducible refine nN ?_
  refine aR fun Z hZ => sM rfl rfl <| sN (hZ _ _ ?_)
  refine aF [(0, _), (1, _), (13, _)] (Kn.cons rfl (Kn.cons rfl (Kn.cons rfl (Kn.nil)))) ?_
  refine aB ?_
  refine jC2 (ι := Nat × Heap) (fun i => [(0, .func (.yield l) #[] #[]), (1, ptr g 0), (13, iq (i.1 : Nat))]) (fun i => .ro g 0 [.slice A L.length cp] :: (T ++ (i.2 ++ Jr)))
    (fun i => i.1 ≤ 4 ∧ J (1 + i.1 * L.length) i.2) (fun i => 4 - i.1) (0, T1) ⟨by simp, by simpa using hT1⟩ (Kn.cons rfl (Kn.cons rfl (Kn.cons rfl Kn.nil))) (HLe.refl _) ?_
  rintro ⟨c, T2⟩ ⟨hc, hT2⟩
  simp only at hc hT2
  refine aR (fun Z hZ => ?_)
  refine jC3 rfl rfl rfl ?_
  refine sN (hZ _ _ ?_)
  refine aF [(0, _), (1, _), (13, _), (14, _)] (Kn.cons rfl (Kn.cons rfl (Kn.cons rfl (Kn.cons rfl (Kn.nil))))) ?_
  refine aS (aC rfl (fun h => ?_) (fun h => ?_))
  · have hc4 : c < 4 := by simp at h; omega
    refine aK ?_
    with_reducible refine nN ?_
    refine aS (aB ?_)
    refine aR fun Z hZ => sM rfl rfl <| sA rfl rfl <| sN (hZ _ _ ?_)
    refine aF [(0, _), (1, _), (3, _), (13, _)] (Kn.cons rfl (Kn.cons rfl (Kn.cons rfl (Kn.cons rfl (Kn.nil))))) ?_
    refine aR (fun Z hZ => ?_)
    refine sAl tyZ114 rfl (fun g1 => ?_)
    refine sN (hZ _ _ ?_)
    refine aF [(0, _), (1, _), (3, _), (4, _), (13, _)] (Kn.cons rfl (Kn.cons rfl (Kn.cons rfl (Kn.cons rfl (Kn.cons rfl (Kn.nil)))))) ?_
    refine aR (fun Z hZ => ?_)
    refine jF0 1 rfl rfl 0 rfl tyA68 tyS68 rfl rfl ?_
    refine jE7 Tryz.underlying68 rfl rfl ?_
    refine sM rfl rfl <| sN (hZ _ _ ?_)
    refine aF [(0, _), (1, _), (3, _), (4, _), (13, _), (16, _), (17, _), (18, _)] (Kn.cons rfl (Kn.cons rfl (Kn.cons rfl (Kn.cons rfl (Kn.cons rfl (Kn.cons rfl (Kn.cons rfl (Kn.cons rfl (Kn.nil))))))))) ?_
    refine aB ?_
    refine jC2 (ι := Nat × Heap) (fun i => [(0, .func (.yield l) #[] #[]), (1, ptr g 0), (3, iq (c : Nat)), (4, ptr g1 0), (13, iq (c : Nat)), (16, .slice A L.length cp), (17, iq (L.length : Nat)), (18, iq (i.1 : Nat))]) (fun i => .own g1 114 (jH1 L i.1).cells :: .ro g 0 [.slice A L.length cp] :: (T ++ (i.2 ++ Jr)))
      (fun i => i.1 ≤ L.length ∧ J (1 + c * L.length + i.1) i.2) (fun i => L.length - i.1) (0, T2) ⟨by simp, by simpa using hT2⟩ (Kn.cons rfl (Kn.cons rfl (Kn.cons rfl (Kn.cons rfl (Kn.cons rfl (Kn.cons rfl (Kn.cons rfl (Kn.cons rfl Kn.nil)))))))) (HLe.refl _) ?_
    rintro ⟨i, T3⟩ ⟨hi, hT3⟩
    simp only at hi hT3
    refine aR (fun Z hZ => ?_)
    refine jC3 rfl rfl rfl ?_
    refine sN (hZ _ _ ?_)
    refine aF [(0, _), (1, _), (3, _), (4, _), (13, _), (16, _), (17, _), (18, _), (19, _)] (Kn.cons rfl (Kn.cons rfl (Kn.cons rfl (Kn.cons rfl (Kn.cons rfl (Kn.cons rfl (Kn.cons rfl (Kn.cons rfl (Kn.cons rfl (Kn.nil)))))))))) ?_
    refine aS (aC rfl (fun hh => ?_) (fun hh => ?_))
    · have hlt : i < L.length := by simpa using hh
      have hx := atE_at hlt
      have hxo := atE_ok hE i
      have hpo := prevE_ok hE i
      obtain ⟨ga, o, rfl⟩ := hA (by omega)
      obtain rfl := hT (by omega)
      refine jB5 (.own g1 114 (jH1 L i).cells :: .ro g 0 [.slice (some ⟨ga, o, none⟩) L.length cp] :: .ro ga o (jA0 L) :: (T3 ++ Jr)) (HLe.refl _) ?_
      refine aK ?_
      with_reducible refine nN ?_
      refine aS (aB ?_)
      refine aR fun Z hZ => sM rfl rfl ?_
      refine jB9 (o + i * 4) Tryz.underlying68 tyS114 rfl rfl (by omega) (by simp) rfl ?_
      refine jF0 2 rfl rfl (i * 4) rfl tyA114 tyS114 (ecells_all hx) rfl ?_
      refine sAl tyZ114 rfl (fun g2 => ?_)
      refine sA rfl rfl ?_
      refine sS 0 rfl rfl rfl tyS114 (by simp only [Value.cells]; rfl) rfl rfl rfl (by simp only [List.take_zero, List.drop_succ_cons, List.drop_zero, List.nil_append, List.append_nil, List.length_cons, List.length_nil, Nat.reduceAdd, Nat.zero_add, wrV]; rfl) (by simp only [List.set_cons_zero]; rfl) ?_
      refine sN (hZ _ _ ?_)
      refine aF [(0, _), (1, _), (3, _), (4, _), (5, _), (6, _), (13, _), (16, _), (17, _), (18, _)] (Kn.cons rfl (Kn.cons rfl (Kn.cons rfl (Kn.cons rfl (Kn.cons rfl (Kn.cons rfl (Kn.cons rfl (Kn.cons rfl (Kn.cons rfl (Kn.cons rfl (Kn.nil))))))))))) ?_
      refine aS ?_
      refine awy_seq_region (fun Z hZ => ?_)
      refine sy_x rfl ?_
      refine sM rfl rfl ?_
      refine sN ?_
      refine sy_x rfl ?_
      refine sM rfl rfl ?_
      refine sN ?_
      refine sy_x rfl ?_
      refine sM rfl rfl ?_
      refine sN ?_
      refine sy_x rfl ?_
      refine sLA 1 rfl rfl tyA114 tyS114 rfl (by simp only [List.take_succ_cons, List.take_zero, List.drop_zero]; rfl) rfl ?_
      refine sN ?_
      refine sy_x rfl ?_
      refine sLA 0 rfl rfl tyA114 tyS114 rfl (by simp only [List.take_succ_cons, List.take_zero, List.drop_zero]; rfl) rfl ?_
      refine sN ?_
      refine sy_x rfl ?_
      refine sCP (dnumber_fn c i (jH1 L i) (atE L i) hc4 (by omega) hpo hxo) rfl rfl ?_
      refine sN ?_
      refine sy_yield [_, _, _, _] T3 Jr Jr (hY (1 + c * L.length + i) _ T3 (hitem _ _ (numsQ_at hc4 hlt)) hT3) rfl rfl rfl (List.Sublist.refl _) hJr rfl ?_
      rintro v T4 ⟨b, rfl, hb1, hb2⟩
      refine sy_x rfl ?_
      refine sx_not rfl rfl ?_
      refine sN ?_
      refine sy_nil (hZ _ _ ?_)
      refine aF [(0, _), (1, _), (3, _), (4, _), (6, _), (13, _), (16, _), (17, _), (18, _), (30, _)] (Kn.cons rfl (Kn.cons rfl (Kn.cons rfl (Kn.cons rfl (Kn.cons rfl (Kn.cons rfl (Kn.cons rfl (Kn.cons rfl (Kn.cons rfl (Kn.cons rfl (Kn.nil))))))))))) ?_
      refine aC rfl (fun h3 => ?_) (fun h3 => ?_)
      · have hb : b = false := by simpa using h3
        refine aE ?_
        repeat (with_reducible (first | refine nTR ?_ | refine nBR ?_))
        exact nx_ret0h T4 rfl (wrs_flt (A := [_, _, _, _]) (hS T4 (hb2 hb))) (.inr (hb2 hb))
      have hb : b = true := by simpa using h3
      have hT4 := hb1 hb
      rw [(hJ _ T4 hT4).filter]
      refine aK ?_
      with_reducible refine nN ?_
      refine aG (fun Z hZ => ?_)
      refine sLA 0 rfl rfl tyA114 tyS114 rfl (by simp only [List.take_succ_cons, List.take_zero, List.drop_zero]; rfl) rfl ?_
      refine sS 1 rfl rfl rfl tyS114 (by simp only [Value.cells]; rfl) rfl rfl rfl (by simp only [List.take_zero, List.drop_succ_cons, List.drop_zero, List.nil_append, List.append_nil, List.length_cons, List.length_nil, Nat.reduceAdd, Nat.zero_add, wrV]; rfl) rfl ?_
      refine sN (hZ _ _ ?_)
      refine nF [(0, _), (1, _), (3, _), (4, _), (13, _), (16, _), (17, _), (18, _)] (Kn.cons rfl (Kn.cons rfl (Kn.cons rfl (Kn.cons rfl (Kn.cons rfl (Kn.cons rfl (Kn.cons rfl (Kn.cons rfl (Kn.nil))))))))) ?_
      repeat (with_reducible refine nBN ?_)
      with_reducible refine nN ?_
      refine aG (fun Z hZ => ?_)
      refine jA7 rfl rfl ((i + 1 : Nat) : Int) (by rw [IntWalk.i64_in _ (by omega)]; omega) rfl ?_
      refine sM rfl rfl <| sN (hZ _ _ ?_)
      refine nF [(0, _), (1, _), (3, _), (4, _), (13, _), (16, _), (17, _), (18, _)] (Kn.cons rfl (Kn.cons rfl (Kn.cons rfl (Kn.cons rfl (Kn.cons rfl (Kn.cons rfl (Kn.cons rfl (Kn.cons rfl (Kn.nil))))))))) ?_
      refine jB4 (i + 1, T4) ⟨by show i + 1 ≤ _; omega, hT4⟩ (by simp; omega) (Kn.cons rfl (Kn.cons rfl (Kn.cons rfl (Kn.cons rfl (Kn.cons rfl (Kn.cons rfl (Kn.cons rfl (Kn.cons rfl Kn.nil)))))))) ?_
      simp only [prevE_succ]
      exact HLe.drop 1 rfl
    · refine jA8 ?_
      repeat (with_reducible refine nTE ?_)
      with_reducible refine nBE ?_
      repeat (with_reducible refine nBN ?_)
      with_reducible refine nN ?_
      have hie : i = L.length := by simp at hh; omega
      subst hie
      refine aG (fun Z hZ => ?_)
      refine jA7 rfl rfl ((c + 1 : Nat) : Int) (by rw [IntWalk.i64_in _ (by omega)]; omega) rfl ?_
      refine sM rfl rfl <| sN (hZ _ _ ?_)
      refine nF [(0, _), (1, _), (13, _)] (Kn.cons rfl (Kn.cons rfl (Kn.cons rfl (Kn.nil)))) ?_
      refine jB4 (c + 1, T3) ⟨by show c + 1 ≤ _; omega, ?_⟩ (by simp; omega) (Kn.cons rfl (Kn.cons rfl (Kn.cons rfl Kn.nil))) (HLe.drop 1 rfl)
      rw [show 1 + (c + 1) * L.length = 1 + c * L.length + L.length by rw [Nat.add_mul]; omega]
      exact hT3
  · have hc4 : c = 4 := by simp at h; omega
    subst hc4
    refine jA8 ?_
    repeat (with_reducible refine nTE ?_)
    with_reducible refine nBE ?_
    exact nx_end0h T2 rfl (HLe.sub (((List.sublist_append_left T2 Jr).trans (List.sublist_append_right T _)).trans (List.sublist_cons_self _ _))) (.inl hT2)
end Go.Proofs.YtkojkeabelckjaaGreatDoor.V
namespace Go.Proofs.YtkojkeabelckjaaGreatDoor.V
open Go.RowKit
theorem elemU64 : ElemOk Tryz.prog 135 45 1 8 := ElemOk.mk_ (z := .int .u64 0) Tryz.underlying135 (by kernel_rfl) rfl (by omega)
theorem uqL_len (l : List Nat) : (uqL l).length = l.length := by simp
def sumB (l : List Nat) : Nat := (allB l).length
theorem sumB_take {xs : List Nat} {k : Nat} (h : k < xs.length) : sumB (xs.take (k + 1)) = sumB (xs.take k) + (vb xs[k]).length := by unfold sumB; rw [allB_take h]; simp
theorem allB_mono (xs : List Nat) (k : Nat) : sumB (xs.take k) ≤ sumB xs := by
  have := congrArg (fun l => (allB l).length) (List.take_append_drop k xs)
  simp only [allB, List.flatMap_append, List.length_append] at this
  unfold sumB allB
  omega
def sizeQ (L : List En) : Nat := if rowC L = 0 then sumB (jD3 L) else 0
theorem dsize_fn (A : Option Addr) (c : Nat) (L : List En) (T : Heap) (hA : ArgOk A L.length) (hT : 0 < L.length → T = roE A (jA0 L)) (hro : Ro T) (hL : L.length ≤ 100000) (hE : jD6 L) :
    Fn Tryz.prog 54 [.slice A L.length c] T fun v _ => v = iq (sizeQ L) := by
  have hmax : L.length ≤ maxLen := by show _ ≤ 9223372036854775807; omega
  have hnl := numsQ_lt hE (by omega)
  have hall := allB_len hnl
  have hlen := numsQ_len L
  refine Fn.enterM (n := 16) Tryz.func54 rfl (by kernel_rfl) rfl (fun w0 => ?_)
  refine aR fun Z hZ => sA rfl rfl <| sN (hZ _ _ ?_)
  refine aF [(0, _)] (Kn.cons rfl (Kn.nil)) ?_
  refine aS ?_
  refine aR fun Z hZ => sM rfl rfl ?_
  refine jF4 T (erow_fn A c L T hA hT hro hmax hE) rfl (List.Sublist.refl _) hro rfl ?_
  refine jC9 rfl rfl rfl ?_
  refine sN (hZ _ _ ?_)
  refine aF [(0, _), (7, _)] (Kn.cons rfl (Kn.cons rfl (Kn.nil))) ?_
  refine aC rfl (fun h => ?_) (fun h => ?_)
  · have h0 : rowC L ≠ 0 := by simp at h; omega
    rw [show sizeQ L = 0 by unfold sizeQ; rw [if_neg h0]]
    refine aR fun Z hZ => sA rfl rfl <| sN (hZ _ _ ?_)
    refine aF [(2, _)] (Kn.cons rfl (Kn.nil)) ?_
    refine aE ?_
    repeat (with_reducible refine nTR ?_)
    exact nx_unmark [] trivial (nR1 rfl rfl rfl)
  have h0 : rowC L = 0 := by simp at h; omega
  rw [show sizeQ L = sumB (jD3 L) by unfold sizeQ; rw [if_pos h0]]
  refine aK ?_
  with_reducible refine nN ?_
  refine aR (fun Z hZ => ?_)
  refine sAl tyZ3 rfl (fun g1 => ?_)
  first | refine sS1 0 rfl rfl rfl tyS3 rfl rfl (by simp only [List.set_cons_zero]; rfl) (by simp only [List.set_cons_zero]; rfl) ?_
  refine sN (hZ _ _ ?_)
  refine aF [(0, _), (3, _)] (Kn.cons rfl (Kn.cons rfl (Kn.nil))) ?_
  refine aS ?_
  refine aR fun Z hZ => sM rfl rfl ?_
  refine jD9 [] (.own g1 3 [iq 0] :: T) (numbers_fn A L.length c) rfl (HLe.refl _) rfl ?_
  rintro v H' ⟨g, rfl, rfl⟩
  refine jE0 (.own g1 3 [iq 0] :: .ro g 0 [.slice A L.length c] :: T) ((HLe.comm3 [_] [_] T).trans (HLe.toRo [] _)) ?_
  refine sN (hZ _ _ ?_)
  refine aF [(3, _), (9, _)] (Kn.cons rfl (Kn.cons rfl (Kn.nil))) ?_
  refine aB ?_
  refine awp_range (fun k H => H = [.own g1 3 [iq (sumB ((jD3 L).take k))]]) [] (fun _ _ => False) _ (numbers_it g A c L T hA hT hL hE) rfl (fun k H h => by subst h; exact .cons rfl .nil) (fun _ _ h => h.elim) Ro.nil (fun x hx => by rcases List.mem_cons.1 hx with rfl | hx; rfl; exact hro x hx) (fun k vs h => by rw [List.getElem?_map] at h; cases hk : (jD3 L)[k]? with | none => rw [hk] at h; cases h | some x => rw [hk] at h; obtain rfl := Option.some.inj h; rfl) rfl rfl (by rw [List.append_nil]; exact HLe.refl _) rfl ?_ ?_ (fun _ _ _ h => h.elim)
  · intro k vs H hk hH l w1
    subst hH
    rw [List.getElem?_map] at hk
    cases hkx : (jD3 L)[k]? with
    | none => rw [hkx] at hk; cases hk
    | some x =>
      rw [hkx] at hk
      obtain rfl := Option.some.inj hk
      have hlt : k < (jD3 L).length := (List.getElem?_eq_some_iff.1 hkx).1
      have hxe : (jD3 L)[k] = x := (List.getElem?_eq_some_iff.1 hkx).2
      have hx : x < 18446744073709551616 := hnl x (List.mem_of_getElem? hkx)
      have hs := sumB_take hlt
      rw [hxe] at hs
      have hm := allB_mono (jD3 L) (k + 1)
      unfold sumB at hm hs
      refine aG (fun Z hZ => ?_)
      refine sA rfl rfl <| sN (hZ _ _ ?_)
      refine nF [(3, _), (4, _)] (Kn.cons rfl (Kn.cons rfl (Kn.nil))) ?_
      refine nx_assign [] Wrs.nil (HLe.refl _) fun w2 => ?_
      refine aB ?_
      refine jB5 [.own g1 3 [iq (sumB ((jD3 L).take k))]] (HLe.refl _) ?_
      refine awh_region [0, 1, 2, 3] [4] mixed (by kernel_rfl) rfl rfl (fun Z hZ => ?_)
      first | refine jA2 0 rfl rfl tyA3 tyS3 rfl rfl ?_
      refine qM rfl rfl ?_
      refine jH7 (vsize_fn x hx) rfl rfl ?_
      refine sq_add rfl rfl ((sumB ((jD3 L).take (k + 1)) : Nat) : Int) (by unfold sumB; rw [IntWalk.i64_in _ (by omega)]; omega) rfl ?_
      refine jD0 ?_
      first | refine sS1 0 rfl rfl rfl tyS3 rfl rfl (by simp only [List.set_cons_zero]; rfl) (by simp only [List.set_cons_zero]; rfl) ?_
      refine sN (hZ _ _ ?_)
      refine nF [] (Kn.nil) ?_
      refine nBN ?_
      exact nx_next _ rfl (HLe.refl _)
  · intro D H hH
    subst hH
    rw [List.length_map, List.take_length]
    refine nBN ?_
    with_reducible refine nx_normalM ?_
    refine jB5 (.ob D isDef :: .own g1 3 [iq (sumB (jD3 L))] :: (.ro g 0 [.slice A L.length c] :: T)) (by rw [List.append_nil]; exact HLe.refl _) ?_
    refine aR (fun Z hZ => ?_)
    refine sL 1 rfl rfl tyA3 tyS3 rfl rfl ?_
    refine sA rfl rfl <| sN (hZ _ _ ?_)
    refine aF [(2, _)] (Kn.cons rfl (Kn.nil)) ?_
    refine aE ?_
    exact nx_unmark [0] ⟨rfl, trivial⟩ (nR1 rfl rfl rfl)
end Go.Proofs.YtkojkeabelckjaaGreatDoor.V
namespace Go.Proofs.YtkojkeabelckjaaGreatDoor.V
open Go.RowKit
def encQ (L : List En) : List UInt8 × Nat := if rowC L = 0 then (if 65536 < sumB (jD3 L) then ([], 5) else (allB (jD3 L), 0)) else ([], rowC L)
theorem allB_pos (L : List En) : 0 < (allB (jD3 L)).length := by
  have := vb_pos L.length
  simp only [allB, jD3, List.flatMap_cons, List.length_append]
  omega
theorem dencode_fn (A : Option Addr) (c : Nat) (L : List En) (T : Heap) (hA : ArgOk A L.length) (hT : 0 < L.length → T = roE A (jA0 L)) (hro : Ro T) (hL : L.length ≤ 10000) (hE : jD6 L) :
    Fn Tryz.prog 24 [.slice A L.length c] T fun v _ => v = .tuple #[.string (str (encQ L).1), iq (encQ L).2] := by
  have hmax : L.length ≤ maxLen := by show _ ≤ 9223372036854775807; omega
  have hnl := numsQ_lt hE (by omega)
  have hall := allB_len hnl
  have hlen := numsQ_len L
  refine Fn.enterM (n := 25) Tryz.func24 rfl (by kernel_rfl) rfl (fun w0 => ?_)
  refine aR fun Z hZ => sA rfl rfl <| sA rfl rfl <| sN (hZ _ _ ?_)
  refine aF [(0, _)] (Kn.cons rfl (Kn.nil)) ?_
  refine aS ?_
  refine aR fun Z hZ => sM rfl rfl ?_
  refine jF4 T (erow_fn A c L T hA hT hro hmax hE) rfl (List.Sublist.refl _) hro rfl ?_
  refine sA rfl rfl <| sN (hZ _ _ ?_)
  refine aF [(0, _), (4, _)] (Kn.cons rfl (Kn.cons rfl (Kn.nil))) ?_
  refine aR fun Z hZ => sM rfl rfl ?_
  refine jC9 rfl rfl rfl ?_
  refine sN (hZ _ _ ?_)
  refine aF [(0, _), (4, _), (10, _)] (Kn.cons rfl (Kn.cons rfl (Kn.cons rfl (Kn.nil)))) ?_
  refine aC rfl (fun h => ?_) (fun h => ?_)
  · have h0 : rowC L ≠ 0 := by simp at h; omega
    rw [show encQ L = ([], rowC L) by unfold encQ; rw [if_neg h0]]
    refine aR fun Z hZ => sM rfl rfl <| sA rfl rfl <| sA rfl rfl <| sN (hZ _ _ ?_)
    refine aF [(2, _), (3, _)] (Kn.cons rfl (Kn.cons rfl (Kn.nil))) ?_
    refine aE ?_
    repeat (with_reducible refine nTR ?_)
    exact nx_unmark [] trivial (jE1 rfl rfl rfl rfl)
  have h0 : rowC L = 0 := by simp at h; omega
  have hsz : sizeQ L = sumB (jD3 L) := by unfold sizeQ; rw [if_pos h0]
  refine aK ?_
  with_reducible refine nN ?_
  refine aS ?_
  refine aR fun Z hZ => sM rfl rfl ?_
  refine jF4 T (dsize_fn A c L T hA hT hro (by omega) hE) rfl (List.Sublist.refl _) hro rfl ?_
  refine jE3 rfl rfl rfl ?_
  refine sN (hZ _ _ ?_)
  refine aF [(0, _), (14, _)] (Kn.cons rfl (Kn.cons rfl (Kn.nil))) ?_
  rw [hsz]
  refine aC rfl (fun h1 => ?_) (fun h1 => ?_)
  · have h1' : 65536 < sumB (jD3 L) := by simp at h1; omega
    rw [show encQ L = ([], 5) by unfold encQ; rw [if_pos h0, if_pos h1']]
    refine aR fun Z hZ => sA rfl rfl <| sA rfl rfl <| sN (hZ _ _ ?_)
    refine aF [(2, _), (3, _)] (Kn.cons rfl (Kn.cons rfl (Kn.nil))) ?_
    refine aE ?_
    repeat (with_reducible refine nTR ?_)
    exact nx_unmark [] trivial (jE1 rfl rfl rfl rfl)
  have h1' : ¬ 65536 < sumB (jD3 L) := by simp at h1; omega
  rw [show encQ L = (allB (jD3 L), 0) by unfold encQ; rw [if_pos h0, if_neg h1']]
  refine aK ?_
  with_reducible refine nN ?_
  refine aR (fun Z hZ => ?_)
  refine sAl tyZ135 rfl (fun g1 => ?_)
  refine sN (hZ _ _ ?_)
  refine aF [(0, _), (5, _)] (Kn.cons rfl (Kn.cons rfl (Kn.nil))) ?_
  refine aS ?_
  refine aR fun Z hZ => sM rfl rfl ?_
  refine jD9 [] (.own g1 135 [.slice none 0 0] :: T) (numbers_fn A L.length c) rfl (HLe.refl _) rfl ?_
  rintro v H' ⟨g, rfl, rfl⟩
  refine jE0 (.own g1 135 [.slice none 0 0] :: .ro g 0 [.slice A L.length c] :: T) ((HLe.comm3 [_] [_] T).trans (HLe.toRo [] _)) ?_
  refine sN (hZ _ _ ?_)
  refine aF [(5, _), (16, _)] (Kn.cons rfl (Kn.cons rfl (Kn.nil))) ?_
  refine aB ?_
  refine awp_range (fun k H => ∃ v, RowOk v k ∧ H = .own g1 135 [v] :: rowE v 45 1 (uqL ((jD3 L).take k))) [] (fun _ _ => False) [.own g1 135 [.slice none 0 0]] (numbers_it g A c L T hA hT (by omega) hE) rfl (fun k H ⟨v, _, h⟩ => by subst h; exact .cons rfl (rowE_wrs _ _ _ _)) (fun _ _ h => h.elim) Ro.nil (fun x hx => by rcases List.mem_cons.1 hx with rfl | hx; rfl; exact hro x hx) (fun k vs h => by rw [List.getElem?_map] at h; cases hk : (jD3 L)[k]? with | none => rw [hk] at h; cases h | some x => rw [hk] at h; obtain rfl := Option.some.inj h; rfl) rfl ⟨_, RowOk.nil, rfl⟩ (by rw [List.append_nil]; exact HLe.refl _) rfl ?_ ?_ (fun _ _ _ h => h.elim)
  · rintro k vs H hk ⟨v, hv, rfl⟩ l w1
    rw [List.getElem?_map] at hk
    cases hkx : (jD3 L)[k]? with
    | none => rw [hkx] at hk; cases hk
    | some x =>
      rw [hkx] at hk
      obtain rfl := Option.some.inj hk
      have hlt : k < (jD3 L).length := (List.getElem?_eq_some_iff.1 hkx).1
      have htk : uqL ((jD3 L).take (k + 1)) = uqL ((jD3 L).take k) ++ [uq x] := by
        rw [List.take_succ_eq_append_getElem hlt, (List.getElem?_eq_some_iff.1 hkx).2]; simp
      refine aG (fun Z hZ => ?_)
      refine sA rfl rfl <| sN (hZ _ _ ?_)
      refine nF [(5, _), (6, _)] (Kn.cons rfl (Kn.cons rfl (Kn.nil))) ?_
      refine nx_assign [] Wrs.nil (HLe.refl _) fun w2 => ?_
      refine aB ?_
      refine jB5 (.own g1 135 [v] :: rowE v 45 1 (uqL ((jD3 L).take k))) (by rw [List.append_nil]; exact HLe.refl _) ?_
      refine aG (fun Z hZ => ?_)
      first | refine sL 0 rfl rfl tyA135 tyS135 rfl rfl ?_
      refine sM rfl rfl ?_
      refine sBS Tryz.underlying135 tyS45 tyZ45 rfl rfl rfl rfl (by simp only [List.take_zero, List.drop_succ_cons, List.drop_zero, List.nil_append, List.append_nil, List.length_cons, List.length_nil, Nat.zero_add, Value.cells, wrV, jG2, List.replicate_succ, List.replicate_zero, Nat.reduceMul, Nat.zero_mul]; rfl) rfl (fun g2 => ?_)
      refine jD8 [_, _] elemU64 rfl hv (by rw [uqL_len, List.length_take, Nat.min_eq_left (by omega)]; omega) rfl (fun w hw => rd_own (i := 0) (xs := [uq x]) rfl rfl hw) rfl (by show _ ≤ 9223372036854775807; omega) (by omega) (HLe.refl _) rfl (fun v2 hv2 => ?_)
      obtain ⟨g4, c4, rfl⟩ := hv2.some (by omega)
      refine sS1 1 rfl rfl rfl tyS135 rfl rfl (by simp only [List.set_cons_zero]; rfl) rfl ?_
      refine sN (hZ _ _ ?_)
      refine nF [] (Kn.nil) ?_
      refine nBN ?_
      exact nx_next _ ⟨.slice (some ⟨g4, 0, none⟩) (k + 1) c4, RowOk.mk _ _ _, rfl⟩ (by rw [htk]; exact HLe.drop 1 rfl)
  · rintro D H ⟨v, hv, rfl⟩
    rw [List.length_map] at hv ⊢
    rw [List.take_length]
    obtain ⟨gv, cv, rfl⟩ := hv.some (by omega)
    refine nBN ?_
    with_reducible refine nx_normalM ?_
    refine jB5 (.ob D isDef :: .own g1 135 [.slice (some ⟨gv, 0, none⟩) (jD3 L).length cv] :: .ob gv (RowP 45 1 (jD3 L).length cv (uqL (jD3 L))) :: .ro g 0 [.slice A L.length c] :: T) (by rw [List.append_nil]; exact HLe.refl _) ?_
    refine aR (fun Z hZ => ?_)
    refine sL 1 rfl rfl tyA135 tyS135 rfl rfl ?_
    refine jD9 [_] (.ob D isDef :: .own g1 135 [.slice (some ⟨gv, 0, none⟩) (jD3 L).length cv] :: .ro g 0 [.slice A L.length c] :: T) (all_fn gv cv (jD3 L) hnl (by omega)) rfl (HLe.comm3 [_, _] [_] _) rfl ?_
    rintro u H' ⟨hu, rfl⟩
    rw [jF8]
    obtain ⟨gu, cu, rfl⟩ := hu.some (allB_pos L)
    refine sx_strB (l := allB (jD3 L)) Tryz.underlying132 Tryz.underlying5 Tryz.underlying9 rfl (fun w hw => rd_row (i := 0) rfl hw) rfl ?_
    refine sA rfl rfl <| sA rfl rfl <| sN (hZ _ _ ?_)
    refine aF [(2, _), (3, _)] (Kn.cons rfl (Kn.cons rfl (Kn.nil))) ?_
    refine aE ?_
    exact nx_unmark [1] ⟨rfl, trivial⟩ (jE1 rfl rfl rfl rfl)
end Go.Proofs.YtkojkeabelckjaaGreatDoor.V
namespace Go.Proofs.YtkojkeabelckjaaGreatDoor.V
open Go.RowKit
theorem numQ_0 (i : Nat) (a e : En) : numQ 0 i a e = (e.id + 18446744073709551616 - a.id) % 18446744073709551616 := by unfold numQ; rw [if_pos rfl]
theorem numQ_1 (i : Nat) (a e : En) : numQ 1 i a e = e.run := by unfold numQ; rw [if_neg (by decide), if_pos rfl]
theorem numQ_2 (i : Nat) (a e : En) : numQ 2 i a e = e.len := by unfold numQ; rw [if_neg (by decide), if_neg (by decide), if_pos rfl]
theorem numQ_3 (i : Nat) (a e : En) : numQ 3 i a e = if 0 < i ∧ e.off = a.next then 0 else (e.off + 1) % 18446744073709551616 := by unfold numQ; rw [if_neg (by decide), if_neg (by decide), if_neg (by decide)]
end Go.Proofs.YtkojkeabelckjaaGreatDoor.V
