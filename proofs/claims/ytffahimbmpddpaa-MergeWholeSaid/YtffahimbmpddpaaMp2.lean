/- Entries that stand for rows of tiles: put together of entries of one tile each. Plain laws. -/
import Derived.Test.YtffahimbmpddpaaMp1
import Derived.Test.YtffahimbmpddpaaMg15
namespace Go.Proofs.Ytffahimbmpddpaa.V
open Go.RowKit
set_option linter.unusedVariables false
set_option linter.unusedSimpArgs false
def expE (e : En) : List En := (List.range e.run).map fun k => { e with id := e.id + k, run := 1 }
theorem expE_len (e : En) : (expE e).length = e.run := by simp [expE]
theorem expE_mem {e u : En} : u ∈ expE e ↔ ∃ k, k < e.run ∧ u = { e with id := e.id + k, run := 1 } := by
  unfold expE
  rw [List.mem_map]
  exact ⟨fun ⟨k, hk, h⟩ => ⟨k, List.mem_range.1 hk, h.symm⟩, fun ⟨k, hk, h⟩ => ⟨k, List.mem_range.2 hk, h.symm⟩⟩
structure UnOk (u : En) : Prop where
  run : u.run = 1
  chk : chkE u = 0
  ok : u.ok
structure GrOk (us G : List En) : Prop where
  ex : G.flatMap expE = us
  ok : ∀ e ∈ G, 0 < e.run ∧ chkE e = 0 ∧ e.ok
  sep : ∀ i a b, G[i]? = some a → G[i + 1]? = some b → lastE a < b.id ∧ oneQ a b = false
theorem list_snoc {α : Type} (G : List α) (h : G ≠ []) : ∃ X a, G = X ++ [a] := ⟨G.dropLast, G.getLast h, (List.dropLast_concat_getLast h).symm⟩
theorem put1_snoc (X : List En) (a u : En) : put1 (X ++ [a]) u = if oneQ a u then X ++ [{ a with run := a.run + 1 }] else X ++ [a] ++ [u] := by
  have hl : (X ++ [a]).length - 1 = X.length := by simp
  have hg : (X ++ [a])[(X ++ [a]).length - 1]? = some a := by rw [hl]; simp
  rw [put1_some hg, hl]
  split
  · rw [List.set_append_right _ _ (Nat.le_refl _), Nat.sub_self]; rfl
  · rfl
theorem GrOk.step {us G : List En} (h : GrOk us G) {u : En} (hu : UnOk u) (hr : ∀ v ∈ us, v.id < u.id) (hl : us.length < 4294967295) : GrOk (us ++ [u]) (put1 G u) := by
  have hux : expE u = [u] := by
    unfold expE
    rw [hu.run]
    have : ({ u with id := u.id + 0, run := 1 } : En) = u := by
      obtain ⟨a, b, c, d⟩ := u
      have := hu.run
      simp only at this
      subst this
      rfl
    simpa using this
  by_cases h0 : G = []
  · subst h0
    have : us = [] := h.ex.symm
    subst this
    refine ⟨by show [u].flatMap expE = _; simp [hux], fun e he => ?_, fun i a b h1 h2 => ?_⟩
    · rw [show e = u from List.mem_singleton.1 he]
      exact ⟨by rw [hu.run]; exact Nat.one_pos, hu.chk, hu.ok⟩
    · simp [put1] at h2
  · obtain ⟨X, a, rfl⟩ := list_snoc G h0
    obtain ⟨ha1, ha2, ha3⟩ := h.ok a (by simp)
    have hex := h.ex
    rw [List.flatMap_append] at hex
    have hexa : [a].flatMap expE = expE a := by simp
    rw [hexa] at hex
    have hal : a.run ≤ us.length := by rw [← hex, List.length_append, expE_len]; omega
    have hla := last_is ha2 ha1
    have hlt : lastE a < u.id := by
      have hm : ({ a with id := a.id + (a.run - 1), run := 1 } : En) ∈ us := by
        rw [← hex]
        exact List.mem_append_right _ (expE_mem.2 ⟨a.run - 1, by omega, rfl⟩)
      have := hr _ hm
      simp only at this
      omega
    rw [put1_snoc]
    split
    · rename_i hone
      obtain ⟨o1, o2, o3⟩ := of_decide_eq_true hone
      obtain ⟨c1, c2, c3, c4⟩ := chk_ok ha3 ha2
      obtain ⟨d1, d2, d3, d4⟩ := chk_ok hu.ok hu.chk
      obtain ⟨k1, k2, k3, k4⟩ := ha3
      have hwu : u.wide = 1 := by unfold En.wide; rw [hu.run]; rfl
      have hsame : ({ a with id := a.id + a.run, run := 1 } : En) = u := by
        obtain ⟨p, q, r, s⟩ := u
        have := hu.run
        simp only at this o1 o2 o3 ⊢
        subst this; subst o2; subst o3
        congr 1
        omega
      refine ⟨?_, fun e he => ?_, fun i x y h1 h2 => ?_⟩
      · rw [List.flatMap_append, ← hex, List.append_assoc]
        congr 1
        show [({ a with run := a.run + 1 } : En)].flatMap expE = _
        simp only [List.flatMap_cons, List.flatMap_nil, List.append_nil]
        unfold expE
        rw [List.range_succ, List.map_append]
        simp only [List.map_cons, List.map_nil]
        rw [hsame]
      · rcases List.mem_append.1 he with he | he
        · exact h.ok e (List.mem_append_left _ he)
        · rw [List.mem_singleton.1 he]
          have hn : a.next = a.off + a.len := by unfold En.next; omega
          exact ⟨Nat.succ_pos _, chk_mk c1 (by show a.id + max 1 (a.run + 1) ≤ _; omega) (by show a.off + a.len ≤ _; omega), k1, k2, k3, by show a.run + 1 < _; omega⟩
      · have hil : i + 1 < (X ++ [({ a with run := a.run + 1 } : En)]).length := (List.getElem?_eq_some_iff.1 h2).1
        rw [List.length_append, List.length_singleton] at hil
        have hx : X[i]? = some x := by rwa [List.getElem?_append_left (by omega)] at h1
        rcases Nat.lt_or_ge (i + 1) X.length with hlt2 | hge
        · rw [List.getElem?_append_left hlt2] at h2
          exact h.sep i x y (by rw [List.getElem?_append_left (by omega)]; exact hx) (by rw [List.getElem?_append_left hlt2]; exact h2)
        · have hi : i + 1 = X.length := by omega
          have hs := h.sep i x a (by rw [List.getElem?_append_left (by omega)]; exact hx) (by rw [hi]; simp)
          rw [hi] at h2
          simp only [List.getElem?_concat_length, Option.some.injEq] at h2
          subst h2
          exact ⟨hs.1, hs.2⟩
    · rename_i hone
      refine ⟨?_, fun e he => ?_, fun i x y h1 h2 => ?_⟩
      · rw [List.flatMap_append, List.flatMap_append, hexa, hex]
        simp [hux]
      · rcases List.mem_append.1 he with he | he
        · exact h.ok e he
        · rw [List.mem_singleton.1 he]
          exact ⟨by rw [hu.run]; exact Nat.one_pos, hu.chk, hu.ok⟩
      · have hil : i + 1 < (X ++ [a] ++ [u]).length := (List.getElem?_eq_some_iff.1 h2).1
        rw [List.length_append, List.length_append, List.length_singleton, List.length_singleton] at hil
        rcases Nat.lt_or_ge (i + 1) (X ++ [a]).length with hlt2 | hge
        · rw [List.getElem?_append_left hlt2] at h2
          rw [List.getElem?_append_left (by omega)] at h1
          exact h.sep i x y h1 h2
        · have hi : i + 1 = (X ++ [a]).length := by rw [List.length_append, List.length_singleton] at hge ⊢; omega
          rw [hi] at h2
          simp only [List.getElem?_concat_length, Option.some.injEq] at h2
          subst h2
          have hi2 : i = X.length := by simpa using hi
          rw [List.getElem?_append_left (by omega), hi2] at h1
          simp only [List.getElem?_concat_length, Option.some.injEq] at h1
          subst h1
          exact ⟨hlt, by simpa using hone⟩
theorem GrOk.nil : GrOk [] [] := ⟨rfl, fun e he => absurd he (by simp), fun i a b h1 => absurd h1 (by simp)⟩
theorem gr_fold : ∀ (us G0 us0 : List En), GrOk us0 G0 → (∀ u ∈ us, UnOk u) → (us0 ++ us).Pairwise (fun a b => a.id < b.id) → (us0 ++ us).length < 4294967295 → GrOk (us0 ++ us) (us.foldl put1 G0)
  | [], G0, us0, h, _, _, _ => by simpa using h
  | u :: r, G0, us0, h, hu, hp, hl => by
    have hr : ∀ v ∈ us0, v.id < u.id := fun v hv => (List.pairwise_append.1 hp).2.2 v hv u List.mem_cons_self
    have h1 := h.step (hu u List.mem_cons_self) hr (by rw [List.length_append] at hl; omega)
    have := gr_fold r (put1 G0 u) (us0 ++ [u]) h1 (fun v hv => hu v (List.mem_cons_of_mem _ hv)) (by rw [List.append_assoc]; exact hp) (by rw [List.append_assoc]; exact hl)
    rw [List.append_assoc] at this
    exact this
end Go.Proofs.Ytffahimbmpddpaa.V
