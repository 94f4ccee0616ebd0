/- Walks and plain laws for this claim (texts Mp2, Mp3, Mp4, Mp6, SxDf, Nt3, Nt4, Lf10, Lf11, Lf12, Lf13, Lf14, joined). Each theorem states its own conditions. -/
import Derived.Test.YtkojkeabelckjaaGreatDoorJ27
import Derived.Test.YtkojkeabelckjaaGreatDoorJ07
import Derived.Test.YtkojkeabelckjaaGreatDoorJ06
import Derived.Test.YtkojkeabelckjaaGreatDoorJ08
import Derived.Test.YtkojkeabelckjaaGreatDoorJ25
import Derived.Test.YtkojkeabelckjaaGreatDoorJ11
import Derived.Test.YtkojkeabelckjaaGreatDoorJ20
import Derived.Test.YtkojkeabelckjaaGreatDoorJ24

section
set_option linter.all false
namespace Go.Proofs.YtkojkeabelckjaaGreatDoor.V
open Go.RowKit
def expE (e : En) : List En := (List.range e.run).map fun k => { e with id := e.id + k, run := 1 }
theorem expE_len (e : En) : (expE e).length = e.run := by simp [expE]
theorem expE_mem {e u : En} : u ∈ expE e ↔ ∃ k, k < e.run ∧ u = { e with id := e.id + k, run := 1 } := by
 unfold expE
 rw [List.mem_map]
 exact ⟨fun ⟨k, hk, h⟩ => ⟨k, List.mem_range.1 hk, h.symm⟩, fun ⟨k, hk, h⟩ => ⟨k, List.mem_range.2 hk, h.symm⟩⟩
structure UnOk (u : En) : Prop where
 run : u.run = 1
 chk : chkE u = 0
 ok : u.ok
structure GrOk (us G : List En) : Prop where
 ex : G.flatMap expE = us
 ok : ∀ e ∈ G, 0 < e.run ∧ chkE e = 0 ∧ e.ok
 sep : ∀ i a b, G[i]? = some a → G[i + 1]? = some b → lastE a < b.id ∧ oneQ a b = false
theorem list_snoc {α : Type} (G : List α) (h : G ≠ []) : ∃ X a, G = X ++ [a] := ⟨G.dropLast, G.getLast h, (List.dropLast_concat_getLast h).symm⟩
theorem put1_snoc (X : List En) (a u : En) : put1 (X ++ [a]) u = if oneQ a u then X ++ [{ a with run := a.run + 1 }] else X ++ [a] ++ [u] := by
 have hl : (X ++ [a]).length - 1 = X.length := by simp
 have hg : (X ++ [a])[(X ++ [a]).length - 1]? = some a := by rw [hl]; simp
 rw [put1_some hg, hl]
 split
 ·rw [List.set_append_right _ _ (Nat.le_refl _), Nat.sub_self]; rfl
 ·rfl
theorem GrOk.step {us G : List En} (h : GrOk us G) {u : En} (hu : UnOk u) (hr : ∀ v ∈ us, v.id < u.id) (hl : us.length < 4294967295) : GrOk (us ++ [u]) (put1 G u) := by
 have hux : expE u = [u] := by
  unfold expE
  rw [hu.run]
  have : ({ u with id := u.id + 0, run := 1 } : En) = u := by
   obtain ⟨a, b, c, d⟩ := u
   have := hu.run
   simp only at this
   subst this
   rfl
  simpa using this
 by_cases h0 : G = []
 ·subst h0
  have : us = [] := h.ex.symm
  subst this
  refine ⟨by show [u].flatMap expE = _; simp [hux], fun e he => ?_, fun i a b h1 h2 => ?_⟩
  ·rw [show e = u from List.mem_singleton.1 he]
   exact ⟨by rw [hu.run]; exact Nat.one_pos, hu.chk, hu.ok⟩
  ·simp [put1] at h2
 ·obtain ⟨X, a, rfl⟩ := list_snoc G h0
  obtain ⟨ha1, ha2, ha3⟩ := h.ok a (by simp)
  have hex := h.ex
  rw [List.flatMap_append] at hex
  have hexa : [a].flatMap expE = expE a := by simp
  rw [hexa] at hex
  have hal : a.run ≤ us.length := by rw [← hex, List.length_append, expE_len]; omega
  have hla := last_is ha2 ha1
  have hlt : lastE a < u.id := by
   have hm : ({ a with id := a.id + (a.run - 1), run := 1 } : En) ∈ us := by
    rw [← hex]
    exact List.mem_append_right _ (expE_mem.2 ⟨a.run - 1, by omega, rfl⟩)
   have := hr _ hm
   simp only at this
   omega
  rw [put1_snoc]
  split
  ·rename_i hone
   obtain ⟨o1, o2, o3⟩ := of_decide_eq_true hone
   obtain ⟨c1, c2, c3, c4⟩ := chk_ok ha3 ha2
   obtain ⟨d1, d2, d3, d4⟩ := chk_ok hu.ok hu.chk
   obtain ⟨k1, k2, k3, k4⟩ := ha3
   have hwu : u.wide = 1 := by unfold En.wide; rw [hu.run]; rfl
   have hsame : ({ a with id := a.id + a.run, run := 1 } : En) = u := by
    obtain ⟨p, q, r, s⟩ := u
    have := hu.run
    simp only at this o1 o2 o3 ⊢
    subst this; subst o2; subst o3
    congr 1
    omega
   refine ⟨?_, fun e he => ?_, fun i x y h1 h2 => ?_⟩
   ·rw [List.flatMap_append, ← hex, List.append_assoc]
    congr 1
    show [({ a with run := a.run + 1 } : En)].flatMap expE = _
    simp only [List.flatMap_cons, List.flatMap_nil, List.append_nil]
    unfold expE
    rw [List.range_succ, List.map_append]
    simp only [List.map_cons, List.map_nil]
    rw [hsame]
   ·rcases List.mem_append.1 he with he | he
    ·exact h.ok e (List.mem_append_left _ he)
    ·rw [List.mem_singleton.1 he]
     have hn : a.next = a.off + a.len := by unfold En.next; omega
     exact ⟨Nat.succ_pos _, chk_mk c1 (by show a.id + max 1 (a.run + 1) ≤ _; omega) (by show a.off + a.len ≤ _; omega), k1, k2, k3, by show a.run + 1 < _; omega⟩
   ·have hil : i + 1 < (X ++ [({ a with run := a.run + 1 } : En)]).length := (List.getElem?_eq_some_iff.1 h2).1
    rw [List.length_append, List.length_singleton] at hil
    have hx : X[i]? = some x := by rwa [List.getElem?_append_left (by omega)] at h1
    rcases Nat.lt_or_ge (i + 1) X.length with hlt2 | hge
    ·rw [List.getElem?_append_left hlt2] at h2
     exact h.sep i x y (by rw [List.getElem?_append_left (by omega)]; exact hx) (by rw [List.getElem?_append_left hlt2]; exact h2)
    ·have hi : i + 1 = X.length := by omega
     have hs := h.sep i x a (by rw [List.getElem?_append_left (by omega)]; exact hx) (by rw [hi]; simp)
     rw [hi] at h2
     simp only [List.getElem?_concat_length, Option.some.injEq] at h2
     subst h2
     exact ⟨hs.1, hs.2⟩
  ·rename_i hone
   refine ⟨?_, fun e he => ?_, fun i x y h1 h2 => ?_⟩
   ·rw [List.flatMap_append, List.flatMap_append, hexa, hex]
    simp [hux]
   ·rcases List.mem_append.1 he with he | he
    ·exact h.ok e he
    ·rw [List.mem_singleton.1 he]
     exact ⟨by rw [hu.run]; exact Nat.one_pos, hu.chk, hu.ok⟩
   ·have hil : i + 1 < (X ++ [a] ++ [u]).length := (List.getElem?_eq_some_iff.1 h2).1
    rw [List.length_append, List.length_append, List.length_singleton, List.length_singleton] at hil
    rcases Nat.lt_or_ge (i + 1) (X ++ [a]).length with hlt2 | hge
    ·rw [List.getElem?_append_left hlt2] at h2
     rw [List.getElem?_append_left (by omega)] at h1
     exact h.sep i x y h1 h2
    ·have hi : i + 1 = (X ++ [a]).length := by rw [List.length_append, List.length_singleton] at hge ⊢; omega
     rw [hi] at h2
     simp only [List.getElem?_concat_length, Option.some.injEq] at h2
     subst h2
     have hi2 : i = X.length := by simpa using hi
     rw [List.getElem?_append_left (by omega), hi2] at h1
     simp only [List.getElem?_concat_length, Option.some.injEq] at h1
     subst h1
     exact ⟨hlt, by simpa using hone⟩
theorem GrOk.nil : GrOk [] [] := ⟨rfl, fun e he => absurd he (by simp), fun i a b h1 => absurd h1 (by simp)⟩
theorem gr_fold : ∀ (us G0 us0 : List En), GrOk us0 G0 → (∀ u ∈ us, UnOk u) → (us0 ++ us).Pairwise (fun a b => a.id < b.id) → (us0 ++ us).length < 4294967295 → GrOk (us0 ++ us) (us.foldl put1 G0)
 | [], G0, us0, h, _, _, _ => by simpa using h
 | u :: r, G0, us0, h, hu, hp, hl => by
  have hr : ∀ v ∈ us0, v.id < u.id := fun v hv => (List.pairwise_append.1 hp).2.2 v hv u List.mem_cons_self
  have h1 := h.step (hu u List.mem_cons_self) hr (by rw [List.length_append] at hl; omega)
  have := gr_fold r (put1 G0 u) (us0 ++ [u]) h1 (fun v hv => hu v (List.mem_cons_of_mem _ hv)) (by rw [List.append_assoc]; exact hp) (by rw [List.append_assoc]; exact hl)
  rw [List.append_assoc] at this
  exact this
theorem len_le_sub {α : Type} [DecidableEq α] : ∀ (L M : List α), L.Nodup → (∀ x ∈ L, x ∈ M) → L.length ≤ M.length
 | [], _, _, _ => Nat.zero_le _
 | a :: r, M, hn, h => by
  have ha := h a List.mem_cons_self
  have hr := List.nodup_cons.1 hn
  have := len_le_sub r (M.erase a) hr.2 (fun x hx => (List.mem_erase_of_ne (fun (e : x = a) => hr.1 (by rw [← e]; exact hx))).2 (h x (List.mem_cons_of_mem _ hx)))
  rw [List.length_erase_of_mem ha] at this
  have hp := List.length_pos_of_mem ha
  rw [List.length_cons]
  omega
theorem sep_tail {a : En} {r : List En} (h : ∀ i x y, (a :: r)[i]? = some x → (a :: r)[i + 1]? = some y → lastE x < y.id ∧ oneQ x y = false) : ∀ i x y, r[i]? = some x → r[i + 1]? = some y → lastE x < y.id ∧ oneQ x y = false :=
 fun i x y h1 h2 => h (i + 1) x y (by rwa [List.getElem?_cons_succ]) (by rwa [List.getElem?_cons_succ])
theorem rowQ_gr : ∀ (G : List En) (free : Nat), (∀ e ∈ G, 0 < e.run ∧ chkE e = 0 ∧ e.ok) → (∀ i x y, G[i]? = some x → G[i + 1]? = some y → lastE x < y.id ∧ oneQ x y = false) → (∀ x, G[0]? = some x → free ≤ x.id) → rowQ free G = 0
 | [], _, _, _, _ => rfl
 | a :: r, free, h1, h2, h3 => by
  have ha := h3 a rfl
  rw [rowQ, if_pos (h1 a List.mem_cons_self).2.1, if_neg (by omega)]
  exact rowQ_gr r _ (fun e he => h1 e (List.mem_cons_of_mem _ he)) (sep_tail h2) (fun x hx => (h2 0 a x rfl (by rwa [List.getElem?_cons_succ])).1)
theorem akeys_put (M : CtM) (k k' : Nat × Nat) (v : Nat) : k' ∈ jE1 (aput M k v) ↔ k' = k ∨ k' ∈ jE1 M := by
 have h1 := aget_none (M := aput M k v) (k := k')
 have h2 := aget_none (M := M) (k := k')
 rw [aget_put] at h1
 by_cases h : k = k'
 ·rw [if_pos h] at h1
  have : k' ∈ jE1 (aput M k v) := Classical.byContradiction fun hn => by have := h1.2 hn; cases this
  exact ⟨fun _ => .inl h.symm, fun _ => this⟩
 ·rw [if_neg h, h2] at h1
  constructor
  ·intro hm
   exact .inr (Classical.byContradiction fun hn => h1.1 hn hm)
  ·rintro (e | hm)
   ·exact absurd e.symm h
   ·exact Classical.byContradiction fun hn => h1.2 hn hm
theorem cst_keys : ∀ (L : List En) (M : CtM), (jE1 M).Nodup → (jE1 (L.foldl cst1 M)).Nodup ∧ ∀ k, k ∈ jE1 (L.foldl cst1 M) ↔ k ∈ jE1 M ∨ ∃ e ∈ L, (chkE e = 0 ∧ 0 < e.run) ∧ (e.off, e.len) = k
 | [], M, h => ⟨h, fun k => by simp⟩
 | a :: r, M, h => by
  rw [List.foldl_cons]
  unfold cst1
  split
  ·rename_i hc
   obtain ⟨h1, h2⟩ := cst_keys r (seeC M (a.off, a.len)) (nodup_put h _ _)
   refine ⟨h1, fun k => ?_⟩
   have := h2 k
   unfold cst1 at this
   rw [this]
   unfold seeC
   rw [akeys_put]
   constructor
   ·rintro ((e | h) | ⟨e, he, h⟩)
    ·exact .inr ⟨a, List.mem_cons_self, hc, e.symm⟩
    ·exact .inl h
    ·exact .inr ⟨e, List.mem_cons_of_mem _ he, h⟩
   ·rintro (h | ⟨e, he, h⟩)
    ·exact .inl (.inr h)
    ·rcases List.mem_cons.1 he with rfl | he
     ·exact .inl (.inl h.2.symm)
     ·exact .inr ⟨e, he, h⟩
  ·rename_i hc
   obtain ⟨h1, h2⟩ := cst_keys r M h
   refine ⟨h1, fun k => ?_⟩
   have := h2 k
   unfold cst1 at this
   rw [this]
   constructor
   ·rintro (h | ⟨e, he, h⟩)
    ·exact .inl h
    ·exact .inr ⟨e, List.mem_cons_of_mem _ he, h⟩
   ·rintro (h | ⟨e, he, h⟩)
    ·exact .inl h
    ·rcases List.mem_cons.1 he with rfl | he
     ·exact absurd h.1 hc
     ·exact .inr ⟨e, he, h⟩
theorem cst_len (L : List En) : (jE1 (cstM L)).length = (cstM L).length := by simp [jE1]
theorem its_exp (e : En) (D : List UInt8) : itsOf e D = (expE e).map fun u => ⟨u.id, txOf u D⟩ := by
 unfold itsOf expE
 rw [List.map_map]
 rfl
theorem its_all (D : List UInt8) : ∀ L : List En, L.flatMap (fun e => itsOf e D) = (L.flatMap expE).map fun u => ⟨u.id, txOf u D⟩
 | [] => rfl
 | a :: r => by rw [List.flatMap_cons, List.flatMap_cons, List.map_append, its_all D r, its_exp]
theorem mbR_gr (D : List UInt8) : ∀ (L : List En) (many : Nat) (out : List It), (∀ e ∈ L, 0 < e.run ∧ e.off + e.len ≤ D.length ∧ e.len ≤ 65536) → many + (L.flatMap expE).length ≤ 2048 → mbR D many out L = (0, out ++ L.flatMap fun e => itsOf e D)
 | [], _, out, _, _ => by rw [mbR]; simp
 | a :: r, many, out, h, hm => by
  obtain ⟨h1, h2, h3⟩ := h a List.mem_cons_self
  rw [List.flatMap_cons, List.length_append, expE_len] at hm
  have hw : mwrQ a (many + a.run) D = 0 := by
   unfold mwrQ
   rw [if_neg (by omega), if_neg (by omega), if_neg (by omega), if_neg (by omega)]
  rw [mbR, if_pos hw, mbR_gr D r _ _ (fun e he => h e (List.mem_cons_of_mem _ he)) (by omega), List.flatMap_cons, List.append_assoc]
structure WhOk (C : List It) (R : List En) (D : List UInt8) : Prop where
 eq : rowsS C = (R, tsS C)
 fl : (tsS C).flatten = D
 ts : TsOk (tsS C)
 tm : ∀ t, t ∈ tsS C ↔ ∃ x ∈ C, x.tx = t
 gr : GrOk (unitsQ C) R
 no : R.length ≤ 2048
 dl : D.length ≤ 134217728
theorem wh_ok {C : List It} (h : ChOk C) : WhOk C (rowsS C).1 (rowsS C).2.flatten := by
 have hne : ∀ x ∈ C, x.tx ≠ [] := fun x hx => (h.tx x hx).1
 have hr := rows_is hne
 have hrs := rows_ok h C.length (Nat.le_refl _)
 rw [List.take_length] at hrs
 have hlen := h.len
 obtain ⟨h1, h2⟩ := tsS_ok hne C.length (Nat.le_refl _)
 rw [List.take_length] at h1 h2
 have h22 : (rowsS C).2 = tsS C := by rw [hr]
 have hfl := hrs.fl
 have hno := hrs.no
 refine ⟨by rw [hr], by rw [h22], h1, h2, ?_, by omega, by omega⟩
 rw [hr]
 rw [h22] at hfl
 have := gr_fold (unitsQ C) [] [] GrOk.nil (fun u hu => ?_) ?_ ?_
 ·simpa using this
 ·obtain ⟨x, hx, rfl⟩ := List.mem_map.1 hu
  obtain ⟨x1, x2⟩ := h.tx x hx
  have x3 := h.lt x hx
  obtain ⟨c1, c2, c3⟩ := addC_mem h1.nd ((h2 x.tx).2 ⟨x, hx, rfl⟩)
  have hpos := List.length_pos_iff.2 x1
  refine ⟨rfl, chk_mk (by show (addC (tsS C) x.tx).2 ≠ 0; omega) (by show x.id + max 1 1 ≤ _; omega) (by show (addC (tsS C) x.tx).1 + (addC (tsS C) x.tx).2 ≤ _; omega), by show x.id < _; omega, by show (addC (tsS C) x.tx).1 < _; omega, by show (addC (tsS C) x.tx).2 < _; omega, by show 1 < _; omega⟩
 ·rw [List.nil_append]
  exact List.pairwise_map.2 h.rise
 ·simp only [List.nil_append, unitsQ, List.length_map]
  omega
section
variable {C : List It} {R : List En} {D : List UInt8}
theorem WhOk.ent (h : WhOk C R D) {e : En} (he : e ∈ R) : ∃ x ∈ C, (addC (tsS C) x.tx).1 = e.off ∧ (addC (tsS C) x.tx).2 = e.len ∧ x.id = e.id := by
 have hr := (h.gr.ok e he).1
 have hu : ({ e with id := e.id + 0, run := 1 } : En) ∈ unitsQ C := by
  rw [← h.gr.ex]
  exact List.mem_flatMap.2 ⟨e, he, expE_mem.2 ⟨0, hr, rfl⟩⟩
 obtain ⟨x, hx, hxe⟩ := List.mem_map.1 hu
 refine ⟨x, hx, congrArg En.off hxe, congrArg En.len hxe, ?_⟩
 have := congrArg En.id hxe
 simpa [enOf] using this
theorem WhOk.pos (h : WhOk C R D) {x : It} (hx : x ∈ C) : (D.drop (addC (tsS C) x.tx).1).take (addC (tsS C) x.tx).2 = x.tx ∧ (addC (tsS C) x.tx).1 + (addC (tsS C) x.tx).2 ≤ D.length ∧ (addC (tsS C) x.tx).2 = x.tx.length := by
 have := addC_mem h.ts.nd ((h.tm x.tx).2 ⟨x, hx, rfl⟩)
 rwa [h.fl] at this
theorem WhOk.ens (h : WhOk C R D) : jF2 R := fun e he => (h.gr.ok e he).2.2
theorem WhOk.exl (h : WhOk C R D) : (R.flatMap expE).length = C.length := by rw [h.gr.ex]; simp [unitsQ]
theorem WhOk.row (h : WhOk C R D) : rowC R = 0 := by
 unfold rowC
 have := h.no
 rw [if_neg (by omega)]
 exact rowQ_gr R 0 h.gr.ok h.gr.sep (fun _ _ => Nat.zero_le _)
theorem WhOk.nxt (h : WhOk C R D) {e : En} (he : e ∈ R) : e.off + e.len ≤ D.length ∧ e.next = e.off + e.len := by
 obtain ⟨x, hx, h1, h2, _⟩ := h.ent he
 have h3 := (h.pos hx).2.1
 have h4 := h.dl
 rw [h1, h2] at h3
 exact ⟨h3, by unfold En.next; omega⟩
theorem WhOk.back (h : WhOk C R D) (hok : ChOk C) : mbQ R D = (0, C) := by
 unfold mbQ
 rw [if_pos h.row]
 have hl := hok.len
 rw [mbR_gr D R 0 [] (fun e he => by
  obtain ⟨x, hx, h1, h2, _⟩ := h.ent he
  have h3 := (h.pos hx).2.2
  have h4 := (hok.tx x hx).2
  exact ⟨(h.gr.ok e he).1, (h.nxt he).1, by omega⟩) (by rw [h.exl]; omega), its_all, h.gr.ex, List.nil_append]
 congr 1
 unfold unitsQ
 rw [List.map_map]
 have : ∀ x ∈ C, ((fun u : En => (⟨u.id, txOf u D⟩ : It)) ∘ enOf (tsS C)) x = x := fun x hx => by
  show (⟨x.id, (D.drop (addC (tsS C) x.tx).1).take (addC (tsS C) x.tx).2⟩ : It) = x
  rw [(h.pos hx).1]
 rw [List.map_congr_left this, List.map_id']
end
theorem tsS_fl6 : ∀ (C : List It) (ts : List Tx), (C.foldl (fun ts x => addT ts x.tx) ts).flatten.length ≤ ts.flatten.length + jD8 C
 | [], ts => by simp [jD8]
 | x :: r, ts => by
  rw [List.foldl_cons]
  have h1 := tsS_fl6 r (addT ts x.tx)
  have h2 := (addT_fl ts x.tx).2
  have h3 : jD8 (x :: r) = x.tx.length + jD8 r := by simp [jD8]
  omega
theorem own_bytes (L : List It) : jD8 (ownQ L) ≤ jD8 L := by
 have : ∀ (L acc : List It), ChOk acc → jD8 (L.foldl (fun acc e => Go.Proofs.YtkojkeabelckjaaGreatDoor.putQ e.id e.tx acc) acc) ≤ jD8 acc + jD8 L := by
  intro L
  induction L with
  | nil => intro acc _; simp [jD8]
  | cons x r ih =>
   intro acc h
   rw [List.foldl_cons]
   have h1 := ih _ (h.putQ x.id x.tx)
   have h2 : jD8 (Go.Proofs.YtkojkeabelckjaaGreatDoor.putQ x.id x.tx acc) ≤ jD8 acc + x.tx.length := by
    unfold Go.Proofs.YtkojkeabelckjaaGreatDoor.putQ
    split
    ·exact put_bytes h.rise _ _
    ·omega
   have h3 : jD8 (x :: r) = x.tx.length + jD8 r := by simp [jD8]
   omega
 have := this L [] ChOk.nil
 simpa [ownQ, jD8] using this
end Go.Proofs.YtkojkeabelckjaaGreatDoor.V
end

section
set_option linter.all false
namespace Go.Proofs.YtkojkeabelckjaaGreatDoor
open Go.RowKit
def FnD (P : Program) (f : FuncId) (args : List Value) (H : Heap) (R : Value → Heap → Prop) : Prop :=
 Enters P f ∧ ∀ w u, Sat w (wrs H) H w → CallsDIn Fence.wide 0 P f args.toArray u w fun e u' w' => u' = u ∧ FnPost w (wrs H) R e w'
theorem FnD.enter {P : Program} {N : Nat} {f : FuncId} {fn : Func} {c : Code} {args : List Value} {H : Heap} {R : Value → Heap → Prop} (hf : P.funcs[f]? = some fn) (hb : fn.body = some c) (hn : (fn.name == "runtime.NumGoroutine") = false) (hN : args.length + (fn.ntmps - args.length) = N)
  (h : ∀ w0, awp P ⟨N, none, []⟩ w0 (wrs H) c (enumFr 0 args) H (bodyPost P fn (FnPost w0 (wrs H) R))) : FnD P f args H R := by
 refine ⟨⟨fn, hf, hn, by simp [hb]⟩, fun w u hw => callsDIn_of_wp (n := 0) hf hb trivial (h w _ w ⟨?_, rfl, ?_⟩ hw (fun e => by cases e))⟩
 ·simp [← hN]
 ·intro t v ht
  obtain ⟨k, rfl, hk⟩ := lk_enum args 0 t v ht
  have hl : k < args.length := (List.getElem?_eq_some_iff.1 hk).1
  simp only [Nat.zero_add]
  rw [Array.getElem?_append_left (by simpa using hl)]
  simpa using hk
section
variable {P : Program} {n : Nat} {ds : List Mk} {w0 : World} {Wr : List Nat} {fr : Fr} {H : Heap} {Q : Exit → Act → World → Prop}
theorem undefer {fn : Func} {R : Ending → World → Prop} {f : FuncId} {caps : List Value} {Rd : Value → Heap → Prop} (Hc K : Heap) (hc : FnD P f caps Hc Rd) (hk : HLe (Hc ++ K) H)
  (h : ∀ v H', Rd v H' → ∀ a w, FrOk ⟨n, none, ds⟩ fr a → Sat w0 Wr (H'.filter Ent.wr ++ K) w → LeavesInM Fence.wide 0 P fn a.tmps R a.defers .returning w) :
  ∀ a w, FrOk ⟨n, none, .fn f caps :: ds⟩ fr a → Sat w0 Wr H w → LeavesInM Fence.wide 0 P fn a.tmps R a.defers .returning w := fun a w ha hw => by
 rw [ha.defers]
 have hw' := hk _ _ _ hw
 have hpre : Sat w (wrs Hc) Hc w := (hw'.sub (List.sublist_append_left Hc K)).base
 obtain ⟨g, h1, h2, h3⟩ := hc.1
 have h2' : ¬ (g.name = "runtime.NumGoroutine") := by simpa using h2
 have h3' : ¬ (g.body = none) := by intro e; rw [e] at h3; cases h3
 refine ⟨by simp, .inr ⟨(fun e => by cases e), .func f, caps.toArray, f, caps.toArray, rfl, ?_, (fun _ _ => trivial), ?_⟩⟩
 ·simp [markOf, invoke, callFunc, h1, h2', h3', program, Sem.run_bind, Sem.run_pure, Sem.run]
 ·refine (hc.2 w .returning hpre).mono fun e u' w' he => ?_
  obtain ⟨rfl, v, H', rfl, hR, hS⟩ := he
  have h4 := Sat.callA (Hc := Hc) (K := K) (U := []) hw' Ro.nil (by rw [List.append_nil]; exact hS)
  exact h v H' hR { tmps := a.tmps, defers := ds.map markOf } w' ⟨ha.size, rfl, ha.at_⟩ h4
theorem nx_undefer {fn : Func} {R : Ending → World → Prop} {f : FuncId} {caps : List Value} {Rd : Value → Heap → Prop} (Hc K : Heap) (hc : FnD P f caps Hc Rd) (hk : HLe (Hc ++ K) H)
  (h : ∀ v H', Rd v H' → nx ⟨n, none, ds⟩ w0 Wr fr (H'.filter Ent.wr ++ K) (bodyM P fn R) .ret) : nx ⟨n, none, .fn f caps :: ds⟩ w0 Wr fr H (bodyM P fn R) .ret := undefer Hc K hc hk h
theorem awp_defer {id d : Nat} {f : FuncId} {xs : List Operand} {vs : List Value} {ty ty' : Nat} {pos pos' : String} {after after' : Array Edge} {y : Code} (hx : evs fr xs = some vs) (hN : Nat.ble (d + 1) n = true)
  (h : awp P ⟨n, none, .fn f vs :: ds⟩ w0 Wr y ((d, .func (.func f) #[] vs.toArray) :: fr) H Q) :
  awp P ⟨n, none, ds⟩ w0 Wr (.seq (.region id [⟨some d, .makeFunc (.func f) #[] xs.toArray, ty, pos, after, none⟩, ⟨none, .defer { callee := .value (.tmp d), args := #[], argTypes := #[] }, ty', pos', after', none⟩].toArray false) y) fr H Q := by
 refine aS fun a w ha hw => wq_lit (wpList_plain rfl fun K hK => ?_)
 unfold Oper.wp
 have hxs := ha.evals hx
 have e1 : (execOp a.eval ⟨some d, .makeFunc (.func f) #[] xs.toArray, ty, pos, after, none⟩).run P w = .ok (.value (.func (.func f) #[] vs.toArray)) w := by
  have hv : xs.toArray.map a.eval = vs.toArray := by simp [hxs]
  simp [execOp, Instr.makeFunc, Sem.run_bind, Sem.run_pure, hxs]
 rw [e1]
 have hb := ha.put (d := d) hN (.func (.func f) #[] vs.toArray)
 refine hK _ _ (wpList_plain rfl fun K hK => ?_)
 unfold Oper.wp
 have hev := hb.eval (x := .tmp d) (v := .func (.func f) #[] vs.toArray) (by simp [ev, lk])
 have e2 : (execOp (a.put (some d) (.func (.func f) #[] vs.toArray)).eval ⟨none, .defer { callee := .value (.tmp d), args := #[], argTypes := #[] }, ty', pos', after', none⟩).run P w = .ok (.defer (markOf (.fn f vs))) w := by
  simp [execOp, resolve, hev, Deferred.ofValue, markOf, Sem.run_bind, Sem.run_pure]
 rw [e2]
 refine hK _ _ ⟨rfl, h _ w ⟨?_, ?_, ?_⟩ hw⟩
 ·exact hb.size
 ·show markOf (.fn f vs) :: (a.put (some d) (.func (.func f) #[] vs.toArray)).defers = _
  rw [hb.defers]
  rfl
 ·exact hb.at_
end
end Go.Proofs.YtkojkeabelckjaaGreatDoor
end

section
set_option linter.all false
namespace Go.Proofs.YtkojkeabelckjaaGreatDoor
open Go.RowKit Go.Proofs.YtkojkeabelckjaaGreatDoor.V Go.Proofs.YtkojkeabelckjaaGreatDoor.Y
set_option maxRecDepth 100000
section
variable {P : Program} {N : Frm} {w0 : World} {Wr : List Nat} {ops : Array Oper} {rest : List Oper} {fr : Fr} {H : Heap} {Z : Fr → Heap → Prop}
variable {d ty : Nat} {pos : String} {after : Array Edge}
theorem sx_assertYes {t xT e : TypeId} {x : Operand} {v : Value} (ht : P.underlying t = some (.slice e)) (hx : ev fr x = some (.iface t v)) (hN : Nat.ble (d + 1) N.n = true)
  (h : sx P N w0 Wr ops rest ((d, .tuple #[v, .bool true]) :: fr) H Z) : sx P N w0 Wr ops (⟨some d, .typeAssert x xT t true, ty, pos, after, none⟩ :: rest) fr H Z :=
 jE3 _ hN (fun a w ha _ => by
  simp [execOp, Instr.typeAssert, ha.eval hx, Sem.run_bind, run_underlying ht]) h
end
structure Pn where
 b : Nat
 k : Nat
 note : List UInt8
abbrev Pn.cells (p : Pn) : List Value := [iq (p.b : Nat), .int .u8 (p.k : Nat), .string (str p.note)]
def NoteOk (note : List UInt8) : Prop := Fn Tryz.prog 45 [.string (str note)] [] fun u _ => ∃ x n, u = .tuple #[.iface 108 x, iq (n : Nat), iq 0]
theorem note0 : NoteOk [123, 125] := by
 obtain ⟨h1, h2⟩ := take0_fn [123, 125] (by decide) (by decide) (by decide) (by decide)
 exact ⟨h1, fun w hw => (h2 w hw).mono fun e w' he => by
  obtain ⟨v, H', e1, ⟨A, c, e2⟩, e3⟩ := he
  exact ⟨v, H', e1, ⟨_, _, e2⟩, e3⟩⟩
theorem pcheck_fn (p : Pn) (hb : 512 ≤ p.b ∧ p.b ≤ 16257) (hk : p.k ≤ 5) (hn : NoteOk p.note) : Fn Tryz.prog 21 [.agg p.cells.toArray] [] fun v _ => v = iq 0 := by
 refine Fn.enter (N := 38) Tryz.func21 rfl (by kernel_rfl) rfl (fun w0 => ?_)
 refine aR (fun Z hZ => ?_)
 refine jC3 rfl rfl rfl (fun g1 => ?_)
 refine sA rfl rfl <| sN (hZ _ _ ?_)
 refine aF [(1, _)] (Kn.cons rfl (Kn.nil)) ?_
 refine aS (aB ?_)
 refine jA7 [(1, ptr g1 0), (8, .bool false)] [.own g1 31 p.cells] (fun Z hZ => ?_) ?_
 ·refine sFA rfl tyF31_0 (by simp only [Nat.add_zero]; rfl) rfl ?_
  first | refine sL 0 rfl rfl tyA3 tyS3 rfl rfl ?_
  refine jC4 rfl rfl rfl ?_
  refine sM rfl rfl ?_
  refine jF8 12 rfl false (by simp; omega) ?_
  refine sOn rfl rfl rfl ?_
  refine sFA rfl tyF31_0 (by simp only [Nat.add_zero]; rfl) rfl ?_
  refine sOn rfl rfl rfl ?_
  first | refine sL 0 rfl rfl tyA3 tyS3 rfl rfl ?_
  refine sOn rfl rfl rfl ?_
  refine jF3 rfl rfl rfl ?_
  refine sP rfl rfl rfl <| sA rfl rfl ?_
  refine sN (hZ _ _ ?_ ?_)
  ·exact Kn.cons rfl (Kn.cons (congrArg some (congrArg Value.bool (by simp; omega))) Kn.nil)
  ·exact HLe.refl _
 refine aC rfl (fun h => ?_) (fun h => ?_)
 ·cases h
 refine aR (fun Z hZ => ?_)
 refine sFA rfl tyF31_1 (by simp only [Nat.zero_add]; rfl) rfl ?_
 first | refine sL 0 rfl rfl tyA5 tyS5 rfl rfl ?_
 refine jF3 rfl rfl rfl ?_
 refine sA rfl rfl <| sN (hZ _ _ ?_)
 refine aF [(1, _), (17, _)] (kR rfl) ?_
 refine aC rfl (fun h => ?_) (fun h => ?_)
 ·simp at h; omega
 refine aK ?_
 repeat (with_reducible refine nBN ?_)
 with_reducible refine nN ?_
 refine aR (fun Z hZ => ?_)
 refine sFA rfl tyF31_2 (by simp only [Nat.zero_add]; rfl) rfl ?_
 first | refine sL 0 rfl rfl tyA9 tyS9 rfl rfl ?_
 refine sx_callA [] [] [.own g1 31 p.cells] hn rfl (HLe.refl _) (List.nil_sublist _) Ro.nil rfl ?_
 rintro v H' ⟨x, m, rfl⟩
 refine jC1 [.own g1 31 p.cells] (HLe.sub (List.sublist_append_right _ _)) ?_
 refine sM rfl rfl <| sX rfl rfl rfl <| sX rfl rfl rfl <| sX rfl rfl rfl <| sA rfl rfl <| sA rfl rfl <| sA rfl rfl <| sN (hZ _ _ ?_)
 refine aF [(3, _), (5, _)] (kR rfl) ?_
 refine aS ?_
 refine aR fun Z hZ => sM rfl rfl ?_
 refine jE5 rfl rfl rfl ?_
 refine sN (hZ _ _ ?_)
 refine aF [(3, _), (5, _), (29, _)] (kR rfl) ?_
 refine aC rfl (fun h => ?_) (fun h => ?_)
 ·cases h
 refine aK ?_
 with_reducible refine nN ?_
 refine aS ?_
 refine aR fun Z hZ => sM rfl rfl ?_
 refine sx_assertYes Tryz.underlying108 rfl rfl ?_
 refine sM rfl rfl <| sX rfl rfl rfl <| sX rfl rfl rfl <| sA rfl rfl <| sA rfl rfl <| sN (hZ _ _ ?_)
 refine aF [(7, _)] (Kn.cons rfl (Kn.nil)) ?_
 refine aR fun Z hZ => sM rfl rfl ?_
 refine sx_not rfl rfl ?_
 refine sN (hZ _ _ ?_)
 refine aF [(37, _)] (Kn.cons rfl (Kn.nil)) ?_
 refine aC rfl (fun h => ?_) (fun h => ?_)
 ·cases h
 refine aK ?_
 with_reducible refine nN ?_
 refine aR fun Z hZ => sA rfl rfl <| sN (hZ _ _ ?_)
 refine aF [(2, _)] (Kn.cons rfl (Kn.nil)) ?_
 refine aE ?_
 exact nR1 rfl rfl rfl
theorem cstM_le (L : List En) : (cstM L).length ≤ L.length := by
 obtain ⟨h1, h2⟩ := cst_keys L [] List.nodup_nil
 rw [← cst_len]
 have := len_le_sub (jE1 (cstM L)) (L.map fun e => (e.off, e.len)) h1 (fun k hk => by
  rcases (h2 k).1 hk with h3 | ⟨e, he, _, h3⟩
  ·simp [jE1] at h3
  ·exact List.mem_map.2 ⟨e, he, h3⟩)
 rwa [List.length_map] at this
def headQ (L : List It) (R : List En) (k : Nat) : Hdr :=
 ⟨0, 0, 0, 0, 0, 0, 0, 0, L.length, R.length, (cstM R).length, true, 1, 1, k, zLo L, zHi L, -1800000000, -850511287, 1800000000, 850511287, zLo L, 0, 0⟩
theorem phead_fn (A : Option Addr) (c : Nat) (L : List It) (T : Heap) (hA : jH1 A L.length) (hT : 0 < L.length → T = roE A (jA0 L)) (hro : Ro T) (hL : L.length ≤ 100000) (hk : ItsOk L)
  (B : Option Addr) (d : Nat) (R : List En) (U : Heap) (hB : jH1 B R.length) (hU : 0 < R.length → U = roE B (jA1 R)) (hroU : Ro U) (hR : R.length ≤ 100000) (hE : jF2 R) (k : Nat) :
  Fn Tryz.prog 26 [chV A L.length c, .slice B R.length d, .int .u8 (k : Nat)] (T ++ U) fun v _ => v = (headQ L R k).val := by
 refine Fn.enter (N := 35) Tryz.func26 rfl (by kernel_rfl) rfl (fun w0 => ?_)
 refine aR (fun Z hZ => ?_)
 refine jC3 rfl rfl rfl (fun g1 => ?_)
 refine sAl tyZ78 rfl (fun g2 => ?_)
 refine sN (hZ _ _ ?_)
 refine aF [(1, _), (2, _), (3, _), (6, _)] (kR rfl) ?_
 have hlen : ∀ n : Nat, n ≤ 100000 → IntKind.u64.wrap ((n : Nat) : Int) = ((n : Nat) : Int) := fun n hn => IntWalk.u64_in _ ⟨by omega, by omega⟩
 have hcs := cstM_le R
 refine aR (fun Z hZ => ?_)
 refine sLA 1 rfl rfl tyA27 tyS27 rfl (by simp only [qS, Value.cells]; rfl) rfl ?_
 refine sCP (len_fn A L.length c) rfl rfl ?_
 refine jC2 Tryz.underlying3 Tryz.underlying45 rfl _ (hlen _ hL) rfl ?_
 refine sM rfl rfl ?_
 refine jD9 Tryz.underlying68 rfl rfl ?_
 refine jC2 Tryz.underlying3 Tryz.underlying45 rfl _ (hlen _ hR) rfl ?_
 refine sM rfl rfl ?_
 refine jD6 U (contents_fn B d R U hB hU hR hE) rfl ((List.sublist_append_right T U).trans (List.sublist_append_right [_, _] _)) hroU rfl ?_
 refine jC2 Tryz.underlying3 Tryz.underlying45 rfl _ (hlen _ (by omega)) rfl ?_
 refine sM rfl rfl ?_
 refine jD1 (cs := [uq 0, uq 0, uq 0, uq 0, uq 0, uq 0, uq 0, uq 0, uq L.length, uq R.length, uq (cstM R).length, .bool true, ub 1, ub 1, ub k, iq 0, iq 0, iq 0, iq 0, iq 0, iq 0, iq 0, iq 0, iq 0]) tyZ78 tyP78 rfl (by kernel_rfl) rfl rfl ?_
 refine sAl tyZ78 rfl (fun g3 => ?_)
 refine sS 0 rfl rfl rfl tyS78 (by simp only [Value.cells]; rfl) rfl rfl rfl (by simp only [qS, Nat.reduceAdd, wrV]; rfl) (by simp only [List.set_cons_zero]; rfl) ?_
 refine sN (hZ _ _ ?_)
 refine aF [(3, _), (6, _), (7, _)] (kR rfl) ?_
 refine aR (fun Z hZ => ?_)
 refine sLA 2 rfl rfl tyA27 tyS27 rfl (by simp only [qS, Value.cells]; rfl) rfl ?_
 refine jD6 T (zooms_fn A c L T hA hT hro (by omega) hk) rfl ((List.sublist_append_left T U).trans (List.sublist_append_right [_, _, _] _)) hro rfl ?_
 refine sM rfl rfl <| sX rfl rfl rfl <| sX rfl rfl rfl <| sX rfl rfl rfl ?_
 refine sFA rfl tyF78_11 (by simp only [Nat.zero_add]; rfl) rfl ?_
 refine sS1 0 rfl rfl rfl tyS3 rfl rfl (by simp only [qS]; rfl) (by simp only [List.set_cons_zero]; rfl) ?_
 refine sFA rfl tyF78_12 (by simp only [Nat.zero_add]; rfl) rfl ?_
 refine sS1 0 rfl rfl rfl tyS3 rfl rfl (by simp only [qS]; rfl) (by simp only [List.set_cons_zero]; rfl) ?_
 refine sN (hZ _ _ ?_)
 refine aF [(6, _), (7, _)] (kR rfl) ?_
 refine aR (fun Z hZ => ?_)
 refine sFA rfl tyF78_11 (by simp only [Nat.zero_add]; rfl) rfl ?_
 refine sL 0 rfl rfl tyA3 tyS3 rfl rfl ?_
 refine sFA rfl tyF78_17 (by simp only [Nat.zero_add]; rfl) rfl ?_
 refine sS1 0 rfl rfl rfl tyS3 rfl rfl (by simp only [qS]; rfl) (by simp only [List.set_cons_zero]; rfl) ?_
 refine sN (hZ _ _ ?_)
 refine aF [(6, _), (7, _)] (kR rfl) ?_
 refine aR (fun Z hZ => ?_)
 refine sFA rfl tyF78_13 (by simp only [Nat.zero_add]; rfl) rfl ?_
 refine sS1 0 rfl rfl rfl tyS3 rfl rfl (by simp only [qS]; rfl) (by simp only [List.set_cons_zero]; rfl) ?_
 refine sFA rfl tyF78_15 (by simp only [Nat.zero_add]; rfl) rfl ?_
 refine sS1 0 rfl rfl rfl tyS3 rfl rfl (by simp only [qS]; rfl) (by simp only [List.set_cons_zero]; rfl) ?_
 refine sFA rfl tyF78_14 (by simp only [Nat.zero_add]; rfl) rfl ?_
 refine sS1 0 rfl rfl rfl tyS3 rfl rfl (by simp only [qS]; rfl) (by simp only [List.set_cons_zero]; rfl) ?_
 refine sFA rfl tyF78_16 (by simp only [Nat.zero_add]; rfl) rfl ?_
 refine sS1 0 rfl rfl rfl tyS3 rfl rfl (by simp only [qS]; rfl) (by simp only [List.set_cons_zero]; rfl) ?_
 refine sN (hZ _ _ ?_)
 refine aF [(6, _), (7, _)] (kR rfl) ?_
 refine aR (fun Z hZ => ?_)
 refine sLA 0 rfl rfl tyA78 tyS78 rfl (by simp only [qS]; rfl) rfl ?_
 refine sS 1 rfl rfl rfl tyS78 (by simp only [Value.cells]; rfl) rfl rfl rfl (by simp only [qS, Nat.reduceAdd, wrV]; rfl) (by simp only [qS]; rfl) ?_
 refine sN (hZ _ _ ?_)
 refine aF [(6, _)] (Kn.cons rfl (Kn.nil)) ?_
 refine aE ?_
 exact jD4 [] rfl (ResOk.cell 1 rfl rfl tyA78 tyS78 rfl) (HLe.sub (List.nil_sublist _)) rfl
abbrev errE (g : Nat) (e : Int) : Ent := .own g 32 [iq e]
abbrev strE (g : Nat) (s : List UInt8) : Ent := .own g 9 [.string (str s)]
theorem pdef_fn (ge gs : Nat) (e : Int) (s : List UInt8) : FnD Tryz.prog 20 [ptr ge 0, ptr gs 0] [errE ge e, strE gs s] fun v H' => v = .tuple #[] ∧ H' = [errE ge e, strE gs (if e = 0 then s else [])] := by
 refine FnD.enter (N := 4) Tryz.func20 rfl (by kernel_rfl) rfl (fun w0 => ?_)
 refine aR (fun Z hZ => ?_)
 refine sL 0 rfl rfl tyA32 tyS32 rfl rfl ?_
 refine jE5 rfl rfl rfl ?_
 refine sN (hZ _ _ ?_)
 refine aF [(1, _), (3, _)] (kR rfl) ?_
 refine aC rfl (fun h => ?_) (fun h => ?_)
 ·have h' : e ≠ 0 := by simpa using h
  rw [if_neg h']
  refine aG (fun Z hZ => ?_)
  refine sS1 1 rfl rfl rfl tyS9 rfl rfl (by simp only [List.set_cons_zero]; rfl) (by simp only [qS]; rfl) ?_
  refine sN (hZ _ _ ?_)
  refine nF [] (Kn.nil) ?_
  exact nx_end0h _ rfl (HLe.refl _) ⟨rfl, rfl⟩
 ·have h' : e = 0 := by simpa using h
  subst h'
  refine aK ?_
  exact nx_end0h _ rfl (HLe.refl _) ⟨rfl, rfl⟩
def prR (L : List It) : List En := (rowsS L).1
def prD (L : List It) : List UInt8 := (rowsS L).2.flatten
def prS (L : List It) (b : Nat) : List En × List UInt8 × Nat × Nat := splitQ (prR L) (b : Nat)
def prP (L : List It) (p : Pn) : P4 := ⟨(encQ (prS L p.b).1).1, p.note, (prS L p.b).2.1, prD L⟩
def prH (L : List It) (p : Pn) : Hdr := headQ L (prR L) p.k
def prE (L : List It) (p : Pn) : Int := if (prS L p.b).2.2.2 ≠ 0 then ((prS L p.b).2.2.2 : Nat) else if (encQ (prS L p.b).1).2 ≠ 0 then ((encQ (prS L p.b).1).2 : Nat) else jG3 (glueH (prH L p) (prP L p))
def prT (L : List It) (p : Pn) : List UInt8 := if prE L p = 0 then glueS (prH L p) (prP L p) else []
structure PrOk (L : List It) (p : Pn) : Prop where
 ok : ChOk L
 b : 512 ≤ p.b ∧ p.b ≤ 16257
 k : p.k ≤ 5
 note : NoteOk p.note
 parts : (prP L p).Ok
 root : (prS L p.b).1.length ≤ 10000 ∧ jF2 (prS L p.b).1
 rows : (prR L).length ≤ 10000 ∧ jF2 (prR L)
theorem headQ_ok {L : List It} {R : List En} {k : Nat} (hL : L.length ≤ 100000) (hR : R.length ≤ 100000) (hk : k ≤ 5) : (headQ L R k).Ok := by
 have := cstM_le R
 refine ⟨?_, ?_, ?_, ?_, ?_, ?_, ?_, ?_, ?_, ?_, ?_, ?_, ?_, ?_⟩ <;> simp only [headQ] <;> omega
theorem le_in (S G R T : Heap) : HLe (S ++ (G ++ (R ++ T))) (R ++ (S ++ (G ++ T))) := fun _ _ _ hw => hw.perm (by
 have h1 := List.perm_append_comm_assoc R (S ++ G) T
 simp only [List.append_assoc] at h1 ⊢
 exact h1)
theorem SlOk.nil' {A : Option Addr} {n : Nat} (h : SlOk A n) : A = none → n = 0 := by
 rcases h with ⟨rfl, rfl⟩ | ⟨g, o, rfl⟩
 ·exact fun _ => rfl
 ·exact fun h => by cases h
theorem press_fn (A : Option Addr) (c : Nat) (L : List It) (T : Heap) (hA : jH1 A L.length) (hT : 0 < L.length → T = roE A (jA0 L)) (hro : Ro T) (p : Pn) (h : PrOk L p) :
  Fn Tryz.prog 8 [chV A L.length c, .agg p.cells.toArray] T fun v _ => v = .tuple #[.string (str (prT L p)), iq (prE L p)] := by
 have hlen := h.ok.len
 have hrows := mrows_fn A c L T hA hT hro h.ok
 obtain ⟨R, hR⟩ : ∃ R, (rowsS L).1 = R := ⟨_, rfl⟩
 obtain ⟨D, hD⟩ : ∃ D, (rowsS L).2.flatten = D := ⟨_, rfl⟩
 have hRl := h.rows.1
 have hRo := h.rows.2
 rw [show prR L = R from hR] at hRl hRo
 rw [hR, hD] at hrows
 refine Fn.enterM (n := 56) Tryz.func8 rfl (by kernel_rfl) rfl (fun w0 => ?_)
 refine aR (fun Z hZ => ?_)
 refine jC3 rfl rfl rfl (fun g1 => ?_)
 refine jC3 rfl rfl rfl (fun g2 => ?_)
 refine sAl tyZ9 rfl (fun g3 => ?_)
 refine sAl tyZ32 rfl (fun g4 => ?_)
 refine sN (hZ _ _ ?_)
 refine aF [(2, _), (3, _), (4, _), (5, _)] (kR rfl) ?_
 refine awp_defer (vs := [ptr g4 0, ptr g3 0]) rfl rfl ?_
 refine aS ?_
 refine aR (fun Z hZ => ?_)
 refine sLA 2 rfl rfl tyA31 tyS31 rfl (by simp only [qS, Value.cells]; rfl) rfl ?_
 refine sCP (pcheck_fn p h.b h.k h.note) rfl rfl ?_
 refine sS1 0 rfl rfl rfl tyS32 rfl rfl (by simp only [List.set_cons_zero]; rfl) (by simp only [List.set_cons_zero]; rfl) ?_
 refine sN (hZ _ _ ?_)
 refine aF [(2, _), (3, _), (4, _), (5, _)] (kR rfl) ?_
 refine aR (fun Z hZ => ?_)
 refine sL 0 rfl rfl tyA32 tyS32 rfl rfl ?_
 refine jE5 rfl rfl rfl ?_
 refine sN (hZ _ _ ?_)
 refine aF [(2, _), (3, _), (4, _), (5, _), (16, _)] (kR rfl) ?_
 refine aC rfl (fun h1 => ?_) (fun h1 => ?_)
 ·cases h1
 refine aK ?_
 with_reducible refine nN ?_
 refine jA8 ([errE g4 0, strE g3 []] ++ ([.own g2 31 p.cells, .own g1 27 [.slice A L.length c]] ++ T)) (HLe.refl _) ?_
 refine aR (fun Z hZ => ?_)
 refine sLA 3 rfl rfl tyA27 tyS27 rfl (by simp only [qS]; rfl) rfl ?_
 refine sx_callA [] T ([errE g4 0, strE g3 []] ++ ([.own g2 31 p.cells, .own g1 27 [.slice A L.length c]] ++ T)) hrows rfl (HLe.refl _) ((List.sublist_append_right [_, _] T).trans (List.sublist_append_right [_, _] _)) hro rfl ?_
 rintro v H' ⟨u, rfl, hu, rfl⟩
 rw [jE4]
 obtain ⟨B, d, rfl, hB, hle⟩ := hu.ro
 refine sx_pure (fun w hw => Go.Proofs.YtkojkeabelckjaaGreatDoor.row_cap hu (fun x hx => List.mem_append_left _ hx) hw) (fun hcap => ?_)
 refine jC1 ([errE g4 0, strE g3 []] ++ ([.own g2 31 p.cells, .own g1 27 [.slice A L.length c]] ++ (roE B (jA1 R) ++ T))) ((le_in [_, _] [_, _] _ T).trans (hle [] _ _ _ _)) ?_
 refine sM rfl rfl <| sX rfl rfl rfl <| sX rfl rfl rfl <| sA rfl rfl <| sA rfl rfl <| sN (hZ _ _ ?_)
 refine aF [(2, _), (3, _), (4, _), (5, _), (6, _), (7, _)] (kR rfl) ?_
 have hnil : B = none → R.length = 0 := hB.nil'
 have hsp := split_fn B d R (roE B (jA1 R)) (p.b : Nat) hB.arg (fun _ => rfl) (Ro.roE _ _) hRl hRo hnil hcap.1
 obtain ⟨sp, hsp'⟩ : ∃ sp, splitQ R (p.b : Nat) = sp := ⟨_, rfl⟩
 have hS : prS L p.b = sp := by rw [← hsp', ← hR]; rfl
 rw [hsp'] at hsp
 have hroot := h.root
 rw [hS] at hroot
 refine aR fun Z hZ => sM rfl rfl ?_
 refine sFA rfl tyF31_0 (by simp only [Nat.add_zero]; rfl) rfl ?_
 refine sL 2 rfl rfl tyA3 tyS3 rfl rfl ?_
 refine sx_callA [] (roE B (jA1 R)) ([errE g4 0, strE g3 []] ++ ([.own g2 31 p.cells, .own g1 27 [.slice A L.length c]] ++ (roE B (jA1 R) ++ T))) hsp rfl (HLe.refl _) (((List.sublist_append_left (roE B (jA1 R)) T).trans (List.sublist_append_right [_, _] _)).trans (List.sublist_append_right [_, _] _)) (Ro.roE _ _) rfl ?_
 rintro v H' ⟨u2, rfl, hu2, rfl⟩
 rw [jE4]
 obtain ⟨B2, d2, rfl, hB2, hle2⟩ := hu2.ro
 refine jC1 ([errE g4 0, strE g3 []] ++ ([.own g2 31 p.cells, .own g1 27 [.slice A L.length c]] ++ (roE B2 (jA1 sp.1) ++ (roE B (jA1 R) ++ T)))) ((le_in [_, _] [_, _] _ _).trans (hle2 [] _ _ _ _)) ?_
 refine sM rfl rfl <| sX rfl rfl rfl <| sX rfl rfl rfl <| sX rfl rfl rfl <| sX rfl rfl rfl <| sA rfl rfl <| sA rfl rfl <| sA rfl rfl ?_
 refine sS1 0 rfl rfl rfl tyS32 rfl rfl (by simp only [List.set_cons_zero]; rfl) rfl ?_
 refine sN (hZ _ _ ?_)
 refine aF [(2, _), (3, _), (4, _), (5, _), (6, _), (7, _), (8, _), (9, _)] (kR rfl) ?_
 refine jA8 ([errE g4 (sp.2.2.2 : Nat), strE g3 []] ++ ([.own g2 31 p.cells, .own g1 27 [.slice A L.length c]] ++ (roE B2 (jA1 sp.1) ++ (roE B (jA1 R) ++ T)))) (HLe.refl _) ?_
 refine aS ?_
 refine aR (fun Z hZ => ?_)
 refine sL 0 rfl rfl tyA32 tyS32 rfl rfl ?_
 refine jE5 rfl rfl rfl ?_
 refine sN (hZ _ _ ?_)
 refine aF [(2, _), (3, _), (4, _), (5, _), (6, _), (7, _), (8, _), (9, _), (32, _)] (kR rfl) ?_
 refine aC rfl (fun h1 => ?_) (fun h1 => ?_)
 ·have h1' : sp.2.2.2 ≠ 0 := by simpa using h1
  have hE : prE L p = (sp.2.2.2 : Nat) := by unfold prE; rw [hS, if_pos h1']
  have hT0 : prT L p = [] := by unfold prT; rw [hE, if_neg (by omega)]
  refine awr_seq_region (fun j : Unit => [(4, ptr g3 0), (5, ptr g4 0)]) (fun j => [errE g4 (sp.2.2.2 : Nat), strE g3 []] ++ ([.own g2 31 p.cells, .own g1 27 [.slice A L.length c]] ++ (roE B2 (jA1 sp.1) ++ (roE B (jA1 R) ++ T)))) (fun j => True) _ [0, 1, 2] (Tr.fork (Tr.step (0, false) (Tr.step (1, false) (Tr.step (2, false) Tr.nil))) (Tr.step (1, false) (Tr.step (0, false) (Tr.step (2, false) Tr.nil)))) mixed (by kernel_rfl) (HLe.pick [] (by simp) (by simp only [pick, List.filterMap_nil]; rfl)) ?_ ?_
  ·refine tt_fork ?_ ?_
   ·refine tt_g rfl ?_
    refine sL 0 rfl rfl tyA32 tyS32 rfl rfl ?_
    refine sN ⟨HLe.pick [] (by simp) rfl, ?_⟩
    refine tt_g rfl ?_
    refine sS1 1 rfl rfl rfl tyS9 rfl rfl (by simp only [List.set_cons_zero]; rfl) rfl ?_
    refine sN ⟨HLe.pick [] (by simp) rfl, ?_⟩
    refine tt_g rfl ?_
    refine sS1 0 rfl rfl rfl tyS32 rfl rfl (by simp only [List.set_cons_zero]; rfl) rfl ?_
    refine sN ⟨HLe.pick [] (by simp) rfl, ?_⟩
    refine tt_nil ?_
    exact ⟨(), trivial, kR rfl, HLe.refl _⟩
   ·refine tt_g rfl ?_
    refine sS1 1 rfl rfl rfl tyS9 rfl rfl (by simp only [List.set_cons_zero]; rfl) rfl ?_
    refine sN ⟨HLe.pick [] (by simp) rfl, ?_⟩
    refine tt_g rfl ?_
    refine sL 0 rfl rfl tyA32 tyS32 rfl rfl ?_
    refine sN ⟨HLe.pick [] (by simp) rfl, ?_⟩
    refine tt_g rfl ?_
    refine sS1 0 rfl rfl rfl tyS32 rfl rfl (by simp only [List.set_cons_zero]; rfl) rfl ?_
    refine sN ⟨HLe.pick [] (by simp) rfl, ?_⟩
    refine tt_nil ?_
    exact ⟨(), trivial, kR rfl, HLe.refl _⟩
  rintro - -
  refine aE ?_
  repeat (with_reducible refine nTR ?_)
  refine nx_undefer [errE g4 (sp.2.2.2 : Nat), strE g3 []] [] (pdef_fn g4 g3 (sp.2.2.2 : Nat) []) (HLe.sub (List.sublist_append_left [errE g4 (sp.2.2.2 : Nat), strE g3 []] _)) ?_
  rintro v H' ⟨rfl, rfl⟩
  refine nx_unmark [] trivial (jB4 [errE g4 (sp.2.2.2 : Nat), strE g3 (if ((sp.2.2.2 : Nat) : Int) = 0 then [] else [])] rfl (ResOk.cell 1 rfl rfl tyA9 tyS9 rfl) (ResOk.cell 0 rfl rfl tyA32 tyS32 rfl) (HLe.refl _) ?_)
  exact by rw [hE, hT0]; split <;> rfl
 have h1' : sp.2.2.2 = 0 := by simpa using h1
 rw [h1']
 refine aK ?_
 with_reducible refine nN ?_
 have hen := dencode_fn B2 d2 sp.1 (roE B2 (jA1 sp.1)) hB2.arg (fun _ => rfl) (Ro.roE _ _) hroot.1 hroot.2
 obtain ⟨en, hen'⟩ : ∃ en, encQ sp.1 = en := ⟨_, rfl⟩
 rw [hen'] at hen
 refine aR fun Z hZ => sM rfl rfl ?_
 refine jD6 (roE B2 (jA1 sp.1)) hen rfl (((List.sublist_append_left (roE B2 (jA1 sp.1)) _).trans (List.sublist_append_right [_, _] _)).trans (List.sublist_append_right [_, _] _)) (Ro.roE _ _) rfl ?_
 refine sM rfl rfl <| sX rfl rfl rfl <| sX rfl rfl rfl <| sA rfl rfl ?_
 refine sS1 0 rfl rfl rfl tyS32 rfl rfl (by simp only [List.set_cons_zero]; rfl) rfl ?_
 refine sN (hZ _ _ ?_)
 refine aF [(2, _), (3, _), (4, _), (5, _), (6, _), (7, _), (9, _), (11, _)] (kR rfl) ?_
 refine jA8 ([errE g4 (en.2 : Nat), strE g3 []] ++ ([.own g2 31 p.cells, .own g1 27 [.slice A L.length c]] ++ (roE B2 (jA1 sp.1) ++ (roE B (jA1 R) ++ T)))) (HLe.refl _) ?_
 refine aS ?_
 refine aR (fun Z hZ => ?_)
 refine sL 0 rfl rfl tyA32 tyS32 rfl rfl ?_
 refine jE5 rfl rfl rfl ?_
 refine sN (hZ _ _ ?_)
 refine aF [(2, _), (3, _), (4, _), (5, _), (6, _), (7, _), (9, _), (11, _), (40, _)] (kR rfl) ?_
 refine aC rfl (fun h2 => ?_) (fun h2 => ?_)
 ·have h2' : en.2 ≠ 0 := by simpa using h2
  have hE : prE L p = (en.2 : Nat) := by unfold prE; rw [hS, if_neg (by simpa using h1'), hen', if_pos h2']
  have hT0 : prT L p = [] := by unfold prT; rw [hE, if_neg (by omega)]
  refine awr_seq_region (fun j : Unit => [(4, ptr g3 0), (5, ptr g4 0)]) (fun j => [errE g4 (en.2 : Nat), strE g3 []] ++ ([.own g2 31 p.cells, .own g1 27 [.slice A L.length c]] ++ (roE B2 (jA1 sp.1) ++ (roE B (jA1 R) ++ T)))) (fun j => True) _ [0, 1, 2] (Tr.fork (Tr.step (0, false) (Tr.step (1, false) (Tr.step (2, false) Tr.nil))) (Tr.step (1, false) (Tr.step (0, false) (Tr.step (2, false) Tr.nil)))) mixed (by kernel_rfl) (HLe.pick [] (by simp) (by simp only [pick, List.filterMap_nil]; rfl)) ?_ ?_
  ·refine tt_fork ?_ ?_
   ·refine tt_g rfl ?_
    refine sL 0 rfl rfl tyA32 tyS32 rfl rfl ?_
    refine sN ⟨HLe.pick [] (by simp) rfl, ?_⟩
    refine tt_g rfl ?_
    refine sS1 1 rfl rfl rfl tyS9 rfl rfl (by simp only [List.set_cons_zero]; rfl) rfl ?_
    refine sN ⟨HLe.pick [] (by simp) rfl, ?_⟩
    refine tt_g rfl ?_
    refine sS1 0 rfl rfl rfl tyS32 rfl rfl (by simp only [List.set_cons_zero]; rfl) rfl ?_
    refine sN ⟨HLe.pick [] (by simp) rfl, ?_⟩
    refine tt_nil ?_
    exact ⟨(), trivial, kR rfl, HLe.refl _⟩
   ·refine tt_g rfl ?_
    refine sS1 1 rfl rfl rfl tyS9 rfl rfl (by simp only [List.set_cons_zero]; rfl) rfl ?_
    refine sN ⟨HLe.pick [] (by simp) rfl, ?_⟩
    refine tt_g rfl ?_
    refine sL 0 rfl rfl tyA32 tyS32 rfl rfl ?_
    refine sN ⟨HLe.pick [] (by simp) rfl, ?_⟩
    refine tt_g rfl ?_
    refine sS1 0 rfl rfl rfl tyS32 rfl rfl (by simp only [List.set_cons_zero]; rfl) rfl ?_
    refine sN ⟨HLe.pick [] (by simp) rfl, ?_⟩
    refine tt_nil ?_
    exact ⟨(), trivial, kR rfl, HLe.refl _⟩
  rintro - -
  refine aE ?_
  repeat (with_reducible refine nTR ?_)
  refine nx_undefer [errE g4 (en.2 : Nat), strE g3 []] [] (pdef_fn g4 g3 (en.2 : Nat) []) (HLe.sub (List.sublist_append_left [errE g4 (en.2 : Nat), strE g3 []] _)) ?_
  rintro v H' ⟨rfl, rfl⟩
  refine nx_unmark [] trivial (jB4 [errE g4 (en.2 : Nat), strE g3 (if ((en.2 : Nat) : Int) = 0 then [] else [])] rfl (ResOk.cell 1 rfl rfl tyA9 tyS9 rfl) (ResOk.cell 0 rfl rfl tyA32 tyS32 rfl) (HLe.refl _) ?_)
  exact by rw [hE, hT0]; split <;> rfl
 have h2' : en.2 = 0 := by simpa using h2
 rw [h2']
 refine aK ?_
 with_reducible refine nN ?_
 have hq : prP L p = ⟨en.1, p.note, sp.2.1, D⟩ := by unfold prP prD; rw [hS, hen', hD]
 have hqo := h.parts
 have hh : prH L p = headQ L R p.k := by unfold prH prR; rw [hR]
 have hho : (headQ L R p.k).Ok := headQ_ok (by omega) (by omega) h.k
 have hE : prE L p = jG3 (glueH (headQ L R p.k) ⟨en.1, p.note, sp.2.1, D⟩) := by unfold prE; rw [hS, if_neg (by simpa using h1'), hen', if_neg (by simpa using h2'), hh, hq]
 have hTx : glueS (headQ L R p.k) ⟨en.1, p.note, sp.2.1, D⟩ = if prE L p = 0 then glueS (headQ L R p.k) ⟨en.1, p.note, sp.2.1, D⟩ else [] := by
  rw [hE]
  unfold glueS
  split <;> rfl
 have hTT : prT L p = glueS (headQ L R p.k) ⟨en.1, p.note, sp.2.1, D⟩ := by rw [hTx]; unfold prT; rw [hh, hq]
 rw [hq] at hqo
 have hgl := glue_fn (headQ L R p.k) hho ⟨en.1, p.note, sp.2.1, D⟩ hqo
 rw [← hE, ← hTT] at hgl
 have hhd := phead_fn A c L T hA hT hro (by omega) h.ok.its B d R (roE B (jA1 R)) hB.arg (fun _ => rfl) (Ro.roE _ _) (by omega) hRo p.k
 obtain ⟨E, hEd⟩ : ∃ E, prE L p = E := ⟨_, rfl⟩
 obtain ⟨S, hSd⟩ : ∃ S, prT L p = S := ⟨_, rfl⟩
 have hfin : (if E = 0 then S else []) = S := by
  rw [← hSd, ← hEd]
  unfold prT
  split <;> rfl
 rw [hEd, hSd] at hgl ⊢
 refine jD0 _ [(0, true), (1, true), (2, true), (3, true), (4, false), (5, true), (6, true), (7, true), (8, true), (9, true), (10, true), (11, false), (12, true), (13, true), (14, false), (15, false)] mixed (by kernel_rfl) (HLe.pick [2, 3] (by simp) (by simp only [pick, List.filterMap_cons, List.filterMap_nil]; rfl)) (fun Z hZ => ?_)
 refine tw_p rfl ?_
 refine sv_loadA 1 rfl rfl tyA27 tyS27 rfl (by simp only [qS]; rfl) rfl ?_
 refine vN ?_
 refine tw_p rfl ?_
 refine jA3 rfl rfl ?_
 refine vN ?_
 refine tw_p rfl ?_
 refine jA2 rfl tyF31_1 (by simp only [Nat.zero_add]; rfl) rfl ?_
 refine vN ?_
 refine tw_p rfl ?_
 refine jE6 0 rfl rfl tyA5 tyS5 rfl rfl ?_
 refine vN ?_
 refine tw_g rfl ?_
 refine sx_callV (T ++ roE B (jA1 R)) hhd rfl ((HLe.swap (roE B (jA1 R)) T).trans (HLe.sub (((List.sublist_append_right _ _).trans (List.sublist_append_right [_, _] _)).trans (List.sublist_append_right [_, _] _)))) (hro.append (Ro.roE _ _)) rfl ?_
 refine sN ⟨HLe.pick [2, 3] (by simp) rfl, ?_⟩
 refine tw_p rfl ?_
 refine jA3 rfl rfl ?_
 refine vN ?_
 refine tw_p rfl ?_
 refine jA2 rfl tyF31_2 (by simp only [Nat.zero_add]; rfl) rfl ?_
 refine vN ?_
 refine tw_p rfl ?_
 refine jE6 0 rfl rfl tyA9 tyS9 rfl rfl ?_
 refine vN ?_
 refine tw_p rfl ?_
 refine jA3 rfl rfl ?_
 refine vN ?_
 refine tw_p rfl ?_
 refine jA3 rfl rfl ?_
 refine vN ?_
 refine tw_p rfl ?_
 refine sv_buildA tyZ80 Tryz.underlying80 tyS9 rfl rfl (by simp only [qS, Nat.reduceAdd, Value.cells, wrV, Nat.reduceMul, Nat.zero_mul]; rfl) rfl ?_
 refine vN ?_
 refine tw_g rfl ?_
 refine sCP hgl rfl rfl ?_
 refine sN ⟨HLe.pick [2, 3] (by simp) rfl, ?_⟩
 refine tw_p rfl ?_
 refine jG6 rfl rfl rfl ?_
 refine vN ?_
 refine tw_p rfl ?_
 refine jG6 rfl rfl rfl ?_
 refine vN ?_
 refine tw_g rfl ?_
 refine sS1 1 rfl rfl rfl tyS9 rfl rfl (by simp only [List.set_cons_zero]; rfl) rfl ?_
 refine sN ⟨HLe.pick [2, 3] (by simp) rfl, ?_⟩
 refine tw_g rfl ?_
 refine sS1 0 rfl rfl rfl tyS32 rfl rfl (by simp only [List.set_cons_zero]; rfl) rfl ?_
 refine sN ⟨HLe.pick [2, 3] (by simp) rfl, ?_⟩
 refine jH2 (hZ _ _ ?_)
 refine aF [(4, _), (5, _)] (kR rfl) ?_
 refine jA8 ([errE g4 E, strE g3 S] ++ ([.own g2 31 p.cells, .own g1 27 [.slice A L.length c]] ++ (roE B2 (jA1 sp.1) ++ (roE B (jA1 R) ++ T)))) (HLe.refl _) ?_
 refine aE ?_
 refine nx_undefer [errE g4 E, strE g3 S] [] (pdef_fn g4 g3 E S) (HLe.sub (List.sublist_append_left [errE g4 E, strE g3 S] _)) ?_
 rintro v H' ⟨rfl, rfl⟩
 rw [hfin]
 refine nx_unmark [] trivial (jB4 [errE g4 E, strE g3 S] rfl (ResOk.cell 1 rfl rfl tyA9 tyS9 rfl) (ResOk.cell 0 rfl rfl tyA32 tyS32 rfl) (HLe.refl _) rfl)
end Go.Proofs.YtkojkeabelckjaaGreatDoor
end

section
set_option linter.all false
namespace Go.Proofs.YtkojkeabelckjaaGreatDoor.V
open Go.RowKit
theorem cntP_le {n z : Nat} (hz : 0 < z) : cntP n z ≤ n := by
 rcases Nat.lt_or_ge n (cntP n z) with h | h
 ·have h1 := (cntP_iff hz).1 h
  have := Nat.le_mul_of_pos_right n hz
  omega
 ·exact h
end Go.Proofs.YtkojkeabelckjaaGreatDoor.V
end

section
set_option linter.all false
namespace Go.Proofs.YtkojkeabelckjaaGreatDoor.V
open Go.RowKit
set_option maxRecDepth 100000
end Go.Proofs.YtkojkeabelckjaaGreatDoor.V
end

section
set_option linter.all false
namespace Go.Proofs.YtkojkeabelckjaaGreatDoor.V.L
open Go.RowKit
theorem rowQ_cons {f : Nat} {e : En} {r : List En} : rowQ f (e :: r) = 0 ↔ chkE e = 0 ∧ f ≤ e.id ∧ rowQ (lastE e + 1) r = 0 := by
 rw [rowQ]
 by_cases h1 : chkE e = 0
 ·rw [if_pos h1]
  by_cases h2 : e.id < f
  ·rw [if_pos h2]
   exact ⟨(fun h => absurd h (by decide)), fun h => by omega⟩
  ·rw [if_neg h2]
   exact ⟨fun h => ⟨h1, by omega, h⟩, fun h => h.2.2⟩
 ·rw [if_neg h1]
  exact ⟨fun h => absurd h h1, fun h => absurd h.1 h1⟩
theorem last_ge {e : En} (h : e.ok) (hc : chkE e = 0) : e.id ≤ lastE e := by
 have := h.wide
 unfold lastE
 rw [if_pos hc]
 omega
theorem rowQ_mono : ∀ {f g : Nat} {Q : List En}, f ≤ g → rowQ g Q = 0 → rowQ f Q = 0
 | _, _, [], _, _ => rfl
 | f, g, e :: r, h, hr => by
  obtain ⟨h1, h2, h3⟩ := rowQ_cons.1 hr
  exact rowQ_cons.2 ⟨h1, by omega, h3⟩
theorem rowQ_drop : ∀ {P Q : List En} {f : Nat}, jF2 P → rowQ f (P ++ Q) = 0 → rowQ f Q = 0
 | [], Q, f, _, h => h
 | e :: P, Q, f, hE, h => by
  obtain ⟨h1, h2, h3⟩ := rowQ_cons.1 h
  have h4 := rowQ_drop (fun x hx => hE x (List.mem_cons_of_mem _ hx)) h3
  have := last_ge (hE e List.mem_cons_self) h1
  exact rowQ_mono (by omega) h4
theorem pcs_flat {L : List En} {z : Nat} (hz : 0 < z) : (pcs L z).flatten = L := by
 have key : ∀ k, ((List.range k).map (pcL L z)).flatten = L.take (k * z) := fun k => by
  induction k with
  | zero => simp
  | succ k ih =>
   rw [List.range_succ, List.map_append, List.flatten_append, ih, Nat.succ_mul, List.take_add]
   simp [pcL]
 rw [pcs, key]
 refine List.take_of_length_le ?_
 have h : ¬ cntP L.length z * z < L.length := fun h => by have := (cntP_iff hz).2 h; omega
 omega
theorem enc_pos {P : List En} (h : (encQ P).2 = 0) : 0 < (encQ P).1.length := by
 rw [(encQ_ok h).2.2]
 exact allB_pos P
theorem root_row : ∀ (ps : List (List En)) (t f : Nat), (∀ P ∈ ps, 0 < P.length ∧ jF2 P ∧ (encQ P).2 = 0) → rowQ f ps.flatten = 0 → t + 65536 * ps.length ≤ 1099511627776 → rowQ f (jH8 t ps) = 0
 | [], _, _, _, _, _ => rfl
 | [] :: r, t, f, hP, _, _ => by have := (hP [] List.mem_cons_self).1; simp at this
 | (e :: P) :: r, t, f, hP, h, ht => by
  obtain ⟨_, hE, he⟩ := hP (e :: P) List.mem_cons_self
  have heo : e.ok := hE e List.mem_cons_self
  have hl := encQ_len (e :: P)
  have hp := enc_pos he
  rw [List.length_cons] at ht
  rw [List.flatten_cons, List.cons_append] at h
  obtain ⟨h1, h2, h3⟩ := rowQ_cons.1 h
  have hid := (chk_ok heo h1).2.1
  have hw := heo.wide
  have hat : atE (e :: P) 0 = e := rfl
  have hc : chkE (rootE t (e :: P)) = 0 := by
   unfold chkE
   have hwide : (rootE t (e :: P)).wide = 1 := rfl
   have hnx : (rootE t (e :: P)).next = t + (encQ (e :: P)).1.length := by
    show (t + (encQ (e :: P)).1.length) % 18446744073709551616 = _
    omega
   rw [if_neg (by show ¬ (encQ (e :: P)).1.length = 0; omega), hwide, if_neg (by show ¬ _ < (atE (e :: P) 0).id; rw [hat]; omega), hnx, if_neg (by show ¬ (1099511627776 < t ∨ _); omega)]
  refine rowQ_cons.2 ⟨hc, by show f ≤ (atE (e :: P) 0).id; rw [hat]; exact h2, ?_⟩
  have hlast : lastE (rootE t (e :: P)) = e.id := by
   unfold lastE
   rw [if_pos hc]
   show (atE (e :: P) 0).id + 1 - 1 = e.id
   rw [hat]
   omega
  rw [hlast]
  have h4 := rowQ_drop (fun x hx => hE x (List.mem_cons_of_mem _ hx)) h3
  have := last_ge heo h1
  exact root_row r _ _ (fun Q hQ => hP Q (List.mem_cons_of_mem _ hQ)) (rowQ_mono (by omega) h4) (by omega)
theorem root_ptr : ∀ (ps : List (List En)) (t : Nat), (jH8 t ps).filter isPtr = jH8 t ps
 | [], _ => rfl
 | P :: r, t => by
  rw [jH8, List.filter_cons, if_pos (by rfl), root_ptr r]
def endQ : Nat → List En → Nat
 | n, [] => n
 | n, e :: r => endQ (if chkE e = 0 then max n e.next else n) r
theorem root_end : ∀ (ps : List (List En)) (t n : Nat), n ≤ t → (∀ P ∈ ps, 0 < P.length ∧ jF2 P ∧ (encQ P).2 = 0) → (∀ f, rowQ f (jH8 t ps) = 0 → True) → (∀ e ∈ jH8 t ps, chkE e = 0) → t + 65536 * ps.length ≤ 1099511627776 → (ps = [] → n = t) → endQ n (jH8 t ps) = t + (jH3 ps).length
 | [], t, n, _, _, _, _, _, h0 => by rw [h0 rfl]; rfl
 | P :: r, t, n, hn, hP, _, hc, ht, _ => by
  have hl := encQ_len P
  rw [List.length_cons] at ht
  rw [jH8, endQ, if_pos (hc _ (by rw [jH8]; exact List.mem_cons_self))]
  have hnx : (rootE t P).next = t + (encQ P).1.length := by
   show (t + (encQ P).1.length) % 18446744073709551616 = _
   omega
  rw [hnx, show max n (t + (encQ P).1.length) = t + (encQ P).1.length by omega, root_end r _ _ (Nat.le_refl _) (fun Q hQ => hP Q (List.mem_cons_of_mem _ hQ)) (fun _ _ => trivial) (fun e he => hc e (by rw [jH8]; exact List.mem_cons_of_mem _ he)) (by omega) (fun _ => rfl)]
  simp only [jH3, List.flatMap_cons, List.length_append]
  omega
theorem rowQ_chk : ∀ {f : Nat} {L : List En}, rowQ f L = 0 → ∀ e ∈ L, chkE e = 0
 | _, [], _, e, h => by cases h
 | f, x :: r, hr, e, h => by
  obtain ⟨h1, _, h3⟩ := rowQ_cons.1 hr
  rcases List.mem_cons.1 h with rfl | h
  ·exact h1
  ·exact rowQ_chk h3 e h
theorem join_root : ∀ (ps : List (List En)) (out : List En) (pre : List UInt8), (∀ P ∈ ps, 0 < P.length ∧ jF2 P ∧ (encQ P).2 = 0 ∧ jH9 P = false) → rowC (out ++ ps.flatten) = 0 →
  joinG (pre ++ jH3 ps) out (jH8 pre.length ps) = (out ++ ps.flatten, 0)
 | [], out, pre, _, hr => by
  rw [jH8, joinG]
  rw [List.flatten_nil, List.append_nil] at hr ⊢
  rw [if_neg (by simpa using hr)]
 | P :: r, out, pre, hP, hr => by
  obtain ⟨h0, hE, he, hh⟩ := hP P List.mem_cons_self
  obtain ⟨hrc, hsz, henc⟩ := encQ_ok he
  obtain ⟨S, hS⟩ : ∃ S, (encQ P).1 = S := ⟨_, rfl⟩
  have hSe : S = allB (jE2 P) := by rw [← hS, henc]
  have hd := decQ_enc hE hrc [] (by simpa using hsz)
  rw [List.append_nil, if_neg (by decide), ← hSe] at hd
  have htx : jH3 (P :: r) = S ++ jH3 r := by rw [jH3, List.flatMap_cons, hS]; rfl
  have hsl : ((pre ++ jH3 (P :: r)).drop pre.length).take S.length = S := by rw [htx, List.drop_left, List.take_left]
  have hpc : pieceQ (rootE pre.length P) (pre ++ jH3 (P :: r)) = (P, 0) := by
   have e1 : (rootE pre.length P).off = pre.length := rfl
   have e2 : (rootE pre.length P).len = S.length := hS ▸ rfl
   have e3 : (rootE pre.length P).id = (atE P 0).id := rfl
   unfold pieceQ
   rw [e1, e2, e3, hsl, hd, if_neg (by rw [htx, List.length_append, List.length_append]; omega), if_neg (by simp), if_neg (by rw [hh]; decide), if_neg (fun h => h.elim (fun h => absurd h (Nat.ne_of_gt h0)) (fun h => h rfl))]
  rw [jH8, joinG, if_pos (by rfl), hpc, if_neg (by simp)]
  have ih := join_root r (out ++ P) (pre ++ S) (fun Q hQ => hP Q (List.mem_cons_of_mem _ hQ)) (by rw [List.append_assoc, ← List.flatten_cons]; exact hr)
  rw [List.length_append, List.append_assoc, ← htx, List.append_assoc, ← List.flatten_cons, ← hS] at ih
  exact ih
theorem join_plain {t : List UInt8} : ∀ (L out : List En), jH9 L = false → rowC (out ++ L) = 0 → joinG t out L = (out ++ L, 0)
 | [], out, _, hr => by
  rw [joinG]
  rw [List.append_nil] at hr ⊢
  rw [if_neg (by simpa using hr)]
 | x :: r, out, hh, hr => by
  rw [jH9, List.any_cons, Bool.or_eq_false_iff] at hh
  rw [joinG, if_neg (by rw [hh.1]; decide), join_plain r (out ++ [x]) hh.2 (by rw [List.append_assoc]; exact hr), List.append_assoc]
  rfl
end Go.Proofs.YtkojkeabelckjaaGreatDoor.V.L
end
