/- Walks and plain laws for this claim (texts Base, Gsx1, joined). Each theorem states its own conditions. -/
import Derived.Shelf.Abstract
import Derived.WalkKit
import Derived.WalkSpells
import Derived.WalkLawsBesides
import Derived.BigQuiet
import Derived.Deep.QuietTactic
import Derived.Deep.RegionHeld3
import Derived.Lib.Hide
import Derived.RangeFuncRecord
import Derived.OrdersIn
import Derived.TacticsIn
import Derived.IntWalk
set_option linter.all false
namespace Go.Proofs.YtfeopecgedbfpaaGreatDoor
section
open Go.RowKit
def jM4 : Go.Shelf.Ren := ⟨fun n => match n with | 0 => 0 | 1 => 1 | 2 => 2 | 99 => 73 | 103 => 167 | 119 => 250 | 120 => 249 | 125 => 94 | 128 => 147 | 129 => 136 | 137 => 115 | 150 => 169 | 151 => 234 | 152 => 236 | 153 => 212 | 156 => 60 | 160 => 168 | 161 => 166 | 165 => 112 | 166 => 113 | 168 => 199 | 169 => 114 | 171 => 255 | 172 => 170 | 197 => 200 | 205 => 254 | 206 => 126 | 210 => 208 | 217 => 158 | 224 => 251 | 225 => 252 | 226 => 237 | 227 => 205 | 228 => 233 | 231 => 204 | 232 => 209 | 233 => 206 | 234 => 210 | 235 => 207 | 236 => 211 | 240 => 156 | 241 => 157 | 242 => 231 | 243 => 260 | 244 => 213 | 245 => 214 | 246 => 261 | 247 => 238 | 260 => 232 | 266 => 197 | 271 => 235 | 276 => 195 | 277 => 196 | 278 => 248 | 279 => 239 | 280 => 240 | 281 => 241 | 282 => 242 | 283 => 262 | 284 => 263 | 285 => 264 | 286 => 265 | 287 => 253 | 316 => 150 | 317 => 266 | 318 => 267 | 319 => 268 | 320 => 269 | 321 => 258 | 322 => 259 | 329 => 187 | 330 => 188 | 337 => 270 | 338 => 271 | 347 => 272 | 348 => 273 | 349 => 274 | 350 => 275 | 351 => 276 | 352 => 277 | 353 => 278 | 354 => 279 | 355 => 280 | 356 => 281 | 357 => 282 | 358 => 283 | 359 => 284 | 360 => 285 | 361 => 286 | 362 => 291 | 363 => 294 | 364 => 292 | 365 => 293 | 366 => 295 | 367 => 305 | _ => 0, fun n => match n with | 0 => 0 | 1 => 1 | 2 => 2 | 3 => 3 | 4 => 4 | 5 => 5 | 6 => 6 | 7 => 7 | 8 => 8 | 9 => 9 | 10 => 10 | 11 => 11 | 12 => 12 | 13 => 13 | 14 => 14 | 15 => 15 | 16 => 16 | 17 => 17 | 18 => 18 | 19 => 19 | 20 => 20 | 21 => 21 | 22 => 156 | 23 => 264 | 24 => 42 | 25 => 265 | 27 => 304 | 28 => 247 | 31 => 139 | 37 => 44 | 40 => 335 | 41 => 183 | 46 => 186 | 47 => 185 | 51 => 78 | 52 => 246 | 53 => 25 | 54 => 181 | 55 => 219 | 63 => 318 | 64 => 319 | 67 => 138 | 69 => 198 | 70 => 209 | 71 => 210 | 72 => 211 | 73 => 88 | 74 => 212 | 75 => 213 | 76 => 214 | 77 => 215 | 79 => 293 | 80 => 119 | 81 => 140 | 83 => 342 | 84 => 351 | 85 => 321 | 86 => 322 | 99 => 287 | 104 => 347 | 105 => 294 | 106 => 295 | 108 => 341 | 111 => 269 | 114 => 336 | 115 => 298 | 116 => 299 | 117 => 300 | 118 => 301 | 119 => 331 | 122 => 297 | 123 => 302 | 124 => 303 | 126 => 317 | 127 => 254 | 128 => 305 | 131 => 103 | 137 => 332 | 138 => 333 | 139 => 334 | 143 => 348 | 144 => 349 | 145 => 350 | 164 => 288 | 165 => 289 | 166 => 290 | 167 => 320 | 168 => 323 | 169 => 324 | 170 => 325 | 171 => 352 | 172 => 353 | 173 => 354 | 174 => 355 | 175 => 337 | 176 => 338 | 182 => 240 | 183 => 241 | 203 => 344 | 209 => 339 | 210 => 340 | 211 => 356 | 212 => 357 | 213 => 358 | 214 => 346 | 218 => 279 | 219 => 280 | 220 => 167 | 222 => 282 | 228 => 314 | 229 => 315 | 232 => 359 | 233 => 360 | 238 => 361 | 239 => 362 | 240 => 363 | 241 => 364 | 242 => 365 | 243 => 366 | 244 => 367 | 245 => 368 | 246 => 369 | 247 => 370 | 248 => 371 | 249 => 372 | _ => 0, fun n => match n with | 1 => 0 | 3 => 1 | 4 => 2 | 15 => 3 | 16 => 4 | 17 => 5 | 18 => 6 | 19 => 7 | _ => 0⟩
theorem xZ9 {α : Sort _} (a : α) : ∃ b, a = b := ⟨_, rfl⟩
abbrev lA := @Nat.zero_add
abbrev lB := @List.take_zero
abbrev lC := @List.drop_zero
abbrev lD := @List.nil_append
abbrev lE := @List.length_cons
abbrev lG := @List.length_nil
abbrev lH := @List.append_nil
abbrev lI := @Sem.run_bind
abbrev lJ := @List.take_succ_cons
abbrev lK := @List.drop_succ_cons
abbrev lL := @List.cons_append
abbrev lM := @Nat.add_zero
abbrev lN := @List.nil_sublist
abbrev lO := @List.mem_cons_self
abbrev lP := @List.sublist_append_right
abbrev lQ := @Result.andThen_ok
abbrev lR := @Bool.eq_iff_iff
abbrev lS := @List.sublist_append_left
abbrev lT := @IntWalk.i64_in
abbrev lU := @List.set_cons_succ
abbrev lV := @Option.some.inj
abbrev lW := @List.mem_cons_of_mem
abbrev lX := @List.length_append
abbrev lY := @List.mem_cons
abbrev lZ := @List.filterMap_nil
abbrev l6 := @IntWalk.u64_in
abbrev l7 := @List.filterMap_cons
abbrev l9 := @Sem.run_pure
abbrev xA := @List.getElem?_cons_zero
abbrev xB := @Nat.le_refl
abbrev xC := @List.getElem?_eq_getElem
abbrev xD := @Nat.zero_le
abbrev xE := @List.getElem?_cons_succ
abbrev xF := @List.append_assoc
abbrev xG := @List.mem_singleton
abbrev xH := @List.mem_append
abbrev xI := @List.mem_append_left
abbrev xJ := @List.mem_map
abbrev xK := @Nat.zero_mul
abbrev xL := @List.filter_cons
abbrev xM := @List.mem_of_getElem?
abbrev xN := @List.map_cons
abbrev xO := @List.filter_nil
abbrev xP := @Nat.lt_or_ge
abbrev xR := @List.getElem?_map
abbrev xS := @List.length_take
abbrev xU := @List.Sublist.refl
abbrev xV := @List.pairwise_append
abbrev xW := @Bool.and_eq_true
abbrev xX := @List.flatMap_cons
abbrev xY := @List.length_drop
abbrev xZ := @List.all_eq_true
abbrev x0 := @List.mem_append_right
abbrev x4 := @List.sublist_cons_self
abbrev x5 := @Option.some.injEq
abbrev x6 := @List.take_length
abbrev x7 := @Nat.eq_of_beq_eq_true
abbrev x8 := @List.map_append
abbrev x9 := @Int.toNat_natCast
abbrev qA := @Option.map_some
abbrev qB := @List.take_succ_eq_append_getElem
abbrev qC := @List.Sublist.cons_cons
abbrev qF := @List.nodup_append
abbrev qG := @List.pairwise_cons
abbrev qH := @List.Pairwise.nil
abbrev qI := @Nat.add_assoc
abbrev qJ := @List.map_nil
abbrev qK := @List.getElem?_append_left
abbrev qL := @List.getElem?_eq_none
abbrev qN := @Nat.mul_comm
abbrev qP := @List.Perm.append_left
abbrev qQ := @List.getElem?_append_right
abbrev qR := @List.drop_eq_getElem_cons
abbrev qT := @List.eq_nil_of_length_eq_zero
abbrev qU := @List.getElem?_take
abbrev qV := @Array.getElem?_eq_getElem
abbrev qW := @Array.getElem?_toList
abbrev qX := @List.perm_append_comm
abbrev qY := @Nat.pow_succ
abbrev qZ := @List.take_of_length_le
abbrev zA := @List.foldl_cons
abbrev zB := @List.filter_append
abbrev zC := @List.nodup_cons
abbrev zD := @List.length_singleton
abbrev zE := @Nat.mul_one
abbrev zF := @List.Sublist.cons
abbrev zG := @List.length_map
abbrev zH := @Array.getD_eq_getD_getElem?
abbrev zI := @Option.bind_some
abbrev zJ := @List.mem_filter
abbrev zK := @Nat.eq_zero_or_pos
abbrev zL := @IntWalk.i32_in
abbrev zM := @Nat.le_trans
abbrev zN := @List.Pairwise.cons
abbrev zO := @List.pairwise_iff_getElem
abbrev zP := @List.getElem?_drop
abbrev zQ := @Nat.le_of_ble_eq_true
abbrev zR := @Bool.or_eq_true
abbrev zS := @List.Sublist.append_left
abbrev zU := @Nat.mod_eq_of_lt
abbrev zV := @List.flatMap_append
abbrev zW := @List.drop_length
abbrev zX := @Array.getElem?_modify
abbrev zZ := @Nat.succ_mul
abbrev z6 := @List.flatten_cons
abbrev z7 := @Nat.pow_le_pow_right
abbrev z8 := @List.Perm.cons
abbrev uA := @List.getElem_mem
abbrev uB := @List.nodup_nil
abbrev uC := @Option.map_none
abbrev uD := @List.getD_eq_getElem?_getD
abbrev uE := @List.map_toArray
abbrev uF := @Nat.le_of_lt
abbrev uH := @Nat.lt_of_lt_of_le
abbrev uI := @List.mem_flatMap
abbrev uJ := @List.map_map
abbrev uL := @Nat.sub_self
abbrev uM := @List.ext_getElem?
abbrev uN := @Nat.mul_le_mul_right
abbrev uO := @List.Perm.swap
abbrev uP := @Nat.min_eq_left
def Bel (a w : World) : Prop := Below a.heap.size a w
section
variable {a b c w : World}
theorem Bel.refl (a : World) : Bel a a := Below.refl _ _
theorem Bel.size (h : Bel a w) : a.heap.size ≤ w.heap.size := Below.size h
theorem Bel.trans (h : Bel a b) (k : Bel b c) : Bel a c := Below.trans h (Below.mono k (Below.size h))
theorem Bel.drew (h : Bel a w) : Bel a w.drew := Below.drew h
theorem Bel.drewN (h : Bel a w) (n : Nat) : Bel a (w.drewN n) := by
 have k : Below a.heap.size a w := h
 exact ⟨k.os, k.tape, k.output, k.size, k.block⟩
theorem Bel.alloc (h : Bel a w) (o : Obj) : Bel a (w.alloc o) := Below.alloc h (Below.size h) o
theorem Bel.set (h : Bel a w) {p : Addr} (hp : a.heap.size ≤ p.block) (u : Value) : Bel a (w.setCell p u) := Below.setCell h hp u
theorem Bel.took (h : Bel a w) : (∀ b o, b < a.heap.size → w.cell? ⟨b, o, none⟩ = a.cell? ⟨b, o, none⟩) ∧ (∀ b o, b < a.heap.size → w.frozen? ⟨b, o, none⟩ = a.frozen? ⟨b, o, none⟩) ∧ a.heap.size ≤ w.heap.size :=
 ⟨fun b o hb => Below.cell h (p := ⟨b, o, none⟩) hb, fun b o hb => Below.frozen h (p := ⟨b, o, none⟩) hb, h.size⟩
end
@[go_sem] theorem cell_set_here (w : World) (p : Addr) (u : Value) (h : (w.cell? p).isSome = true) : (w.setCell p u).cell? p = some u := by
 obtain ⟨v, hv⟩ := Option.isSome_iff_exists.1 h
 exact World.cell?_setCell_same w p u hv
@[go_sem] theorem bel_refl (a : World) : Bel a a ↔ True := ⟨fun _ => trivial, fun _ => Bel.refl a⟩
@[go_sem] theorem bel_drew (a w : World) : Bel a w.drew ↔ Bel a w := by
 refine ⟨fun h => ?_, fun h => Bel.drew h⟩
 have k : Below a.heap.size a w.drew := h
 exact ⟨k.os, k.tape, k.output, k.size, k.block⟩
@[go_sem] theorem bel_drewN (a w : World) (n : Nat) : Bel a (w.drewN n) ↔ Bel a w := by
 refine ⟨fun h => ?_, fun h => Bel.drewN h n⟩
 have k : Below a.heap.size a (w.drewN n) := h
 exact ⟨k.os, k.tape, k.output, k.size, k.block⟩
@[go_sem] theorem bel_alloc (a w : World) (o : Obj) (h : Bel a w) : Bel a (w.alloc o) := Bel.alloc h o
def str (l : List UInt8) : ByteArray := ⟨l.toArray⟩
@[go_sem] theorem str_size (l : List UInt8) : (str l).size = l.length := by simp [str, ByteArray.size]
theorem jX3 (l : List UInt8) : (str l).data.toList = l := rfl
theorem vC7 (s : ByteArray) : ∃ l, s = str l := ⟨s.data.toList, rfl⟩
theorem hide {p : Prop} (h : p) : Hid p := h
inductive Ent where
  | own (g : Nat) (t : TypeId) (cs : List Value)
  | ro (g o : Nat) (cs : List Value)
  | ob (g : Nat) (p : Obj → Prop)
def Ent.g : Ent → Nat
  | .own g _ _ | .ro g _ _ | .ob g _ => g
def Ent.wr : Ent → Bool
  | .ro .. => false
  | _ => true
def Ent.holds (w : World) : Ent → Prop
  | .own g t cs => w.heap[g]? = some (.cells cs.toArray t (0, 0))
  | .ro g o cs => g < w.heap.size ∧ ∀ (j : Nat) (u : Value), cs[j]? = some u → w.cell? ⟨g, o + j, none⟩ = some u
  | .ob g p => ∃ o, w.heap[g]? = some o ∧ p o
abbrev Heap := List Ent
abbrev Fr := List (Nat × Value)
def Ent.apart (a b : Ent) : Prop := (a.wr || b.wr) = true → a.g ≠ b.g
def Sep (H : Heap) : Prop := H.Pairwise Ent.apart
structure Only (Wr : List Nat) (w w' : World) : Prop where
  os : w'.os = w.os
  tape : w'.tape = w.tape
  output : w'.output = w.output
  size : w.heap.size ≤ w'.heap.size
  block : ∀ i, i < w.heap.size → i ∉ Wr → w'.heap[i]? = w.heap[i]?
structure Sat (w0 : World) (Wr : List Nat) (H : Heap) (w : World) : Prop where
  only : Only Wr w0 w
  ents : ∀ e ∈ H, e.holds w ∧ (e.wr = true → e.g ∈ Wr ∨ w0.heap.size ≤ e.g)
  sep : Sep H
def lk : Fr → Nat → Option Value
  | [], _ => none
  | (t, v) :: r, k => bif Nat.beq t k then some v else lk r k
def ev (fr : Fr) : Operand → Option Value
  | .tmp t => lk fr t
  | .const v => some v
  | .func f => some (.func (.func f) #[] #[])
  | .global g => some (.pointer (some ⟨g, 0, none⟩))
inductive Mk where
  | at (D : Nat)
  | fn (f : FuncId) (caps : List Value)
instance : Coe Nat Mk := ⟨.at⟩
structure Frm where
  n : Nat
  R : Option Nat
  ds : List Mk
def jU1 : Mk → Deferred
  | .at D => { target := .collected D, args := #[] }
  | .fn f caps => { target := .fn (.func f) caps.toArray, args := #[] }
structure FrOk (N : Frm) (fr : Fr) (a : Act) : Prop where
  size : a.tmps.size = N.n
  defers : a.defers = N.ds.map jU1
  at_ : ∀ t v, lk fr t = some v → a.tmps[t]? = some v
section
variable {Wr Wr' : List Nat} {w0 w w' : World} {H H' : Heap} {e : Ent} {N : Frm} {fr fr' : Fr} {a : Act}
theorem Only.refl (Wr : List Nat) (w : World) : Only Wr w w := ⟨rfl, rfl, rfl, Nat.le_refl _, fun _ _ _ => rfl⟩
theorem Only.trans {w2 : World} (h : Only Wr w0 w) (k : Only Wr' w w2) (hs : ∀ i ∈ Wr', i ∈ Wr ∨ w0.heap.size ≤ i) : Only Wr w0 w2 :=
  ⟨k.os.trans h.os, k.tape.trans h.tape, k.output.trans h.output, Nat.le_trans h.size k.size, fun i hi hn =>
    (k.block i (Nat.lt_of_lt_of_le hi h.size) (fun hm => by rcases hs i hm with h1 | h1; exact hn h1; omega)).trans (h.block i hi hn)⟩
theorem Only.of_bel (h : Bel w w') : Only Wr w w' := ⟨h.os, h.tape, h.output, h.size, fun i hi _ => h.block i hi⟩
theorem Only.bel (h : Only [] w w') : Bel w w' := ⟨h.os, h.tape, h.output, h.size, fun i hi => h.block i hi (by simp)⟩
theorem Ent.lt (h : e.holds w) : e.g < w.heap.size := by
  cases e with
  | own g t cs =>
    rcases Nat.lt_or_ge g w.heap.size with h' | h'
    · exact h'
    · simp only [Ent.holds] at h; rw [Array.getElem?_eq_none h'] at h; cases h
  | ro g o cs => exact h.1
  | ob g p =>
    obtain ⟨o, h, _⟩ := h
    rcases Nat.lt_or_ge g w.heap.size with h' | h'
    · exact h'
    · rw [Array.getElem?_eq_none h'] at h; cases h
theorem Ent.keep (h : e.holds w) (hs : w.heap.size ≤ w'.heap.size) (hb : w'.heap[e.g]? = w.heap[e.g]?) : e.holds w' := by
  cases e with
  | own g t cs => exact hb.trans h
  | ro g o cs =>
    refine ⟨Nat.lt_of_lt_of_le h.1 hs, fun j u hu => ?_⟩
    rw [World.cell?_of_block (w := w) (a := ⟨g, o + j, none⟩) hb]
    exact h.2 j u hu
  | ob g p =>
    obtain ⟨o, h, hp⟩ := h
    exact ⟨o, hb.trans h, hp⟩
theorem Sat.nil (w : World) : Sat w [] [] w := ⟨Only.refl _ _, by simp, List.Pairwise.nil⟩
theorem Sat.mem (h : Sat w0 Wr H w) {i : Nat} (hi : H[i]? = some e) : e.holds w := (h.ents e (List.mem_of_getElem? hi)).1
theorem Sat.sub (h : Sat w0 Wr H w) (hs : H'.Sublist H) : Sat w0 Wr H' w := ⟨h.only, fun e he => h.ents e (hs.subset he), h.sep.sublist hs⟩
theorem Sat.perm (h : Sat w0 Wr H w) (hs : H.Perm H') : Sat w0 Wr H' w :=
  ⟨h.only, fun e he => h.ents e (hs.mem_iff.2 he), (hs.pairwise_iff (fun {a b} h1 h2 => by rw [Bool.or_comm] at h2; exact (h1 h2).symm)).1 h.sep⟩
theorem Sat.bel (h : Sat w0 Wr H w) (hb : Bel w w') : Sat w0 Wr H w' :=
  ⟨h.only.trans (Only.of_bel (Wr := []) hb) (by simp), fun e he => ⟨Ent.keep (h.ents e he).1 hb.size (Below.block hb _ (Ent.lt (h.ents e he).1)), (h.ents e he).2⟩, h.sep⟩
theorem Sat.drew (h : Sat w0 Wr H w) : Sat w0 Wr H w.drew := h.bel (Bel.drew (Bel.refl _))
theorem Sat.fresh (h : Sat w0 Wr H w) (he : e.holds w') (hb : Bel w w') (hg : w.heap.size ≤ e.g) : Sat w0 Wr (e :: H) w' := by
  have h' := h.bel hb
  refine ⟨h'.only, ?_, List.Pairwise.cons ?_ h'.sep⟩
  · intro x hx
    rcases List.mem_cons.1 hx with rfl | hx
    · exact ⟨he, fun _ => .inr (Nat.le_trans h.only.size hg)⟩
    · exact h'.ents x hx
  · intro x hx _
    have := Ent.lt (h.ents x hx).1
    omega
theorem Sat.alloc (h : Sat w0 Wr H w) (cs : List Value) (t : TypeId) : Sat w0 Wr (.own w.heap.size t cs :: H) (w.alloc (.cells cs.toArray t)) := by
  refine h.fresh ?_ ((Bel.refl w).alloc _) (Nat.le_refl _)
  show (w.heap.push _)[w.heap.size]? = _
  simp
theorem Sat.allocOb (h : Sat w0 Wr H w) (o : Obj) (p : Obj → Prop) (hp : p o) : Sat w0 Wr (.ob w.heap.size p :: H) (w.alloc o) := by
  refine h.fresh ⟨o, ?_, hp⟩ ((Bel.refl w).alloc _) (Nat.le_refl _)
  show (w.heap.push _)[w.heap.size]? = _
  simp
theorem Sat.turn (h : Sat w0 Wr H w) {i : Nat} (hi : H[i]? = some e) (hw : e.wr = true) {e' : Ent} (hg : e'.g = e.g) (ho : Only [e.g] w w') (he : e'.holds w') : Sat w0 Wr (H.set i e') w' := by
  have hm := h.ents e (List.mem_of_getElem? hi)
  have hil : i < H.length := (List.getElem?_eq_some_iff.1 hi).1
  have hie : H[i] = e := (List.getElem?_eq_some_iff.1 hi).2
  refine ⟨h.only.trans ho (by simpa using hm.2 hw), ?_, ?_⟩
  · intro x hx
    obtain ⟨j, hj, hxj⟩ := List.mem_iff_getElem.1 hx
    rw [List.getElem_set] at hxj
    by_cases hij : i = j
    · rw [if_pos hij] at hxj
      subst hxj
      exact ⟨he, fun _ => hg ▸ hm.2 hw⟩
    · rw [if_neg hij] at hxj
      have hj' : j < H.length := by simpa using hj
      have hxm := h.ents x (hxj ▸ List.getElem_mem hj')
      refine ⟨Ent.keep hxm.1 ho.size (ho.block _ (Ent.lt hxm.1) ?_), hxm.2⟩
      simp only [List.mem_singleton]
      rcases Nat.lt_or_gt_of_ne hij with hlt | hlt
      · have := List.pairwise_iff_getElem.1 h.sep i j hil hj' hlt
        rw [hie, hxj] at this
        exact fun e => this (by simp [hw]) e.symm
      · have := List.pairwise_iff_getElem.1 h.sep j i hj' hil hlt
        rw [hie, hxj] at this
        exact this (by simp [hw])
  · refine List.pairwise_iff_getElem.2 fun j k hj hk hjk => ?_
    have hj' : j < H.length := by simpa using hj
    have hk' : k < H.length := by simpa using hk
    have hp := List.pairwise_iff_getElem.1 h.sep j k hj' hk' hjk
    simp only [List.getElem_set]
    by_cases h1 : i = j
    · subst h1
      rw [if_pos rfl, if_neg (by omega)]
      rw [hie] at hp
      intro _
      rw [hg]
      exact hp (by simp [hw])
    · rw [if_neg h1]
      by_cases h2 : i = k
      · subst h2
        rw [if_pos rfl]
        rw [hie] at hp
        intro _
        rw [hg]
        exact hp (by simp [hw])
      · rw [if_neg h2]; exact hp
theorem Only.setCell (w : World) (g o : Nat) (u : Value) : Only [g] w (w.setCell ⟨g, o, none⟩ u) :=
  ⟨rfl, rfl, rfl, by simp [World.setCell], fun i _ hn => Below.heap_setCell w _ u i (by simpa using hn)⟩
theorem Ent.setCell {g : Nat} {t : TypeId} {cs : List Value} (h : (Ent.own g t cs).holds w) (o : Nat) (u : Value) : (Ent.own g t (cs.set o u)).holds (w.setCell ⟨g, o, none⟩ u) := by
  simp only [Ent.holds] at h ⊢
  simp [World.setCell, Array.getElem?_modify, h]
theorem Ent.cell {g : Nat} {t : TypeId} {cs : List Value} (h : (Ent.own g t cs).holds w) (o : Nat) : w.cell? ⟨g, o, none⟩ = cs[o]? := by
  rw [cell_of_row w g o cs.toArray t (0, 0) h]; simp
theorem Ent.free {g : Nat} {t : TypeId} {cs : List Value} (h : (Ent.own g t cs).holds w) (o : Nat) : w.frozen? ⟨g, o, none⟩ = false := by
  simp only [Ent.holds] at h
  simp [World.frozen?, h]
theorem FrOk.eval (h : FrOk N fr a) {x : Operand} {v : Value} (hx : ev fr x = some v) : a.eval x = v := by
  cases x with
  | tmp t =>
    have := h.at_ t v hx
    simp [Act.eval, Array.getD_eq_getD_getElem?, this]
  | const u => exact Option.some.inj hx
  | func f => exact Option.some.inj hx
  | global g => exact Option.some.inj hx
theorem FrOk.put (h : FrOk N fr a) {d : Nat} (hd : Nat.ble (d + 1) N.n = true) (v : Value) : FrOk N ((d, v) :: fr) (a.put (some d) v) := by
  have hd' : d < N.n := Nat.le_of_ble_eq_true hd
  refine ⟨by simp [Act.put, h.size], h.defers, fun t u hu => ?_⟩
  simp only [Act.put]
  rw [Array.getElem?_setIfInBounds]
  simp only [lk] at hu
  by_cases hdt : d = t
  · subst hdt
    have e : Nat.beq d d = true := Nat.beq_refl d
    rw [e] at hu
    simp only [cond_true] at hu
    rw [if_pos rfl, h.size, if_pos hd']
    exact hu
  · have e : Nat.beq d t = false := by
      cases hb : Nat.beq d t with
      | false => rfl
      | true => exact absurd (Nat.eq_of_beq_eq_true hb) hdt
    rw [e] at hu
    simp only [cond_false] at hu
    rw [if_neg hdt]
    exact h.at_ t u hu
theorem FrOk.skip (h : FrOk N fr a) (v : Value) : FrOk N fr (a.put none v) := h
def Kn (fr' fr : Fr) : Prop := ∀ p ∈ fr', lk fr p.1 = some p.2
theorem yI0 : ∀ {fr : Fr} {t : Nat} {v : Value}, lk fr t = some v → (t, v) ∈ fr
  | [], _, _, h => by cases h
  | (k, u) :: r, t, v, h => by
    simp only [lk] at h
    cases hb : Nat.beq k t with
    | true => rw [hb] at h; obtain rfl := Option.some.inj h; obtain rfl := Nat.eq_of_beq_eq_true hb; exact List.mem_cons_self
    | false => rw [hb] at h; exact List.mem_cons_of_mem _ (yI0 h)
theorem FrOk.kn (h : FrOk N fr a) (hk : Kn fr' fr) : FrOk N fr' a := ⟨h.size, h.defers, fun t v hv => h.at_ t v (hk _ (yI0 hv))⟩
theorem Kn.nil : Kn [] fr := by intro p hp; cases hp
theorem Kn.cons {t : Nat} {v : Value} (h : lk fr t = some v) (hk : Kn fr' fr) : Kn ((t, v) :: fr') fr := by
  intro p hp
  rcases List.mem_cons.1 hp with rfl | hp
  · exact h
  · exact hk p hp
theorem kR {fr' fr : Fr} (h : fr'.map (fun p => lk fr p.1) = fr'.map (fun p => some p.2)) : Kn fr' fr := fun p hp => List.map_inj_left.1 h p hp
theorem qS : (∀ (α : Type) (l : List α), l.take 0 = []) ∧ (∀ (α : Type) (a : α) (l : List α) (n : Nat), (a :: l).take (n + 1) = a :: l.take n) ∧ (∀ (α : Type) (l : List α), l.drop 0 = l) ∧ (∀ (α : Type) (a : α) (l : List α) (n : Nat), (a :: l).drop (n + 1) = l.drop n) ∧ (∀ (α : Type) (l : List α), [] ++ l = l) ∧ (∀ (α : Type) (l : List α), l ++ [] = l) ∧ (∀ (α : Type) (a : α) (l m : List α), (a :: l) ++ m = a :: (l ++ m)) ∧ (∀ (α : Type) (a : α) (l : List α), (a :: l).length = l.length + 1) ∧ (∀ α : Type, ([] : List α).length = 0) ∧ (∀ (α : Type) (a b : α) (l : List α), (a :: l).set 0 b = b :: l) ∧ (∀ (α : Type) (a b : α) (l : List α) (n : Nat), (a :: l).set (n + 1) b = a :: l.set n b) ∧ (∀ (α : Type) (a : α) (l : List α), (a :: l)[0]? = some a) ∧ (∀ (α : Type) (a : α) (l : List α) (n : Nat), (a :: l)[n + 1]? = l[n]?) ∧ (∀ n : Nat, 0 + n = n) ∧ (∀ n : Nat, n + 0 = n) ∧ (∀ (α β : Type) (f : α → Option β), [].filterMap f = []) :=
  ⟨fun _ _ => rfl, fun _ _ _ _ => rfl, fun _ _ => rfl, fun _ _ _ _ => rfl, fun _ _ => rfl, fun _ l => List.append_nil l, fun _ _ _ _ => rfl, fun _ _ _ => rfl, fun _ => rfl, fun _ _ _ _ => rfl, fun _ _ _ _ _ => rfl, fun _ _ _ => rfl, fun _ _ _ _ => rfl, Nat.zero_add, fun _ => rfl, fun _ _ _ => rfl⟩
end
section
variable {P : Program} {N : Frm} {w0 : World} {Wr : List Nat} {ops : Array Oper} {rest : List Oper} {fr : Fr} {H : Heap} {Z : Fr → Heap → Prop}
def sx (P : Program) (N : Frm) (w0 : World) (Wr : List Nat) (ops : Array Oper) (l : List Oper) (fr : Fr) (H : Heap) (Z : Fr → Heap → Prop) : Prop :=
  ∀ (Q : Exit → Act → World → Prop), (∀ fr' H' a w, Z fr' H' → FrOk N fr' a → Sat w0 Wr H' w → Q .normal a w) → ∀ a w, FrOk N fr a → Sat w0 Wr H w → wpList P ops Q l a w
theorem sN (h : Z fr H) : sx P N w0 Wr ops [] fr H Z := fun _ hQ a w ha hw => hQ _ _ a w h ha hw
theorem vW0 {o : Oper} (hg : o.guard = none)
    (h : ∀ (a : Act) (w : World) (K : Act → World → Prop) (Q : Exit → Act → World → Prop), FrOk N fr a → Sat w0 Wr H w →
      (∀ v w' fr' H', sx P N w0 Wr ops rest fr' H' Z → FrOk N fr' (a.put o.dst v) → Sat w0 Wr H' w' → K (a.put o.dst v) w') → o.wp P a w K Q) :
    sx P N w0 Wr ops (o :: rest) fr H Z :=
  fun Q hQ a w ha hw => wpList_plain hg fun K hK => h a w K Q ha hw fun _ _ _ _ hs hf hS => hK _ _ (hs Q hQ _ _ hf hS)
theorem jE9 {op : Op} {d ty : Nat} {pos : String} {after : Array Edge} (v : Value) (hN : Nat.ble (d + 1) N.n = true)
    (hrun : ∀ (a : Act) (w : World), FrOk N fr a → Sat w0 Wr H w → (execOp a.eval ⟨some d, op, ty, pos, after, none⟩).run P w = .ok (.value v) w)
    (h : sx P N w0 Wr ops rest ((d, v) :: fr) H Z) : sx P N w0 Wr ops (⟨some d, op, ty, pos, after, none⟩ :: rest) fr H Z :=
  vW0 rfl fun a w K Q ha hw hK => by
    unfold Oper.wp
    rw [hrun a w ha hw]
    exact hK v w _ H h (ha.put hN v) hw
theorem wV2 {op : Op} {ty : Nat} {pos : String} {after : Array Edge} {H' : Heap}
    (hrun : ∀ (a : Act) (w : World), FrOk N fr a → Sat w0 Wr H w → ∃ w', (execOp a.eval ⟨none, op, ty, pos, after, none⟩).run P w = .ok .skip w' ∧ Sat w0 Wr H' w')
    (h : sx P N w0 Wr ops rest fr H' Z) : sx P N w0 Wr ops (⟨none, op, ty, pos, after, none⟩ :: rest) fr H Z :=
  vW0 rfl fun a w K Q ha hw hK => by
    obtain ⟨w', h1, h2⟩ := hrun a w ha hw
    unfold Oper.wp
    rw [h1]
    exact hK undef w' fr H' h (ha.skip _) h2
theorem jL0 {op : Op} {d ty : Nat} {pos : String} {after : Array Edge} {R : Value → Heap → Prop} (hN : Nat.ble (d + 1) N.n = true)
    (hrun : ∀ (a : Act) (w : World), FrOk N fr a → Sat w0 Wr H w → ∃ v w' H', (execOp a.eval ⟨some d, op, ty, pos, after, none⟩).run P w = .ok (.value v) w' ∧ R v H' ∧ Sat w0 Wr H' w')
    (h : ∀ v H', R v H' → sx P N w0 Wr ops rest ((d, v) :: fr) H' Z) : sx P N w0 Wr ops (⟨some d, op, ty, pos, after, none⟩ :: rest) fr H Z :=
  vW0 rfl fun a w K Q ha hw hK => by
    obtain ⟨v, w', H', h1, h2, h3⟩ := hrun a w ha hw
    unfold Oper.wp
    rw [h1]
    exact hK v w' _ H' (h v H' h2) (ha.put hN v) h3
theorem yM5 {l : List Oper} (H' : Heap) (hk : H'.Sublist H) (h : sx P N w0 Wr ops l fr H' Z) : sx P N w0 Wr ops l fr H Z :=
  fun Q hQ a w ha hw => h Q hQ a w ha (hw.sub hk)
end
end
section
open Go.RowKit
def tyAgg (P : Program) (t : TypeId) : Option Bool := (P.underlying t).map fun | .struct _ | .array _ _ => true | _ => false
def tySize (P : Program) (t : TypeId) : Option Nat := (P.info? t).map (·.size)
def tyZero (P : Program) (t : TypeId) : Option (List Value) := ((P.info? t).bind (·.zero)).map (fun v => v.cells.toList)
def ptr (g o : Nat) : Value := .pointer (some ⟨g, o, none⟩)
abbrev uq (x : Nat) : Value := .int .u64 (x : Int)
abbrev ub (x : Nat) : Value := .int .u8 (x : Int)
abbrev iq (x : Int) : Value := .int .i64 x
def tyF (P : Program) (s i : Nat) : Option (Nat × Nat × Bool) :=
  match P.underlying s with
  | some (.struct fs) => (fs[i]?).bind fun f => (tySize P f.type).bind fun n => (tyAgg P f.type).bind fun b => if n = 0 then none else some (f.offset, n, b)
  | _ => none
section
variable {P : Program} {w : World} {t : TypeId}
theorem jQ3 {b : Bool} (h : tyAgg P t = some b) : (isAgg t).run P w = .ok b w := by
  unfold tyAgg at h
  cases hu : P.underlying t with
  | none => simp [hu] at h
  | some d =>
    simp only [hu, Option.map_some, Option.some.injEq] at h
    unfold isAgg
    simp only [Sem.run_bind, run_underlying hu, Result.andThen_ok]
    subst h
    cases d <;> rfl
theorem jC0 {n : Nat} (h : tySize P t = some n) : (sizeOf t).run P w = .ok n w := by
  unfold tySize at h
  cases hu : P.info? t with
  | none => simp [hu] at h
  | some d =>
    simp only [hu, Option.map_some, Option.some.injEq] at h
    subst h
    simp [sizeOf, typeInfo, hu]
theorem jR0 {cs : List Value} (h : tyZero P t = some cs) : ∃ v, (zeroValue t).run P w = .ok v w ∧ v.cells = cs.toArray := by
  unfold tyZero at h
  cases hu : P.info? t with
  | none => simp [hu] at h
  | some d =>
    cases hz : d.zero with
    | none => simp [hu, hz] at h
    | some v =>
      simp only [hu, Option.bind_some, hz, Option.map_some, Option.some.injEq] at h
      exact ⟨v, by simp [zeroValue, typeInfo, hu, hz], by rw [← h]⟩
theorem jK2 (a : Addr) : ∀ (n i : Nat) (acc : Array Value) (vs : List Value), vs.length = n → (∀ j u, vs[j]? = some u → w.cell? (a.add (i + j)) = some u) →
    (loadCellsFrom a i n acc).run P w = .ok (acc ++ vs.toArray) w
  | 0, i, acc, vs, hl, _ => by
    obtain rfl := List.eq_nil_of_length_eq_zero hl
    simp [loadCellsFrom]
  | n + 1, i, acc, vs, hl, h => by
    match vs, hl with
    | v :: vs, hl =>
      have h0 : w.cell? (a.add i) = some v := h 0 v rfl
      have ih := jK2 a n (i + 1) (acc.push v) vs (by simpa using hl) (fun j u hu => by
        have := h (j + 1) u (by simpa using hu)
        rwa [show i + 1 + j = i + (j + 1) by omega])
      unfold loadCellsFrom
      simp only [load, Sem.run_bind, Sem.run, h0, Result.andThen_ok, ih]
      simp
theorem jR6 : ∀ (vs : List Value) (g o i : Nat) (cs : List Value) (w : World), (Ent.own g t cs).holds w → o + i + vs.length ≤ cs.length → (∀ v ∈ vs, v.oneCell' = true) →
    ∃ w', (storeCells ⟨g, o, none⟩ vs i).run P w = .ok () w' ∧ Only [g] w w' ∧ (Ent.own g t (cs.take (o + i) ++ vs ++ cs.drop (o + i + vs.length))).holds w'
  | [], g, o, i, cs, w, h, _, _ => ⟨w, by simp [storeCells], Only.refl _ _, by simpa using h⟩
  | v :: vs, g, o, i, cs, w, h, hl, h1 => by
    have hl' : o + i < cs.length := by simp only [List.length_cons] at hl; omega
    have ha : Addr.add ⟨g, o, none⟩ i = ⟨g, o + i, none⟩ := by unfold Addr.add; split <;> simp_all
    obtain ⟨w2, h2, h3, h4⟩ := jR6 vs g o (i + 1) (cs.set (o + i) v) _ (Ent.setCell h (o + i) v) (by simp only [List.length_cons, List.length_set] at hl ⊢; omega) (fun x hx => h1 x (List.mem_cons_of_mem _ hx))
    refine ⟨w2, ?_, (Only.setCell w g (o + i) v).trans h3 (by simp), ?_⟩
    · unfold storeCells
      have hc : w.cell? ⟨g, o + i, none⟩ = some cs[o + i] := by rw [Ent.cell h]; simp [hl']
      have hf := Ent.free h (o + i)
      have hv := h1 v List.mem_cons_self
      have hs : (store ⟨g, o + i, none⟩ v).run P w = .ok () (w.setCell ⟨g, o + i, none⟩ v) := by
        cases v <;> first | (simp [store, Sem.run, hc, hf]; done) | (simp [Value.oneCell'] at hv)
      simp only [ha, Sem.run_bind, hs, Result.andThen_ok, h2]
    · have e : (cs.set (o + i) v).take (o + (i + 1)) ++ vs ++ (cs.set (o + i) v).drop (o + (i + 1) + vs.length) = cs.take (o + i) ++ (v :: vs) ++ cs.drop (o + i + (v :: vs).length) := by
        have e1 : (cs.set (o + i) v).take (o + (i + 1)) = cs.take (o + i) ++ [v] := by
          rw [← Nat.add_assoc, List.take_succ_eq_append_getElem (by simpa using hl'), List.take_set_of_le (Nat.le_refl _)]
          simp
        have e2 : (cs.set (o + i) v).drop (o + (i + 1) + vs.length) = cs.drop (o + i + (v :: vs).length) := by
          rw [List.drop_set_of_lt (by omega)]
          simp only [List.length_cons]
          congr 1
          omega
        rw [e1, e2]
        simp
      rw [← e]
      exact h4
end
section
variable {P : Program} {N : Frm} {w0 : World} {Wr : List Nat} {ops : Array Oper} {rest : List Oper} {fr : Fr} {H : Heap} {Z : Fr → Heap → Prop}
variable {d ty : Nat} {pos : String} {after : Array Edge}
theorem sM {x : Operand} {v : Value} (hx : ev fr x = some v) (hN : Nat.ble (d + 1) N.n = true) (h : sx P N w0 Wr ops rest ((d, v) :: fr) H Z) : sx P N w0 Wr ops (⟨some d, .move x, ty, pos, after, none⟩ :: rest) fr H Z :=
  jE9 v hN (fun a w ha _ => by rw [← ha.eval hx]; rfl) h
theorem sA {x : Operand} {v : Value} (hx : ev fr x = some v) (hN : Nat.ble (d + 1) N.n = true) (h : sx P N w0 Wr ops rest ((d, v) :: fr) H Z) : sx P N w0 Wr ops (⟨some d, .assign x, ty, pos, after, none⟩ :: rest) fr H Z :=
  jE9 v hN (fun a w ha _ => by rw [← ha.eval hx]; rfl) h
theorem vJ2 {x : Operand} {g o : Nat} (hx : ev fr x = some (ptr g o)) (hN : Nat.ble (d + 1) N.n = true) (h : sx P N w0 Wr ops rest ((d, ptr g o) :: fr) H Z) : sx P N w0 Wr ops (⟨some d, .nilCheck x, ty, pos, after, none⟩ :: rest) fr H Z :=
  jE9 _ hN (fun a w ha _ => by simp only [execOp, ha.eval hx, ptr]; rfl) h
theorem jA0 {x : Operand} {g o : Nat} (h : sx P N w0 Wr ops rest ((d, ptr g o) :: fr) H Z) (hx : ev fr x = some (ptr g o) := by exact rfl) (hN : Nat.ble (d + 1) N.n = true := by exact rfl) : sx P N w0 Wr ops (⟨some d, .nilCheck x, ty, pos, after, none⟩ :: rest) fr H Z := vJ2 hx hN h
theorem sAl {t : TypeId} {cs : List Value} (hz : tyZero P t = some cs) (hN : Nat.ble (d + 1) N.n = true) (h : ∀ g, sx P N w0 Wr ops rest ((d, ptr g 0) :: fr) (.own g t cs :: H) Z) :
    sx P N w0 Wr ops (⟨some d, .alloc t, ty, pos, after, none⟩ :: rest) fr H Z := by
  refine jL0 (R := fun v H' => ∃ g, v = ptr g 0 ∧ H' = .own g t cs :: H) hN (fun a w ha hw => ?_) (fun v H' hR => by obtain ⟨g, rfl, rfl⟩ := hR; exact h g)
  obtain ⟨v, h1, h2⟩ := jR0 (w := w) hz
  refine ⟨ptr w.heap.size 0, w.alloc (.cells cs.toArray t), _, ?_, ⟨_, rfl, rfl⟩, hw.alloc cs t⟩
  simp only [execOp, Instr.alloc, Sem.run_bind, h1, Result.andThen_ok, newVar, newRow, newObj, h2]
  rfl
theorem zA5 {t : TypeId} {x : Operand} {v : Value} {cs : List Value} (hx : ev fr x = some v) (hz : v.cells.toList = cs) (hN : Nat.ble (d + 1) N.n = true) (h : ∀ g, sx P N w0 Wr ops rest ((d, ptr g 0) :: fr) (.own g t cs :: H) Z) :
    sx P N w0 Wr ops (⟨some d, .box t x, ty, pos, after, none⟩ :: rest) fr H Z := by
  refine jL0 (R := fun v H' => ∃ g, v = ptr g 0 ∧ H' = .own g t cs :: H) hN (fun a w ha hw => ?_) (fun v H' hR => by obtain ⟨g, rfl, rfl⟩ := hR; exact h g)
  refine ⟨ptr w.heap.size 0, w.alloc (.cells cs.toArray t), _, ?_, ⟨_, rfl, rfl⟩, hw.alloc cs t⟩
  subst hz
  simp only [execOp, Instr.box, ha.eval hx, newVar, newRow, newObj]
  rfl
theorem jB5 {t : TypeId} {x : Operand} {v : Value} {cs : List Value} (h : ∀ g, sx P N w0 Wr ops rest ((d, ptr g 0) :: fr) (.own g t cs :: H) Z) (hx : ev fr x = some v := by exact rfl) (hz : v.cells.toList = cs := by exact rfl) (hN : Nat.ble (d + 1) N.n = true := by exact rfl) :
    sx P N w0 Wr ops (⟨some d, .box t x, ty, pos, after, none⟩ :: rest) fr H Z := zA5 hx hz hN h
def rdV (agg : Bool) (n : Nat) (cs : List Value) (o : Nat) : Option Value := bif agg then (bif Nat.ble (o + n) cs.length then some (.agg ((cs.drop o).take n).toArray) else none) else cs[o]?
theorem jQ2 {t : TypeId} {agg : Bool} {n g o : Nat} {cs : List Value} {v : Value} {w : World} (ht : tyAgg P t = some agg) (hn : tySize P t = some n) (hv : rdV agg n cs o = some v)
    (hc : ∀ (j : Nat) u, cs[j]? = some u → w.cell? ⟨g, j, none⟩ = some u) : (loadVar t ⟨g, o, none⟩).run P w = .ok v w := by
  unfold loadVar
  simp only [Sem.run_bind, jQ3 ht, Result.andThen_ok]
  cases agg with
  | false =>
    have := hc o v hv
    simp [load, Sem.run, this]
  | true =>
    simp only [rdV, cond_true] at hv
    cases hb : Nat.ble (o + n) cs.length with
    | false => rw [hb] at hv; cases hv
    | true =>
      rw [hb] at hv
      obtain rfl := Option.some.inj hv
      have hle := Nat.le_of_ble_eq_true hb
      simp only [if_true, Sem.run_bind, jC0 hn, Result.andThen_ok, loadCells]
      rw [jK2 (P := P) ⟨g, o, none⟩ n 0 #[] ((cs.drop o).take n) (by simp; omega) (fun j u hu => by
        have e : Addr.add ⟨g, o, none⟩ (0 + j) = ⟨g, o + j, none⟩ := by unfold Addr.add; split <;> simp_all
        rw [e]
        refine hc _ _ ?_
        rw [List.getElem?_take] at hu
        split at hu
        · rw [← hu, List.getElem?_drop]
        · cases hu)]
      simp
theorem sL (i : Nat) {t : TypeId} {x : Operand} {g o : Nat} {e : TypeId} {cs : List Value} {agg : Bool} {n : Nat} {v : Value} (hx : ev fr x = some (ptr g o)) (hH : H[i]? = some (.own g e cs)) (ht : tyAgg P t = some agg) (hn : tySize P t = some n) (hv : rdV agg n cs o = some v) (hN : Nat.ble (d + 1) N.n = true)
    (h : sx P N w0 Wr ops rest ((d, v) :: fr) H Z) : sx P N w0 Wr ops (⟨some d, .load t x, ty, pos, after, none⟩ :: rest) fr H Z :=
  jE9 v hN (fun a w ha hw => by
    have hc := Ent.cell (hw.mem hH)
    simp only [execOp, Instr.loadAt, ha.eval hx, ptr, Instr.sureAddr, Sem.run_bind, Sem.run_pure, Result.andThen_ok]
    rw [jQ2 ht hn hv (fun j u hu => (hc j).trans hu)]
    rfl) h
theorem sL0 (i : Nat) {t : TypeId} {x : Operand} {g o : Nat} {e : TypeId} {cs : List Value} {agg : Bool} {n : Nat} {v : Value} (ht : tyAgg P t = some agg) (hn : tySize P t = some n) (h : sx P N w0 Wr ops rest ((d, v) :: fr) H Z) (hx : ev fr x = some (ptr g o) := by exact rfl) (hH : H[i]? = some (.own g e cs) := by exact rfl) (hv : rdV agg n cs o = some v := by exact rfl) (hN : Nat.ble (d + 1) N.n = true := by exact rfl) : sx P N w0 Wr ops (⟨some d, .load t x, ty, pos, after, none⟩ :: rest) fr H Z := sL i hx hH ht hn hv hN h
theorem sLA (i : Nat) {t : TypeId} {x : Operand} {g o : Nat} {e : TypeId} {cs cs' : List Value} {n : Nat} (hx : ev fr x = some (ptr g o)) (hH : H[i]? = some (.own g e cs)) (ht : tyAgg P t = some true) (hn : tySize P t = some n) (hle : Nat.ble (o + n) cs.length = true) (hv : (cs.drop o).take n = cs') (hN : Nat.ble (d + 1) N.n = true)
    (h : sx P N w0 Wr ops rest ((d, .agg cs'.toArray) :: fr) H Z) : sx P N w0 Wr ops (⟨some d, .load t x, ty, pos, after, none⟩ :: rest) fr H Z :=
  sL i hx hH ht hn (by subst hv; simp [rdV, hle]) hN h
theorem sLA0 (i : Nat) {t : TypeId} {x : Operand} {g o : Nat} {e : TypeId} {cs cs' : List Value} {n : Nat} (ht : tyAgg P t = some true) (hn : tySize P t = some n) (h : sx P N w0 Wr ops rest ((d, .agg cs'.toArray) :: fr) H Z) (hx : ev fr x = some (ptr g o) := by exact rfl) (hH : H[i]? = some (.own g e cs) := by exact rfl) (hle : Nat.ble (o + n) cs.length = true := by first | (simp only [qS, Nat.reduceAdd]; first | done | rfl) | rfl) (hv : (cs.drop o).take n = cs' := by first | (simp only [qS, Value.cells]; first | done | rfl) | rfl) (hN : Nat.ble (d + 1) N.n = true := by exact rfl) : sx P N w0 Wr ops (⟨some d, .load t x, ty, pos, after, none⟩ :: rest) fr H Z := sLA i hx hH ht hn hle hv hN h
theorem jB4 (i : Nat) {t : TypeId} {x : Operand} {g o o' : Nat} {cs : List Value} {agg : Bool} {n : Nat} {v : Value} (hx : ev fr x = some (ptr g o)) (hH : H[i]? = some (.ro g o' cs)) (k : Nat) (ho : o = o' + k) (ht : tyAgg P t = some agg) (hn : tySize P t = some n) (hv : rdV agg n cs k = some v) (hN : Nat.ble (d + 1) N.n = true)
    (h : sx P N w0 Wr ops rest ((d, v) :: fr) H Z) : sx P N w0 Wr ops (⟨some d, .load t x, ty, pos, after, none⟩ :: rest) fr H Z :=
  jE9 v hN (fun a w ha hw => by
    subst ho
    have hc := (hw.mem hH).2
    simp only [execOp, Instr.loadAt, ha.eval hx, ptr, Instr.sureAddr, Sem.run_bind, Sem.run_pure, Result.andThen_ok]
    have : (loadVar t ⟨g, o' + k, none⟩).run P w = .ok v w := by
      unfold loadVar
      simp only [Sem.run_bind, jQ3 ht, Result.andThen_ok]
      cases agg with
      | false => simp [load, Sem.run, hc k v hv]
      | true =>
        simp only [rdV, cond_true] at hv
        cases hb : Nat.ble (k + n) cs.length with
        | false => rw [hb] at hv; cases hv
        | true =>
          rw [hb] at hv
          obtain rfl := Option.some.inj hv
          have hle := Nat.le_of_ble_eq_true hb
          simp only [if_true, Sem.run_bind, jC0 hn, Result.andThen_ok, loadCells]
          rw [jK2 (P := P) ⟨g, o' + k, none⟩ n 0 #[] ((cs.drop k).take n) (by simp; omega) (fun j u hu => by
            have e : Addr.add ⟨g, o' + k, none⟩ (0 + j) = ⟨g, o' + (k + j), none⟩ := by unfold Addr.add; split <;> simp_all <;> omega
            rw [e]
            refine hc _ _ ?_
            rw [List.getElem?_take] at hu
            split at hu
            · rw [← hu, List.getElem?_drop]
            · cases hu)]
          simp
    rw [this]
    rfl) h
def wrV (cs : List Value) (o : Nat) (vs : List Value) : List Value := cs.take o ++ vs ++ cs.drop (o + vs.length)
theorem sS (i : Nat) {t : TypeId} {x y : Operand} {g o : Nat} {e : TypeId} {cs cs' vs : List Value} {n : Nat} {v : Value} (hx : ev fr x = some (ptr g o)) (hy : ev fr y = some v) (hH : H[i]? = some (.own g e cs)) (hn : tySize P t = some n) (hvs : v.cells.toList = vs) (h1 : vs.all Value.oneCell' = true) (hl : vs.length = n)
    (hlen : Nat.ble (o + n) cs.length = true) (hcs : wrV cs o vs = cs') {H2 : Heap} (hs : H.set i (.own g e cs') = H2)
    (h : sx P N w0 Wr ops rest fr H2 Z) : sx P N w0 Wr ops (⟨none, .store t x y, ty, pos, after, none⟩ :: rest) fr H Z :=
  wV2 (fun a w ha hw => by
    have hm := hw.mem hH
    subst hs
    subst hcs
    subst hl
    obtain ⟨w', h2, h3, h4⟩ := jR6 (P := P) vs g o 0 cs w hm (by have := Nat.le_of_ble_eq_true hlen; omega) (fun u hu => List.all_eq_true.1 h1 u hu)
    refine ⟨w', ?_, hw.turn hH rfl rfl h3 (by simpa [wrV] using h4)⟩
    have hsz : v.cells.size = vs.length := by rw [← hvs]; simp
    simp only [execOp, Instr.storeAt, ha.eval hx, ha.eval hy, ptr, Instr.sureAddr, Sem.run_bind, Sem.run_pure, Result.andThen_ok, storeVar, jC0 hn, hsz, hvs]
    simp [h2]) h
theorem sS0 (i : Nat) {t : TypeId} {x y : Operand} {g o : Nat} {e : TypeId} {cs cs' vs : List Value} {n : Nat} {v : Value} (hn : tySize P t = some n) {H2 : Heap} (h : sx P N w0 Wr ops rest fr H2 Z) (hx : ev fr x = some (ptr g o) := by exact rfl) (hy : ev fr y = some v := by exact rfl) (hH : H[i]? = some (.own g e cs) := by exact rfl) (hvs : v.cells.toList = vs := by first | (simp only [Value.cells]; first | done | rfl) | rfl) (h1 : vs.all Value.oneCell' = true := by exact rfl) (hl : vs.length = n := by exact rfl) (hlen : Nat.ble (o + n) cs.length = true := by first | (simp only [qS, Nat.reduceAdd]; first | done | rfl) | rfl) (hcs : wrV cs o vs = cs' := by first | (simp only [qS, wrV, Nat.reduceAdd, Value.cells]; first | done | rfl) | rfl) (hs : H.set i (.own g e cs') = H2 := by first | (simp only [qS]; first | done | rfl) | rfl) : sx P N w0 Wr ops (⟨none, .store t x y, ty, pos, after, none⟩ :: rest) fr H Z := sS i hx hy hH hn hvs h1 hl hlen hcs hs h
theorem sS1 (i : Nat) {t : TypeId} {x y : Operand} {g o : Nat} {e : TypeId} {cs cs' : List Value} {v : Value} (hx : ev fr x = some (ptr g o)) (hy : ev fr y = some v) (hH : H[i]? = some (.own g e cs)) (hn : tySize P t = some 1) (h1 : v.oneCell' = true)
    (hlen : Nat.ble (o + 1) cs.length = true) (hcs : cs.set o v = cs') {H2 : Heap} (hs : H.set i (.own g e cs') = H2)
    (h : sx P N w0 Wr ops rest fr H2 Z) : sx P N w0 Wr ops (⟨none, .store t x y, ty, pos, after, none⟩ :: rest) fr H Z := by
  have hc : v.cells.toList = [v] := by cases v <;> first | rfl | (simp [Value.oneCell'] at h1)
  have hl := Nat.le_of_ble_eq_true hlen
  refine sS i hx hy hH hn hc (by simp [h1]) rfl hlen ?_ hs h
  rw [← hcs, List.set_eq_take_append_cons_drop, if_pos (by omega)]
  simp [wrV]
theorem sS10 (i : Nat) {t : TypeId} {x y : Operand} {g o : Nat} {e : TypeId} {cs cs' : List Value} {v : Value} (hn : tySize P t = some 1) {H2 : Heap} (h : sx P N w0 Wr ops rest fr H2 Z) (hx : ev fr x = some (ptr g o) := by exact rfl) (hy : ev fr y = some v := by exact rfl) (hH : H[i]? = some (.own g e cs) := by exact rfl) (h1 : v.oneCell' = true := by exact rfl) (hlen : Nat.ble (o + 1) cs.length = true := by first | (simp only [qS, Nat.reduceAdd]; first | done | rfl) | rfl) (hcs : cs.set o v = cs' := by first | (simp only [qS]; first | done | rfl) | rfl) (hs : H.set i (.own g e cs') = H2 := by first | (simp only [qS]; first | done | rfl) | rfl) : sx P N w0 Wr ops (⟨none, .store t x y, ty, pos, after, none⟩ :: rest) fr H Z := sS1 i hx hy hH hn h1 hlen hcs hs h
theorem sFA {s i : Nat} {x : Operand} {g o off n o' : Nat} {b : Bool} (hx : ev fr x = some (ptr g o)) (hf : tyF P s i = some (off, n, b)) (ho : o + off = o') (hN : Nat.ble (d + 1) N.n = true)
    (h : sx P N w0 Wr ops rest ((d, ptr g o') :: fr) H Z) : sx P N w0 Wr ops (⟨some d, .fieldAddr s x i, ty, pos, after, none⟩ :: rest) fr H Z :=
  jE9 _ hN (fun a w ha _ => by
    subst ho
    unfold tyF at hf
    cases hu : P.underlying s with
    | none => simp [hu] at hf
    | some dd =>
      cases dd <;> simp only [hu] at hf <;> try cases hf
      rename_i fs
      cases hi : fs[i]? with
      | none => simp [hi] at hf
      | some f =>
        simp only [hi, Option.bind_some] at hf
        cases hs : tySize P f.type with
        | none => simp [hs] at hf
        | some m =>
          cases hb : tyAgg P f.type with
          | none => simp [hs, hb] at hf
          | some bb =>
            simp only [hs, hb, Option.bind_some] at hf
            split at hf
            · cases hf
            · rename_i hm
              simp only [Option.some.injEq, Prod.mk.injEq] at hf
              obtain ⟨rfl, rfl, rfl⟩ := hf
              have e : Addr.add ⟨g, o, none⟩ f.offset = ⟨g, o + f.offset, none⟩ := by unfold Addr.add; split <;> simp_all
              simp only [execOp, Instr.fieldAt, ha.eval hx, ptr, Sem.run_bind, run_underlying hu, Result.andThen_ok, hi, Instr.sureAddr, Sem.run_pure, fieldPlace, jC0 hs, hm, if_false, e]) h
theorem sFA0 {s i : Nat} {x : Operand} {g o off n o' : Nat} {b : Bool} (hf : tyF P s i = some (off, n, b)) (h : sx P N w0 Wr ops rest ((d, ptr g o') :: fr) H Z) (hx : ev fr x = some (ptr g o) := by exact rfl) (ho : o + off = o' := by first | (simp only [qS, Nat.reduceAdd]; first | done | rfl) | rfl) (hN : Nat.ble (d + 1) N.n = true := by exact rfl) : sx P N w0 Wr ops (⟨some d, .fieldAddr s x i, ty, pos, after, none⟩ :: rest) fr H Z := sFA hx hf ho hN h
end
end
section
open Go.RowKit
def QN (Q : Exit → Act → World → Prop) : Exit → Act → World → Prop := fun e a w => e = .normal ∧ Q .normal a w
theorem jW7 {Q : Exit → Act → World → Prop} : ¬ LetsOut (QN Q) := fun ⟨_, _, h⟩ => by cases h.1
def Frm.fence (N : Frm) : Fence := { Fence.wide with round := N.R }
def jT3 (o : Oper) : Bool := match o.op with | .defer _ => false | _ => true
def jJ4 : Code → Bool
  | .region _ ops _ => ops.toList.all jT3
  | .seq x y => jJ4 x && jJ4 y
  | .cond _ x y => jJ4 x && jJ4 y
  | .block _ x => jJ4 x
  | .loop x => jJ4 x
  | .scope x => jJ4 x
  | .rangeFunc _ _ x y => jJ4 x && jJ4 y
  | _ => true
def wq (P : Program) (N : Frm) (c : Code) (Q : Exit → Act → World → Prop) (a : Act) (w : World) : Prop := (N.R.isSome = true → jJ4 c = true) → c.wpIn N.fence 0 P Q a w
section
variable {P : Program} {N : Frm} {Q Q' : Exit → Act → World → Prop} {a : Act} {w w0 : World} {Wr : List Nat} {K : Act → World → Prop}
theorem vH9 {n : Nat} {ds : List Mk} {c : Code} (h : wq P ⟨n, none, ds⟩ c Q a w) : c.wp P Q a w := wpIn_wide.1 (h (fun e => by cases e))
theorem kT4 {c : Code} (hq : ∀ e a w, Q e a w → Q' e a w) (h : wq P N c Q a w) : wq P N c Q' a w := fun hp => Go.wpIn_mono (h hp) hq
theorem yY2 {x y : Code} (h : wq P N x (Exit.then (wq P N y Q) Q) a w) : wq P N (.seq x y) Q a w := fun hp => by
  have hp' : N.R.isSome = true → jJ4 x = true ∧ jJ4 y = true := fun e => by simpa [jJ4] using hp e
  exact wpIn_seq (Go.wpIn_mono (h fun e => (hp' e).1) fun e a w q => by
    cases e <;> first | exact q | exact q (fun e => (hp' e).2))
theorem kT5 {c : Operand} {x y : Code} {t : Bool} (hc : a.eval c = .bool t) (ht : t = true → wq P N x Q a w) (hf : t = false → wq P N y Q a w) : wq P N (.cond c x y) Q a w := fun hp => by
  have hp' : N.R.isSome = true → jJ4 x = true ∧ jJ4 y = true := fun e => by simpa [jJ4] using hp e
  exact wpIn_cond_split hc (fun h => ht h fun e => (hp' e).1) (fun h => hf h fun e => (hp' e).2)
theorem wT1 {id : Nat} {c : Code} (h : wq P N c (Exit.inBlock id Q) a w) : wq P N (.block id c) Q a w := fun hp => wpIn_block (h fun e => by simpa [jJ4] using hp e)
theorem yK1 {id : Nat} (h : Q (.exit id) a w) : wq P N (.exit id) Q a w := fun _ => wpIn_exit h
theorem yY3 (h : Q .ret a w) : wq P N .ret Q a w := fun _ => wpIn_ret h
theorem yJ9 (h : Q .normal a w) : wq P N .skip Q a w := fun _ => wpIn_skip h
theorem yK0 {body : Code} {ι : Type} (NN : ι → Frm) (F : ι → Fr) (HH : ι → Heap) (I : ι → Prop) (μ : ι → Nat) (i0 : ι) (h0 : I i0)
    (round : ∀ i, I i → ∀ a w, FrOk (NN i) (F i) a → Sat w0 Wr (HH i) w → wq P N body (Exit.then (fun a w => ∃ j, I j ∧ μ j < μ i ∧ FrOk (NN j) (F j) a ∧ Sat w0 Wr (HH j) w) Q) a w)
    (ha : FrOk (NN i0) (F i0) a) (hw : Sat w0 Wr (HH i0) w) : wq P N (.loop body) Q a w := fun hp => by
  have hp' : N.R.isSome = true → jJ4 body = true := fun e => by simpa [jJ4] using hp e
  intro b k cs hro hb hr
  have key : ∀ n i a w, μ i = n → I i → FrOk (NN i) (F i) a → Sat w0 Wr (HH i) w →
      ∃ e a' w', Q e a' w' ∧ ArrivesIn (Machine.fenced P N.fence) P (lone (b.atR a (.code body :: .inLoop body :: k)) cs w) b k cs e a' w' := by
    intro n
    induction n using Nat.strongRecOn with
    | _ n ih =>
      intro i a w hn hI ha hw
      obtain ⟨e, a₁, w₁, hq, harr⟩ := round i hI a w ha hw hp' b (.inLoop body :: k) cs hro hb hr
      cases e with
      | normal =>
        obtain ⟨j, hj, hlt, hfj, hsj⟩ := hq
        obtain ⟨e₂, a₂, w₂, hq₂, harr₂⟩ := ih (μ j) (hn ▸ hlt) j a₁ w₁ rfl hj hfj hsj
        exact ⟨e₂, a₂, w₂, hq₂, .of_steps (StepsIn.trans harr (.one (fenced_calm hb hr rfl) stepR_inLoop)) harr₂⟩
      | exit id => exact ⟨_, a₁, w₁, hq, .pass (x := .inLoop body) rfl (fun _ _ => .inl (by simp)) harr⟩
      | goto l => exact ⟨_, a₁, w₁, hq, .pass (x := .inLoop body) rfl (fun _ _ => .inl (by simp)) harr⟩
      | ret => exact ⟨_, a₁, w₁, hq, .pass (x := .inLoop body) rfl (fun _ _ => .inl (by simp)) harr⟩
      | panic ch => exact ⟨_, a₁, w₁, hq, .pass (x := .inLoop body) rfl (fun _ _ => .inl (by simp)) harr⟩
      | outgrown => exact ⟨_, a₁, w₁, hq, .pass (x := .inLoop body) rfl (fun _ _ => .inl (by simp)) harr⟩
  obtain ⟨e, a', w', hq, harr⟩ := key _ i0 a w rfl h0 ha hw
  exact ⟨e, a', w', hq, .of_steps (.one (fenced_calm hb hr rfl) stepR_loop) harr⟩
theorem vU5 {f : FuncId} {args : Array Value} {R : Ending → World → Prop} {n : Nat} (h : Calls P f args w R) : CallsIn N.fence n P f args w R := callsIn_wide.2 h
theorem yO5 {row : String} {args : Array Value} {R : Value → World → Prop} {n : Nat} (h : Rows P row args w R) : RowsIn N.fence n P row args w R := fun c cs _ => by
  obtain ⟨v, w', hR, hs⟩ := h c cs
  exact ⟨v, w', hR, stepsIn_wide.2 hs⟩
theorem yQ4 {o : Oper} (hp : N.R.isSome = true → jT3 o = true) (h : o.wp P a w K (QN Q)) : o.wpIn N.fence 0 P a w K (QN Q) := by
  have hs : o.semAt N.fence.round a.eval = execOp a.eval o := by
    cases hr : N.R with
    | none => rw [show N.fence.round = none from hr]; rfl
    | some l => rw [show N.fence.round = some l from hr]; exact Oper.semAt_some l _ _ (fun c hc => by have := hp (by rw [hr]; rfl); simp [jT3, hc] at this)
  unfold Oper.wpIn
  refine ⟨fun _ _ => trivial, ?_⟩
  rw [hs]
  unfold Oper.wp at h
  generalize (execOp a.eval o).run P w = r at h ⊢
  cases r with
  | ok n w' =>
    cases n <;> simp only [Oper.upon, Oper.uponIn] at h ⊢ <;> first | exact h | exact h.elim | exact ⟨(fun e => by cases e), vU5 h⟩ | exact ⟨(fun e => by cases e), yO5 h⟩
  | halt x w' => cases x <;> simp only [Oper.upon, Oper.uponIn] at h ⊢ <;> first | exact h | exact h.elim
theorem wJ4 {ops : Array Oper} : ∀ (l : List Oper) (a : Act) (w : World), (N.R.isSome = true → l.all jT3 = true) → wpList P ops (QN Q) l a w → wpListIn N.fence 0 P ops (QN Q) l a w
  | [], _, _, _, h => h
  | o :: r, a, w, hp, h => by
    have hp' : N.R.isSome = true → jT3 o = true ∧ r.all jT3 = true := fun e => by simpa using hp e
    have ih := fun a w => wJ4 (ops := ops) r a w (fun e => (hp' e).2)
    simp only [wpList, wpListIn] at h ⊢
    split
    · rename_i hw
      rw [if_pos hw] at h
      exact Oper.wpIn_mono (fun a w hh => ih a w hh) (yQ4 (fun e => (hp' e).1) (h.resolve_right fun h => jW7 h.2))
    · rename_i hw
      rw [if_neg hw] at h
      exact ⟨fun _ _ => trivial, ih _ _ h⟩
theorem yF9 {id : Nat} {l : List Oper} (h : wpList P l.toArray (QN Q) l a w) : wq P N (.region id l.toArray false) Q a w := fun hp =>
  Go.wpIn_mono (wpIn_region_lit (wJ4 l a w (fun e => by simpa [jJ4] using hp e) h)) (fun e a w hq => by obtain ⟨rfl, hq⟩ := hq; exact hq)
theorem vV1 {ops : Array Oper} (hp : N.R.isSome = true → ops.toList.all jT3 = true) : ∀ (n : Nat) (listed : Array Bool) (a : Act) (w : World), wpAny P .any ops (QN Q) n listed a w → wpAnyIn N.fence 0 P .any ops (QN Q) n listed a w
  | 0, _, _, _, h => h
  | n + 1, _, a, w, h => ⟨h.1, fun i hi => by
      have h2 := h.2 i hi
      unfold wpOp at h2
      unfold wpOpIn
      cases ho : ops[i]? with
      | none => simp only [ho] at h2 ⊢; exact vV1 hp n _ _ _ h2
      | some o =>
        simp only [ho] at h2 ⊢
        have hm : o ∈ ops.toList := by
          rw [Array.mem_toList_iff]
          exact Array.mem_of_getElem? ho
        split
        · rename_i hw
          rw [if_pos hw] at h2
          exact Oper.wpIn_mono (fun a w hh => vV1 hp n _ a w hh) (yQ4 (fun e => List.all_eq_true.1 (hp e) o hm) (h2.resolve_right fun h => jW7 h.2))
        · rename_i hw
          rw [if_neg hw] at h2
          exact ⟨fun _ _ => trivial, vV1 hp n _ _ _ h2⟩⟩
theorem kL3 {id : Nat} {ops : Array Oper} (hm : P.follows .mixedOrders = true) (h : wpAny P .any ops (QN Q) ops.size (Array.replicate ops.size false) a w.drew) : wq P N (.region id ops true) Q a w := fun hp =>
  Go.wpIn_mono (wpIn_region_any hm (vV1 (fun e => by simpa [jJ4] using hp e) _ _ _ _ h)) (fun e a w hq => by obtain ⟨rfl, hq⟩ := hq; exact hq)
end
end
section
open Go.RowKit
def wrs (H : Heap) : List Nat := (H.filter Ent.wr).map Ent.g
def Enters (P : Program) (f : FuncId) : Prop := ∃ fn, P.funcs[f]? = some fn ∧ (fn.name == "runtime.NumGoroutine") = false ∧ fn.body.isNone = false
def Fn (P : Program) (f : FuncId) (args : List Value) (H : Heap) (R : Value → Heap → Prop) : Prop :=
  Enters P f ∧ ∀ w, Sat w (wrs H) H w → Calls P f args.toArray w fun e w' => ∃ v H', e = .returned v ∧ R v H' ∧ Sat w (wrs H) H' w'
def awp (P : Program) (N : Frm) (w0 : World) (Wr : List Nat) (c : Code) (fr : Fr) (H : Heap) (Q : Exit → Act → World → Prop) : Prop :=
  ∀ a w, FrOk N fr a → Sat w0 Wr H w → wq P N c Q a w
def nx (N : Frm) (w0 : World) (Wr : List Nat) (fr : Fr) (H : Heap) (Q : Exit → Act → World → Prop) (e : Exit) : Prop :=
  ∀ a w, FrOk N fr a → Sat w0 Wr H w → Q e a w
def pick (idxs : List Nat) (H : Heap) : Heap := idxs.filterMap (H[·]?)
def HLe (H' H : Heap) : Prop := ∀ w0 Wr w, Sat w0 Wr H w → Sat w0 Wr H' w
theorem HLe.refl (H : Heap) : HLe H H := fun _ _ _ h => h
theorem jX5 {idxs : List Nat} {H : Heap} {e : Ent} (h : e ∈ pick idxs H) : ∃ i ∈ idxs, H[i]? = some e := by
  simpa [pick, List.mem_filterMap] using h
theorem Sep.at_ {H : Heap} (h : Sep H) {i j : Nat} {a b : Ent} (hij : i ≠ j) (hi : H[i]? = some a) (hj : H[j]? = some b) : a.apart b := by
  obtain ⟨hi1, hi2⟩ := List.getElem?_eq_some_iff.1 hi
  obtain ⟨hj1, hj2⟩ := List.getElem?_eq_some_iff.1 hj
  rcases Nat.lt_or_gt_of_ne hij with hlt | hlt
  · have := List.pairwise_iff_getElem.1 h i j hi1 hj1 hlt
    rwa [hi2, hj2] at this
  · have := List.pairwise_iff_getElem.1 h j i hj1 hi1 hlt
    rw [hi2, hj2] at this
    exact fun hb => (this (by rw [Bool.or_comm]; exact hb)).symm
theorem kJ7 {H : Heap} (h : Sep H) : ∀ {idxs : List Nat}, idxs.Nodup → Sep (pick idxs H)
  | [], _ => List.Pairwise.nil
  | i :: r, hn => by
    have hn' := List.nodup_cons.1 hn
    have ih := kJ7 h hn'.2
    unfold pick at ih ⊢
    rw [List.filterMap_cons]
    cases hi : H[i]? with
    | none => exact ih
    | some e =>
      refine List.Pairwise.cons (fun x hx => ?_) ih
      obtain ⟨j, hj, hjx⟩ := jX5 hx
      exact h.at_ (fun e => hn'.1 (by subst e; exact hj)) hi hjx
theorem Sat.pick {w0 w : World} {Wr : List Nat} {H : Heap} (h : Sat w0 Wr H w) (idxs : List Nat) (hn : idxs.Nodup) : Sat w0 Wr (pick idxs H) w :=
  ⟨h.only, fun e he => by obtain ⟨i, _, hi⟩ := jX5 he; exact h.ents e (List.mem_of_getElem? hi), kJ7 h.sep hn⟩
theorem HLe.pick {H H' : Heap} (idxs : List Nat) (hn : idxs.Nodup) (he : pick idxs H = H') : HLe H' H := fun _ _ _ h => he ▸ h.pick idxs hn
theorem mem_wrs {H : Heap} {g : Nat} : g ∈ wrs H ↔ ∃ e ∈ H, e.wr = true ∧ e.g = g := by
  simp [wrs, List.mem_filter, and_assoc]
def jS2 (idxs : List Nat) (H : Heap) : Heap := (H.zipIdx.filter fun p => !p.1.wr || !idxs.contains p.2).map Prod.fst
theorem yA4 {idxs : List Nat} {H : Heap} {e : Ent} (h : e ∈ jS2 idxs H) : ∃ i, H[i]? = some e ∧ (e.wr = true → i ∉ idxs) := by
  simp only [jS2, List.mem_map, List.mem_filter] at h
  obtain ⟨⟨x, i⟩, ⟨hx, hc⟩, rfl⟩ := h
  refine ⟨i, List.mem_zipIdx_iff_getElem?.1 hx, fun hw => ?_⟩
  simp only [hw, Bool.not_true, Bool.false_or, Bool.not_eq_true', List.contains_eq_mem, decide_eq_false_iff_not] at hc
  exact hc
theorem vS9 (idxs : List Nat) (H : Heap) : (jS2 idxs H).Sublist H := by
  have : ((H.zipIdx.filter fun p => !p.1.wr || !idxs.contains p.2).map Prod.fst).Sublist (H.zipIdx.map Prod.fst) := List.Sublist.map _ List.filter_sublist
  simpa [jS2, List.zipIdx_map_fst] using this
theorem Sat.call {w0 w w' : World} {Wr : List Nat} {H H' : Heap} {idxs : List Nat} (h : Sat w0 Wr H w) (hn : idxs.Nodup) (h' : Sat w (wrs (Go.Proofs.YtfeopecgedbfpaaGreatDoor.pick idxs H)) H' w') :
    Sat w0 Wr (H'.filter Ent.wr ++ jS2 idxs H) w' := by
  have hin : ∀ i ∈ wrs (Go.Proofs.YtfeopecgedbfpaaGreatDoor.pick idxs H), i ∈ Wr ∨ w0.heap.size ≤ i := fun i hi => by
    obtain ⟨e, he, hw, rfl⟩ := mem_wrs.1 hi
    obtain ⟨j, _, hj⟩ := jX5 he
    exact (h.ents e (List.mem_of_getElem? hj)).2 hw
  have hout : ∀ x ∈ jS2 idxs H, x.g ∉ wrs (Go.Proofs.YtfeopecgedbfpaaGreatDoor.pick idxs H) := fun x hx hm => by
    obtain ⟨e, he, hw, hg⟩ := mem_wrs.1 hm
    obtain ⟨j, hj, hje⟩ := jX5 he
    obtain ⟨i, hi, hiw⟩ := yA4 hx
    by_cases hij : j = i
    · subst hij
      have : e = x := Option.some.inj (hje.symm.trans hi)
      subst this
      exact hiw hw hj
    · exact h.sep.at_ hij hje hi (by simp [hw]) hg
  have hk : ∀ x ∈ jS2 idxs H, x ∈ H := fun x hx => (vS9 idxs H).subset hx
  refine ⟨h.only.trans h'.only hin, ?_, ?_⟩
  · intro e he
    rcases List.mem_append.1 he with he | he
    · have hm := h'.ents e (List.mem_filter.1 he).1
      refine ⟨hm.1, fun hw => ?_⟩
      rcases hm.2 hw with h1 | h1
      · exact hin _ h1
      · exact .inr (Nat.le_trans h.only.size h1)
    · have hm := h.ents e (hk e he)
      exact ⟨Ent.keep hm.1 h'.only.size (h'.only.block _ (Ent.lt hm.1) (hout e he)), hm.2⟩
  · refine List.pairwise_append.2 ⟨h'.sep.sublist List.filter_sublist, h.sep.sublist (vS9 idxs H), fun e he x hx _ => ?_⟩
    obtain ⟨he1, he2⟩ := List.mem_filter.1 he
    rcases (h'.ents e he1).2 he2 with h1 | h1
    · exact fun hg => hout x hx (hg ▸ h1)
    · have := Ent.lt (h.ents x (hk x hx)).1
      omega
def evs (fr : Fr) : List Operand → Option (List Value)
  | [] => some []
  | x :: r => (ev fr x).bind fun v => (evs fr r).bind fun vs => some (v :: vs)
theorem FrOk.evals {N : Frm} {fr : Fr} {a : Act} (h : FrOk N fr a) : ∀ {xs : List Operand} {vs : List Value}, evs fr xs = some vs → xs.map a.eval = vs
  | [], vs, hx => by obtain rfl := Option.some.inj hx; rfl
  | x :: r, vs, hx => by
    simp only [evs] at hx
    cases h1 : ev fr x with
    | none => simp [h1] at hx
    | some v =>
      cases h2 : evs fr r with
      | none => simp [h1, h2] at hx
      | some us =>
        simp only [h1, h2, Option.bind_some, Option.some.injEq] at hx
        subst hx
        simp [h.eval h1, h.evals h2]
section
variable {P : Program} {N : Frm} {w0 : World} {Wr : List Nat} {ops : Array Oper} {rest : List Oper} {fr : Fr} {H : Heap} {Z : Fr → Heap → Prop} {Q : Exit → Act → World → Prop}
variable {d ty : Nat} {pos : String} {after : Array Edge}
theorem vQ2 {f : FuncId} {vs : List Value} (hE : Enters P f) {xs : List Operand} {ts : Array TypeId} {ρ : Operand → Value} (hx : xs.map ρ = vs) (hf : ρ (.func f) = .func (.func f) #[] #[]) {dst : Option Nat} {w : World} :
    (execOp ρ ⟨dst, .call { callee := .value (.func f), args := xs.toArray, argTypes := ts }, ty, pos, after, none⟩).run P w = .ok (.enter f vs.toArray) w := by
  obtain ⟨fn, h1, h2, h3⟩ := hE
  subst hx
  have h2' : ¬ (fn.name = "runtime.NumGoroutine") := by simpa using h2
  have h3' : ¬ (fn.body = none) := by intro e; rw [e] at h3; cases h3
  simp [execOp, resolve, hf, Deferred.ofValue, invoke, callFunc, h1, h2', h3', program, Sem.run_bind, Sem.run_pure, Sem.run]
def dstB (N : Frm) : Option Nat → Bool
  | some d => Nat.ble (d + 1) N.n
  | none => true
theorem jP5 {f : FuncId} {xs : List Operand} {vs : List Value} {ts : Array TypeId} {dst : Option Nat} {R : Value → Heap → Prop} (hE : Enters P f) (hx : evs fr xs = some vs) (hN : dstB N dst = true)
    (hc : ∀ w, Sat w0 Wr H w → Calls P f vs.toArray w fun e w' => ∃ v H', e = .returned v ∧ R v H' ∧ Sat w0 Wr H' w')
    (h : ∀ v H', R v H' → sx P N w0 Wr ops rest (match dst with | some d => (d, v) :: fr | none => fr) H' Z) :
    sx P N w0 Wr ops (⟨dst, .call { callee := .value (.func f), args := xs.toArray, argTypes := ts }, ty, pos, after, none⟩ :: rest) fr H Z :=
  vW0 rfl fun a w K Q ha hw hK => by
    unfold Oper.wp
    rw [vQ2 hE (ha.evals hx) rfl]
    refine (hc w hw).mono fun e w' he => ?_
    obtain ⟨v, H', rfl, hR, hS⟩ := he
    cases dst with
    | none => exact hK v w' fr H' (h v H' hR) (ha.skip _) hS
    | some d => exact hK v w' _ H' (h v H' hR) (ha.put hN v) hS
theorem wV5 {f : FuncId} {xs : List Operand} {vs : List Value} {ts : Array TypeId} {v : Value} (hE : Enters P f) (hx : evs fr xs = some vs) (hN : Nat.ble (d + 1) N.n = true)
    (hc : ∀ w, Sat w0 Wr H w → Calls P f vs.toArray w fun e w' => e = .returned v ∧ Bel w w')
    (h : sx P N w0 Wr ops rest ((d, v) :: fr) H Z) :
    sx P N w0 Wr ops (⟨some d, .call { callee := .value (.func f), args := xs.toArray, argTypes := ts }, ty, pos, after, none⟩ :: rest) fr H Z :=
  jP5 (R := fun u H' => u = v ∧ H' = H) hE hx hN (fun w hw => (hc w hw).mono fun e w' he => ⟨v, H, he.1, ⟨rfl, rfl⟩, hw.bel he.2⟩) (fun u H' hR => by obtain ⟨rfl, rfl⟩ := hR; exact h)
theorem yM6 {f : FuncId} {xs : List Operand} {vs : List Value} {ts : Array TypeId} {dst : Option Nat} {Hc : Heap} {R : Value → Heap → Prop} (idxs : List Nat) (hc : Fn P f vs Hc R) (hx : evs fr xs = some vs) (hp : pick idxs H = Hc) (hn : idxs.Nodup) (hN : dstB N dst = true)
    (h : ∀ v H', R v H' → sx P N w0 Wr ops rest (match dst with | some d => (d, v) :: fr | none => fr) (H'.filter Ent.wr ++ jS2 idxs H) Z) :
    sx P N w0 Wr ops (⟨dst, .call { callee := .value (.func f), args := xs.toArray, argTypes := ts }, ty, pos, after, none⟩ :: rest) fr H Z :=
  jP5 (R := fun v H2 => ∃ H', R v H' ∧ H2 = H'.filter Ent.wr ++ jS2 idxs H) hc.1 hx hN (fun w hw => by
    subst hp
    have hw' := hw.pick idxs hn
    have hpre : Sat w (wrs (pick idxs H)) (pick idxs H) w := ⟨Only.refl _ _, fun e he => ⟨(hw'.ents e he).1, fun h => .inl (mem_wrs.2 ⟨e, he, h, rfl⟩)⟩, hw'.sep⟩
    exact (hc.2 w hpre).mono fun e w' he => by
      obtain ⟨v, H', h1, h2, h3⟩ := he
      exact ⟨v, _, h1, ⟨H', h2, rfl⟩, hw.call hn h3⟩) (fun v H2 hR => by obtain ⟨H', hR, rfl⟩ := hR; exact h v H' hR)
theorem Sat.callK {w w' : World} {H' : Heap} {idxs ks : List Nat} (h : Sat w0 Wr H w) (hn : (idxs ++ ks).Nodup) (h' : Sat w (wrs (Go.Proofs.YtfeopecgedbfpaaGreatDoor.pick idxs H)) H' w') :
    Sat w0 Wr (H'.filter Ent.wr ++ Go.Proofs.YtfeopecgedbfpaaGreatDoor.pick ks H) w' := by
  have hn' := List.nodup_append.1 hn
  have hc := h.call hn'.1 h'
  have hin : ∀ x ∈ Go.Proofs.YtfeopecgedbfpaaGreatDoor.pick ks H, x ∈ jS2 idxs H := fun x hx => by
    obtain ⟨i, hi, hix⟩ := jX5 hx
    simp only [jS2, List.mem_map, List.mem_filter]
    refine ⟨(x, i), ⟨List.mem_zipIdx_iff_getElem?.2 hix, ?_⟩, rfl⟩
    have : i ∉ idxs := fun hm => hn'.2.2 i hm i hi rfl
    simp [this]
  have hp := List.pairwise_append.1 hc.sep
  refine ⟨hc.only, fun e he => ?_, List.pairwise_append.2 ⟨hp.1, kJ7 h.sep hn'.2.1, fun a ha b hb => hp.2.2 a ha b (hin b hb)⟩⟩
  rcases List.mem_append.1 he with he | he
  · exact hc.ents e (List.mem_append_left _ he)
  · exact hc.ents e (List.mem_append_right _ (hin e he))
theorem jD7 {f : FuncId} {xs : List Operand} {vs : List Value} {ts : Array TypeId} {dst : Option Nat} {Hc : Heap} {R : Value → Heap → Prop} (idxs ks : List Nat) (hc : Fn P f vs Hc R) (hx : evs fr xs = some vs) (hp : pick idxs H = Hc) (hn : (idxs ++ ks).Nodup) (hN : dstB N dst = true)
    (h : ∀ v H', R v H' → sx P N w0 Wr ops rest (match dst with | some d => (d, v) :: fr | none => fr) (H'.filter Ent.wr ++ pick ks H) Z) :
    sx P N w0 Wr ops (⟨dst, .call { callee := .value (.func f), args := xs.toArray, argTypes := ts }, ty, pos, after, none⟩ :: rest) fr H Z :=
  jP5 (R := fun v H2 => ∃ H', R v H' ∧ H2 = H'.filter Ent.wr ++ pick ks H) hc.1 hx hN (fun w hw => by
    subst hp
    have hw' := hw.pick idxs (List.nodup_append.1 hn).1
    have hpre : Sat w (wrs (pick idxs H)) (pick idxs H) w := ⟨Only.refl _ _, fun e he => ⟨(hw'.ents e he).1, fun h => .inl (mem_wrs.2 ⟨e, he, h, rfl⟩)⟩, hw'.sep⟩
    exact (hc.2 w hpre).mono fun e w' he => by
      obtain ⟨v, H', h1, h2, h3⟩ := he
      exact ⟨v, _, h1, ⟨H', h2, rfl⟩, hw.callK hn h3⟩) (fun v H2 hR => by obtain ⟨H', hR, rfl⟩ := hR; exact h v H' hR)
theorem yM1 {l : List Oper} {H' : Heap} (e : H = H') (h : sx P N w0 Wr ops l fr H' Z) : sx P N w0 Wr ops l fr H Z := e ▸ h
theorem jD5 {l : List Oper} {H' : Heap} (h : sx P N w0 Wr ops l fr H' Z) (e : H = H' := by first | (simp only [qS, List.filter_cons, List.filter_nil, Ent.wr, if_true, pick, List.filterMap_cons]; first | done | rfl) | rfl) : sx P N w0 Wr ops l fr H Z := yM1 e h
theorem yA3 (H : Heap) : jS2 [] H = H := by
  have : (H.zipIdx.filter fun p => !p.1.wr || !([] : List Nat).contains p.2) = H.zipIdx := List.filter_eq_self.2 (fun p _ => by simp)
  unfold jS2
  rw [this, List.zipIdx_map_fst]
theorem sCP {f : FuncId} {xs : List Operand} {vs : List Value} {ts : Array TypeId} {v : Value} (hc : Fn P f vs [] fun u _ => u = v) (hx : evs fr xs = some vs) (hN : Nat.ble (d + 1) N.n = true)
    (h : sx P N w0 Wr ops rest ((d, v) :: fr) H Z) :
    sx P N w0 Wr ops (⟨some d, .call { callee := .value (.func f), args := xs.toArray, argTypes := ts }, ty, pos, after, none⟩ :: rest) fr H Z :=
  yM6 [] hc hx rfl List.nodup_nil hN fun u H' hu => by
    subst hu
    rw [yA3]
    exact yM5 H (List.sublist_append_right _ _) h
theorem sCP0 {f : FuncId} {xs : List Operand} {vs : List Value} {ts : Array TypeId} {v : Value} (hc : Fn P f vs [] fun u _ => u = v) (h : sx P N w0 Wr ops rest ((d, v) :: fr) H Z) (hx : evs fr xs = some vs := by exact rfl) (hN : Nat.ble (d + 1) N.n = true := by exact rfl) :
    sx P N w0 Wr ops (⟨some d, .call { callee := .value (.func f), args := xs.toArray, argTypes := ts }, ty, pos, after, none⟩ :: rest) fr H Z := sCP hc hx hN h
end
section
variable {P : Program} {N : Frm} {w0 : World} {Wr : List Nat} {fr : Fr} {H : Heap} {Q : Exit → Act → World → Prop}
theorem aG {id : Nat} {l : List Oper} (h : ∀ Z : Fr → Heap → Prop, (∀ fr H, nx N w0 Wr fr H Q .normal → Z fr H) → sx P N w0 Wr l.toArray l fr H Z) : awp P N w0 Wr (.region id l.toArray false) fr H Q :=
  fun a w ha hw => yF9 (h (fun fr H => nx N w0 Wr fr H Q .normal) (fun _ _ h => h) (QN Q) (fun fr' H' a w hz hf hs => ⟨rfl, hz a w hf hs⟩) a w ha hw)
theorem aS {x y : Code} (h : awp P N w0 Wr x fr H (Exit.then (wq P N y Q) Q)) : awp P N w0 Wr (.seq x y) fr H Q := fun a w ha hw => yY2 (h a w ha hw)
theorem aR {id : Nat} {l : List Oper} {y : Code} (h : ∀ Z : Fr → Heap → Prop, (∀ fr H, awp P N w0 Wr y fr H Q → Z fr H) → sx P N w0 Wr l.toArray l fr H Z) : awp P N w0 Wr (.seq (.region id l.toArray false) y) fr H Q :=
  aS (aG fun Z hZ => h Z fun fr H hy => hZ fr H hy)
theorem aC {c : Operand} {x y : Code} {b : Bool} (hc : ev fr c = some (.bool b)) (ht : b = true → awp P N w0 Wr x fr H Q) (hf : b = false → awp P N w0 Wr y fr H Q) : awp P N w0 Wr (.cond c x y) fr H Q :=
  fun a w ha hw => kT5 (ha.eval hc) (fun h => ht h a w ha hw) (fun h => hf h a w ha hw)
theorem aC0 {c : Operand} {x y : Code} {b : Bool} (ht : b = true → awp P N w0 Wr x fr H Q) (hf : b = false → awp P N w0 Wr y fr H Q) (hc : ev fr c = some (.bool b) := by exact rfl) : awp P N w0 Wr (.cond c x y) fr H Q := aC hc ht hf
theorem aB {id : Nat} {c : Code} (h : awp P N w0 Wr c fr H (Exit.inBlock id Q)) : awp P N w0 Wr (.block id c) fr H Q := fun a w ha hw => wT1 (h a w ha hw)
theorem jB1 {id : Nat} (h : nx N w0 Wr fr H Q (.exit id)) : awp P N w0 Wr (.exit id) fr H Q := fun a w ha hw => yK1 (h a w ha hw)
theorem aE (h : nx N w0 Wr fr H Q .ret) : awp P N w0 Wr .ret fr H Q := fun a w ha hw => yY3 (h a w ha hw)
theorem aK (h : nx N w0 Wr fr H Q .normal) : awp P N w0 Wr .skip fr H Q := fun a w ha hw => yJ9 (h a w ha hw)
theorem aF {c : Code} (fr' : Fr) (hk : Kn fr' fr) (h : awp P N w0 Wr c fr' H Q) : awp P N w0 Wr c fr H Q := fun a w ha hw => h a w (ha.kn hk) hw
theorem f1K (i0 : Nat) {v0 : Value} {c : Code} (h : [lk fr i0] = [some v0]) (k : awp P N w0 Wr c [(i0, v0)] H Q) : awp P N w0 Wr c fr H Q := aF [(i0, v0)] (kR h) k
theorem f2K (i0 i1 : Nat) {v0 v1 : Value} {c : Code} (h : [lk fr i0, lk fr i1] = [some v0, some v1]) (k : awp P N w0 Wr c [(i0, v0), (i1, v1)] H Q) : awp P N w0 Wr c fr H Q := aF [(i0, v0), (i1, v1)] (kR h) k
theorem f3K (i0 i1 i2 : Nat) {v0 v1 v2 : Value} {c : Code} (h : [lk fr i0, lk fr i1, lk fr i2] = [some v0, some v1, some v2]) (k : awp P N w0 Wr c [(i0, v0), (i1, v1), (i2, v2)] H Q) : awp P N w0 Wr c fr H Q := aF [(i0, v0), (i1, v1), (i2, v2)] (kR h) k
theorem f4K (i0 i1 i2 i3 : Nat) {v0 v1 v2 v3 : Value} {c : Code} (h : [lk fr i0, lk fr i1, lk fr i2, lk fr i3] = [some v0, some v1, some v2, some v3]) (k : awp P N w0 Wr c [(i0, v0), (i1, v1), (i2, v2), (i3, v3)] H Q) : awp P N w0 Wr c fr H Q := aF [(i0, v0), (i1, v1), (i2, v2), (i3, v3)] (kR h) k
theorem f5K (i0 i1 i2 i3 i4 : Nat) {v0 v1 v2 v3 v4 : Value} {c : Code} (h : [lk fr i0, lk fr i1, lk fr i2, lk fr i3, lk fr i4] = [some v0, some v1, some v2, some v3, some v4]) (k : awp P N w0 Wr c [(i0, v0), (i1, v1), (i2, v2), (i3, v3), (i4, v4)] H Q) : awp P N w0 Wr c fr H Q := aF [(i0, v0), (i1, v1), (i2, v2), (i3, v3), (i4, v4)] (kR h) k
theorem f6K (i0 i1 i2 i3 i4 i5 : Nat) {v0 v1 v2 v3 v4 v5 : Value} {c : Code} (h : [lk fr i0, lk fr i1, lk fr i2, lk fr i3, lk fr i4, lk fr i5] = [some v0, some v1, some v2, some v3, some v4, some v5]) (k : awp P N w0 Wr c [(i0, v0), (i1, v1), (i2, v2), (i3, v3), (i4, v4), (i5, v5)] H Q) : awp P N w0 Wr c fr H Q := aF [(i0, v0), (i1, v1), (i2, v2), (i3, v3), (i4, v4), (i5, v5)] (kR h) k
theorem f7K (i0 i1 i2 i3 i4 i5 i6 : Nat) {v0 v1 v2 v3 v4 v5 v6 : Value} {c : Code} (h : [lk fr i0, lk fr i1, lk fr i2, lk fr i3, lk fr i4, lk fr i5, lk fr i6] = [some v0, some v1, some v2, some v3, some v4, some v5, some v6]) (k : awp P N w0 Wr c [(i0, v0), (i1, v1), (i2, v2), (i3, v3), (i4, v4), (i5, v5), (i6, v6)] H Q) : awp P N w0 Wr c fr H Q := aF [(i0, v0), (i1, v1), (i2, v2), (i3, v3), (i4, v4), (i5, v5), (i6, v6)] (kR h) k
theorem f8K (i0 i1 i2 i3 i4 i5 i6 i7 : Nat) {v0 v1 v2 v3 v4 v5 v6 v7 : Value} {c : Code} (h : [lk fr i0, lk fr i1, lk fr i2, lk fr i3, lk fr i4, lk fr i5, lk fr i6, lk fr i7] = [some v0, some v1, some v2, some v3, some v4, some v5, some v6, some v7]) (k : awp P N w0 Wr c [(i0, v0), (i1, v1), (i2, v2), (i3, v3), (i4, v4), (i5, v5), (i6, v6), (i7, v7)] H Q) : awp P N w0 Wr c fr H Q := aF [(i0, v0), (i1, v1), (i2, v2), (i3, v3), (i4, v4), (i5, v5), (i6, v6), (i7, v7)] (kR h) k
theorem f9K (i0 i1 i2 i3 i4 i5 i6 i7 i8 : Nat) {v0 v1 v2 v3 v4 v5 v6 v7 v8 : Value} {c : Code} (h : [lk fr i0, lk fr i1, lk fr i2, lk fr i3, lk fr i4, lk fr i5, lk fr i6, lk fr i7, lk fr i8] = [some v0, some v1, some v2, some v3, some v4, some v5, some v6, some v7, some v8]) (k : awp P N w0 Wr c [(i0, v0), (i1, v1), (i2, v2), (i3, v3), (i4, v4), (i5, v5), (i6, v6), (i7, v7), (i8, v8)] H Q) : awp P N w0 Wr c fr H Q := aF [(i0, v0), (i1, v1), (i2, v2), (i3, v3), (i4, v4), (i5, v5), (i6, v6), (i7, v7), (i8, v8)] (kR h) k
theorem f10K (i0 i1 i2 i3 i4 i5 i6 i7 i8 i9 : Nat) {v0 v1 v2 v3 v4 v5 v6 v7 v8 v9 : Value} {c : Code} (h : [lk fr i0, lk fr i1, lk fr i2, lk fr i3, lk fr i4, lk fr i5, lk fr i6, lk fr i7, lk fr i8, lk fr i9] = [some v0, some v1, some v2, some v3, some v4, some v5, some v6, some v7, some v8, some v9]) (k : awp P N w0 Wr c [(i0, v0), (i1, v1), (i2, v2), (i3, v3), (i4, v4), (i5, v5), (i6, v6), (i7, v7), (i8, v8), (i9, v9)] H Q) : awp P N w0 Wr c fr H Q := aF [(i0, v0), (i1, v1), (i2, v2), (i3, v3), (i4, v4), (i5, v5), (i6, v6), (i7, v7), (i8, v8), (i9, v9)] (kR h) k
theorem f11K (i0 i1 i2 i3 i4 i5 i6 i7 i8 i9 i10 : Nat) {v0 v1 v2 v3 v4 v5 v6 v7 v8 v9 v10 : Value} {c : Code} (h : [lk fr i0, lk fr i1, lk fr i2, lk fr i3, lk fr i4, lk fr i5, lk fr i6, lk fr i7, lk fr i8, lk fr i9, lk fr i10] = [some v0, some v1, some v2, some v3, some v4, some v5, some v6, some v7, some v8, some v9, some v10]) (k : awp P N w0 Wr c [(i0, v0), (i1, v1), (i2, v2), (i3, v3), (i4, v4), (i5, v5), (i6, v6), (i7, v7), (i8, v8), (i9, v9), (i10, v10)] H Q) : awp P N w0 Wr c fr H Q := aF [(i0, v0), (i1, v1), (i2, v2), (i3, v3), (i4, v4), (i5, v5), (i6, v6), (i7, v7), (i8, v8), (i9, v9), (i10, v10)] (kR h) k
theorem f12K (i0 i1 i2 i3 i4 i5 i6 i7 i8 i9 i10 i11 : Nat) {v0 v1 v2 v3 v4 v5 v6 v7 v8 v9 v10 v11 : Value} {c : Code} (h : [lk fr i0, lk fr i1, lk fr i2, lk fr i3, lk fr i4, lk fr i5, lk fr i6, lk fr i7, lk fr i8, lk fr i9, lk fr i10, lk fr i11] = [some v0, some v1, some v2, some v3, some v4, some v5, some v6, some v7, some v8, some v9, some v10, some v11]) (k : awp P N w0 Wr c [(i0, v0), (i1, v1), (i2, v2), (i3, v3), (i4, v4), (i5, v5), (i6, v6), (i7, v7), (i8, v8), (i9, v9), (i10, v10), (i11, v11)] H Q) : awp P N w0 Wr c fr H Q := aF [(i0, v0), (i1, v1), (i2, v2), (i3, v3), (i4, v4), (i5, v5), (i6, v6), (i7, v7), (i8, v8), (i9, v9), (i10, v10), (i11, v11)] (kR h) k
theorem jA6 {c : Code} (H' : Heap) (hk : HLe H' H) (h : awp P N w0 Wr c fr H' Q) : awp P N w0 Wr c fr H Q := fun a w ha hw => h a w ha (hk _ _ _ hw)
theorem nF {e : Exit} (fr' : Fr) (hk : Kn fr' fr) (h : nx N w0 Wr fr' H Q e) : nx N w0 Wr fr H Q e := fun a w ha hw => h a w (ha.kn hk) hw
theorem nN {y : Code} (h : awp P N w0 Wr y fr H Q) : nx N w0 Wr fr H (Exit.then (wq P N y Q) Q) .normal := h
theorem nTR {K : Act → World → Prop} (h : nx N w0 Wr fr H Q .ret) : nx N w0 Wr fr H (Exit.then K Q) .ret := h
theorem nTE {K : Act → World → Prop} {i : Nat} (h : nx N w0 Wr fr H Q (.exit i)) : nx N w0 Wr fr H (Exit.then K Q) (.exit i) := h
theorem nBR {id : Nat} (h : nx N w0 Wr fr H Q .ret) : nx N w0 Wr fr H (Exit.inBlock id Q) .ret := h
theorem nBN {id : Nat} (h : nx N w0 Wr fr H Q .normal) : nx N w0 Wr fr H (Exit.inBlock id Q) .normal := h
theorem nBE {id : Nat} (h : nx N w0 Wr fr H Q .normal) : nx N w0 Wr fr H (Exit.inBlock id Q) (.exit id) := fun a w ha hw => by
 simp only [Exit.inBlock, if_true]; exact h a w ha hw
theorem jR7 {id i : Nat} (hi : Nat.beq i id = false) (h : nx N w0 Wr fr H Q (.exit i)) : nx N w0 Wr fr H (Exit.inBlock id Q) (.exit i) := fun a w ha hw => by
 have hne : ¬ i = id := fun e => by subst e; rw [Nat.beq_refl] at hi; cases hi
 simp only [Exit.inBlock, hne, if_false]; exact h a w ha hw
theorem jB9 {body : Code} {ι : Type} (F : ι → Fr) (HH : ι → Heap) (I : ι → Prop) (μ : ι → Nat) (i0 : ι) (h0 : I i0) (hF : Kn (F i0) fr) (hH : HLe (HH i0) H)
  (round : ∀ i, I i → awp P N w0 Wr body (F i) (HH i) (Exit.then (fun a w => ∃ j, I j ∧ μ j < μ i ∧ FrOk N (F j) a ∧ Sat w0 Wr (HH j) w) Q)) : awp P N w0 Wr (.loop body) fr H Q :=
 fun a w ha hw => yK0 (fun _ => N) F HH I μ i0 h0 (fun i hI a w hf hs => round i hI a w hf hs) (ha.kn hF) (hH _ _ _ hw)
theorem jB8 {ι : Type} {F : ι → Fr} {HH : ι → Heap} {I : ι → Prop} {μ : ι → Nat} {i : ι} (j : ι) (hI : I j) (hμ : μ j < μ i) (hF : Kn (F j) fr) (hH : HLe (HH j) H) :
  nx N w0 Wr fr H (Exit.then (fun a w => ∃ j, I j ∧ μ j < μ i ∧ FrOk N (F j) a ∧ Sat w0 Wr (HH j) w) Q) .normal :=
 fun a w ha hw => ⟨j, hI, hμ, ha.kn hF, hH _ _ _ hw⟩
theorem jJ7 {x y : Code} {ι : Type} (F : ι → Fr) (HH : ι → Heap) (I : ι → Prop)
  (hx : awp P N w0 Wr x fr H (Exit.then (fun a w => ∃ j, I j ∧ FrOk N (F j) a ∧ Sat w0 Wr (HH j) w) Q)) (hy : ∀ j, I j → awp P N w0 Wr y (F j) (HH j) Q) : awp P N w0 Wr (.seq x y) fr H Q :=
 aS fun a w ha hw => kT4 (fun e a w h => by
  cases e <;> first | exact h | (obtain ⟨j, hj, h1, h2⟩ := h; exact hy j hj a w h1 h2)) (hx a w ha hw)
theorem jE4 {ι : Type} {F : ι → Fr} {HH : ι → Heap} {I : ι → Prop} (j : ι) (hI : I j) (hF : Kn (F j) fr) (hH : HLe (HH j) H) :
  nx N w0 Wr fr H (Exit.then (fun a w => ∃ j, I j ∧ FrOk N (F j) a ∧ Sat w0 Wr (HH j) w) Q) .normal :=
 fun a w ha hw => ⟨j, hI, ha.kn hF, hH _ _ _ hw⟩
def kS2 : Nat → List Value → Fr
 | _, [] => []
 | i, v :: r => (i, v) :: kS2 (i + 1) r
theorem kY5 : ∀ (vs : List Value) (i t : Nat) (v : Value), lk (kS2 i vs) t = some v → ∃ k, t = i + k ∧ vs[k]? = some v
 | [], _, _, _, h => by cases h
 | u :: r, i, t, v, h => by
  simp only [kS2, lk] at h
  cases hb : Nat.beq i t with
  | true => rw [hb] at h; exact ⟨0, (x7 hb).symm, h⟩
  | false =>
   rw [hb] at h
   obtain ⟨k, hk, hv⟩ := kY5 r (i + 1) t v h
   exact ⟨k + 1, by omega, by simpa using hv⟩
def jR4 (w0 : World) (Wr : List Nat) (R : Value → Heap → Prop) (e : Ending) (w' : World) : Prop := ∃ v H', e = .returned v ∧ R v H' ∧ Sat w0 Wr H' w'
theorem Fn.enter {N : Nat} {f : FuncId} {fn : Func} {c : Code} {args : List Value} {R : Value → Heap → Prop} (hf : P.funcs[f]? = some fn) (hb : fn.body = some c) (hn : (fn.name == "runtime.NumGoroutine") = false) (hN : args.length + (fn.ntmps - args.length) = N)
  (h : ∀ w0, awp P ⟨N, none, []⟩ w0 (wrs H) c (kS2 0 args) H (bodyPost P fn (jR4 w0 (wrs H) R))) : Fn P f args H R := by
 refine ⟨⟨fn, hf, hn, by simp [hb]⟩, fun w hw => calls_of_wp hf hb (vH9 (h w _ w ⟨?_, rfl, ?_⟩ hw))⟩
 ·simp [← hN]
 ·intro t v ht
  obtain ⟨k, rfl, hk⟩ := kY5 args 0 t v ht
  have hl : k < args.length := (List.getElem?_eq_some_iff.1 hk).1
  simp only [lA]
  rw [Array.getElem?_append_left (by simpa using hl)]
  simpa using hk
def ResOk (P : Program) (fr : Fr) (H : Heap) : ResultVar → Value → Prop
 | .tmp t, v => lk fr t = some v
 | .cell a t, v => ∃ (i g o : Nat) (e : TypeId) (cs : List Value) (agg : Bool) (n : Nat), lk fr a = some (ptr g o) ∧ H[i]? = some (Ent.own g e cs) ∧ tyAgg P t = some agg ∧ tySize P t = some n ∧ rdV agg n cs o = some v
theorem ResOk.cell {a t : Nat} (i : Nat) {g o : Nat} {e : TypeId} {cs : List Value} {agg : Bool} {n : Nat} {v : Value} (h1 : lk fr a = some (ptr g o)) (h2 : H[i]? = some (.own g e cs)) (h3 : tyAgg P t = some agg) (h4 : tySize P t = some n) (h5 : rdV agg n cs o = some v) : ResOk P fr H (.cell a t) v :=
 ⟨i, g, o, e, cs, agg, n, h1, h2, h3, h4, h5⟩
theorem ResOk.run {r : ResultVar} {v : Value} {a : Act} {w : World} (h : ResOk P fr H r v) (ha : FrOk N fr a) (hw : Sat w0 Wr H w) :
  (match r with | .tmp t => (pure (a.tmps.getD t undef) : Sem Value) | .cell b t => do loadVar t (← asAddr (a.tmps.getD b undef))).run P w = .ok v w := by
 cases r with
 | tmp t =>
  have := ha.at_ t v h
  simp [zH, this]
 | cell b t =>
  obtain ⟨i, g, o, e, cs, agg, n, h1, h2, h3, h4, h5⟩ := h
  have hb := ha.at_ b _ h1
  have hc := Ent.cell (hw.mem h2)
  simp only [zH, hb, Option.getD_some, ptr, asAddr, lI, l9, lQ]
  exact jQ2 h3 h4 h5 (fun j u hu => (hc j).trans hu)
variable {n : Nat} {ro : Option Nat}
def yG9 (tmps : Array Value) : ResultVar → Sem Value
 | .tmp t => pure (tmps.getD t undef)
 | .cell a t => do loadVar t (← asAddr (tmps.getD a undef))
theorem ResOk.run' {r : ResultVar} {v : Value} {a : Act} {w : World} (h : ResOk P fr H r v) (ha : FrOk N fr a) (hw : Sat w0 Wr H w) : (yG9 a.tmps r).run P w = .ok v w := by
 have := h.run ha hw
 cases r <;> exact this
theorem jN7 (fn : Func) (tmps : Array Value) : results fn tmps = (do let vs ← fn.results.mapM (yG9 tmps); pure (if h : vs.size = 1 then vs[0] else .tuple vs)) := by
 unfold results
 congr 1
theorem nR1 {fn : Func} {R : Value → Heap → Prop} {r : ResultVar} {v : Value} (hr : fn.results = #[r]) (h1 : ResOk P fr H r v) (hR : R v H) : nx ⟨n, ro, []⟩ w0 Wr fr H (bodyPost P fn (jR4 w0 Wr R)) .ret :=
 fun a w ha hw => ⟨ha.defers, v, by
  have := h1.run' ha hw
  rw [jN7]
  simp [hr, this], v, H, rfl, hR, hw⟩
theorem nR10 {fn : Func} {R : Value → Heap → Prop} {r : ResultVar} {v : Value} (hR : R v H) (hr : fn.results = #[r] := by exact rfl) (h1 : ResOk P fr H r v := by exact rfl) : nx ⟨n, ro, []⟩ w0 Wr fr H (bodyPost P fn (jR4 w0 Wr R)) .ret := nR1 hr h1 hR
theorem jF8 {fn : Func} {R : Value → Heap → Prop} {r s : ResultVar} {v u : Value} (hr : fn.results = #[r, s]) (h1 : ResOk P fr H r v) (h2 : ResOk P fr H s u) (hR : R (.tuple #[v, u]) H) : nx ⟨n, ro, []⟩ w0 Wr fr H (bodyPost P fn (jR4 w0 Wr R)) .ret :=
 fun a w ha hw => ⟨ha.defers, _, by
  have e1 := h1.run' ha hw
  have e2 := h2.run' ha hw
  rw [jN7]
  simp [hr, lI, e1, e2], _, H, rfl, hR, hw⟩
theorem jK3 {fn : Func} {R : Value → Heap → Prop} (HH : Heap) (hr : fn.results = #[]) (hk : HLe HH H) (hR : R (.tuple #[]) HH) : nx ⟨n, ro, []⟩ w0 Wr fr H (bodyPost P fn (jR4 w0 Wr R)) .ret :=
 fun a w ha hw => ⟨ha.defers, _, results_none hr _ _ _, _, HH, rfl, hR, hk _ _ _ hw⟩
theorem jH5 {fn : Func} {R : Value → Heap → Prop} (HH : Heap) (hr : fn.results = #[]) (hk : HLe HH H) (hR : R (.tuple #[]) HH) : nx ⟨n, ro, []⟩ w0 Wr fr H (bodyPost P fn (jR4 w0 Wr R)) .normal :=
 fun a w ha hw => ⟨ha.defers, _, results_none hr _ _ _, _, HH, rfl, hR, hk _ _ _ hw⟩
theorem jC1 {fn : Func} {R : Value → Heap → Prop} {r : ResultVar} {v : Value} (HH : Heap) (hr : fn.results = #[r]) (h1 : ResOk P fr H r v) (hk : HLe HH H) (hR : R v HH) : nx ⟨n, ro, []⟩ w0 Wr fr H (bodyPost P fn (jR4 w0 Wr R)) .ret :=
 fun a w ha hw => ⟨ha.defers, v, by
  have := h1.run' ha hw
  rw [jN7]
  simp [hr, this], v, HH, rfl, hR, hk _ _ _ hw⟩
theorem jD9 {fn : Func} {R : Value → Heap → Prop} {r s : ResultVar} {v u : Value} (HH : Heap) (hr : fn.results = #[r, s]) (h1 : ResOk P fr H r v) (h2 : ResOk P fr H s u) (hk : HLe HH H) (hR : R (.tuple #[v, u]) HH) : nx ⟨n, ro, []⟩ w0 Wr fr H (bodyPost P fn (jR4 w0 Wr R)) .ret :=
 fun a w ha hw => ⟨ha.defers, _, by
  have e1 := h1.run' ha hw
  have e2 := h2.run' ha hw
  rw [jN7]
  simp [hr, lI, e1, e2], _, HH, rfl, hR, hk _ _ _ hw⟩
theorem jH2 {fn : Func} {R : Value → Heap → Prop} {r s t : ResultVar} {v u x : Value} (hr : fn.results = #[r, s, t]) (h1 : ResOk P fr H r v) (h2 : ResOk P fr H s u) (h3 : ResOk P fr H t x) (hR : R (.tuple #[v, u, x]) H) : nx ⟨n, ro, []⟩ w0 Wr fr H (bodyPost P fn (jR4 w0 Wr R)) .ret :=
 fun a w ha hw => ⟨ha.defers, _, by
  have e1 := h1.run' ha hw
  have e2 := h2.run' ha hw
  have e3 := h3.run' ha hw
  rw [jN7]
  simp [hr, lI, e1, e2, e3], _, H, rfl, hR, hw⟩
end
end
section
open Go.RowKit
def kA5 : (Nat → Option (Nat × Nat)) → List Value → List (Nat × List Value) → Option (List Value)
 | _, cells, [] => some cells
 | place, cells, (i, v) :: rest =>
  match place i with
  | none => none
  | some (off, size) => bif Nat.beq v.length size && Nat.ble (off + v.length) cells.length then kA5 place (wrV cells off v) rest else none
section
variable {P : Program} {N : Frm} {w0 : World} {Wr : List Nat} {ops : Array Oper} {rest : List Oper} {fr : Fr} {H : Heap} {Z : Fr → Heap → Prop}
variable {d ty : Nat} {pos : String} {after : Array Edge}
theorem jO9 {op : BinOp} {t t' : TypeId} {x y : Operand} {k : IntKind} {m n : Int} (v : Value) (hx : ev fr x = some (.int k m)) (hy : ev fr y = some (.int k n)) (hv : ∀ w, (binOp op t (.int k m) (.int k n)).run P w = .ok v w) (hN : Nat.ble (d + 1) N.n = true)
  (h : sx P N w0 Wr ops rest ((d, v) :: fr) H Z) : sx P N w0 Wr ops (⟨some d, .binOp op t x y t', ty, pos, after, none⟩ :: rest) fr H Z :=
 jE9 v hN (fun a w ha _ => by
  have hg : (eqGuard op t x y (.int k m) (.int k n)).run P w = .ok () w := by
   unfold eqGuard
   split <;> rfl
  simp only [execOp, ha.eval hx, ha.eval hy, lI, hg, lQ, hv w]
  rfl) h
theorem jC2 {t t' : TypeId} {x y : Operand} {k : IntKind} {m n : Int} (hx : ev fr x = some (.int k m)) (hy : ev fr y = some (.int k n)) (r : Int) (hr : k.wrap (m + n) = r) (hN : Nat.ble (d + 1) N.n = true)
  (h : sx P N w0 Wr ops rest ((d, .int k r) :: fr) H Z) : sx P N w0 Wr ops (⟨some d, .binOp .add t x y t', ty, pos, after, none⟩ :: rest) fr H Z :=
 jO9 _ hx hy (fun w => by subst hr; simp [binOp, Op.intArith]) hN h
theorem jZ5 {t t' : TypeId} {x y : Operand} {k : IntKind} {m n : Int} (r : Int) (hr : k.wrap (m + n) = r) (h : sx P N w0 Wr ops rest ((d, .int k r) :: fr) H Z) (hx : ev fr x = some (.int k m) := by exact rfl) (hy : ev fr y = some (.int k n) := by exact rfl) (hN : Nat.ble (d + 1) N.n = true := by exact rfl) : sx P N w0 Wr ops (⟨some d, .binOp .add t x y t', ty, pos, after, none⟩ :: rest) fr H Z := jC2 hx hy r hr hN h
theorem jN3 {t t' : TypeId} {x y : Operand} {k : IntKind} {m n : Int} (hx : ev fr x = some (.int k m)) (hy : ev fr y = some (.int k n)) (r : Int) (hr : k.wrap (m - n) = r) (hN : Nat.ble (d + 1) N.n = true)
  (h : sx P N w0 Wr ops rest ((d, .int k r) :: fr) H Z) : sx P N w0 Wr ops (⟨some d, .binOp .sub t x y t', ty, pos, after, none⟩ :: rest) fr H Z :=
 jO9 _ hx hy (fun w => by subst hr; simp [binOp, Op.intArith]) hN h
theorem vB9 {t t' : TypeId} {x y : Operand} {k : IntKind} {m n : Int} (hx : ev fr x = some (.int k m)) (hy : ev fr y = some (.int k n)) (r : Int) (hr : k.wrap (m * n) = r) (hN : Nat.ble (d + 1) N.n = true)
  (h : sx P N w0 Wr ops rest ((d, .int k r) :: fr) H Z) : sx P N w0 Wr ops (⟨some d, .binOp .mul t x y t', ty, pos, after, none⟩ :: rest) fr H Z :=
 jO9 _ hx hy (fun w => by subst hr; simp [binOp, Op.intArith]) hN h
theorem yG2 {t t' : TypeId} {x y : Operand} {k : IntKind} {m n : Int} (hx : ev fr x = some (.int k m)) (hy : ev fr y = some (.int k n)) (hn : n ≠ 0) (r : Int) (hr : k.wrap (m.tdiv n) = r) (hN : Nat.ble (d + 1) N.n = true)
  (h : sx P N w0 Wr ops rest ((d, .int k r) :: fr) H Z) : sx P N w0 Wr ops (⟨some d, .binOp .quo t x y t', ty, pos, after, none⟩ :: rest) fr H Z :=
 jO9 _ hx hy (fun w => by subst hr; simp [binOp, Op.intDiv, hn]) hN h
theorem zA1 {t t' : TypeId} {x y : Operand} {k : IntKind} {m n : Int} (hx : ev fr x = some (.int k m)) (hy : ev fr y = some (.int k n)) (hN : Nat.ble (d + 1) N.n = true)
  (h : sx P N w0 Wr ops rest ((d, .bool (decide (m < n))) :: fr) H Z) : sx P N w0 Wr ops (⟨some d, .binOp .lss t x y t', ty, pos, after, none⟩ :: rest) fr H Z :=
 jO9 _ hx hy (fun w => by simp [binOp, Op.intCmp]) hN h
theorem jB2 {t t' : TypeId} {x y : Operand} {k : IntKind} {m n : Int} (h : sx P N w0 Wr ops rest ((d, .bool (decide (m < n))) :: fr) H Z) (hx : ev fr x = some (.int k m) := by exact rfl) (hy : ev fr y = some (.int k n) := by exact rfl) (hN : Nat.ble (d + 1) N.n = true := by exact rfl) : sx P N w0 Wr ops (⟨some d, .binOp .lss t x y t', ty, pos, after, none⟩ :: rest) fr H Z := zA1 hx hy hN h
theorem jN4 {t t' : TypeId} {x y : Operand} {k : IntKind} {m n : Int} (hx : ev fr x = some (.int k m)) (hy : ev fr y = some (.int k n)) (hN : Nat.ble (d + 1) N.n = true)
  (h : sx P N w0 Wr ops rest ((d, .bool (decide (m ≤ n))) :: fr) H Z) : sx P N w0 Wr ops (⟨some d, .binOp .leq t x y t', ty, pos, after, none⟩ :: rest) fr H Z :=
 jO9 _ hx hy (fun w => by simp [binOp, Op.intCmp]) hN h
theorem zA2 {t t' : TypeId} {x y : Operand} {k : IntKind} {m n : Int} (hx : ev fr x = some (.int k m)) (hy : ev fr y = some (.int k n)) (hN : Nat.ble (d + 1) N.n = true)
  (h : sx P N w0 Wr ops rest ((d, .bool (decide (n < m))) :: fr) H Z) : sx P N w0 Wr ops (⟨some d, .binOp .gtr t x y t', ty, pos, after, none⟩ :: rest) fr H Z :=
 jO9 _ hx hy (fun w => by simp [binOp, Op.intCmp]) hN h
theorem jC4 {t t' : TypeId} {x y : Operand} {k : IntKind} {m n : Int} (h : sx P N w0 Wr ops rest ((d, .bool (decide (n < m))) :: fr) H Z) (hx : ev fr x = some (.int k m) := by exact rfl) (hy : ev fr y = some (.int k n) := by exact rfl) (hN : Nat.ble (d + 1) N.n = true := by exact rfl) : sx P N w0 Wr ops (⟨some d, .binOp .gtr t x y t', ty, pos, after, none⟩ :: rest) fr H Z := zA2 hx hy hN h
theorem jO3 {t t' : TypeId} {x y : Operand} {k : IntKind} {m n : Int} (hx : ev fr x = some (.int k m)) (hy : ev fr y = some (.int k n)) (hN : Nat.ble (d + 1) N.n = true)
  (h : sx P N w0 Wr ops rest ((d, .bool (decide (n ≤ m))) :: fr) H Z) : sx P N w0 Wr ops (⟨some d, .binOp .geq t x y t', ty, pos, after, none⟩ :: rest) fr H Z :=
 jO9 _ hx hy (fun w => by simp [binOp, Op.intCmp]) hN h
theorem zA3 {t t' : TypeId} {x y : Operand} {k : IntKind} {m n : Int} (hx : ev fr x = some (.int k m)) (hy : ev fr y = some (.int k n)) (hN : Nat.ble (d + 1) N.n = true)
  (h : sx P N w0 Wr ops rest ((d, .bool (m == n)) :: fr) H Z) : sx P N w0 Wr ops (⟨some d, .binOp .eql t x y t', ty, pos, after, none⟩ :: rest) fr H Z :=
 jO9 _ hx hy (fun w => by simp [binOp, Op.intCmp]) hN h
theorem jB0 {t t' : TypeId} {x y : Operand} {k : IntKind} {m n : Int} (h : sx P N w0 Wr ops rest ((d, .bool (m == n)) :: fr) H Z) (hx : ev fr x = some (.int k m) := by exact rfl) (hy : ev fr y = some (.int k n) := by exact rfl) (hN : Nat.ble (d + 1) N.n = true := by exact rfl) : sx P N w0 Wr ops (⟨some d, .binOp .eql t x y t', ty, pos, after, none⟩ :: rest) fr H Z := zA3 hx hy hN h
theorem yZ9 {t t' : TypeId} {x y : Operand} {k : IntKind} {m n : Int} (hx : ev fr x = some (.int k m)) (hy : ev fr y = some (.int k n)) (hN : Nat.ble (d + 1) N.n = true)
  (h : sx P N w0 Wr ops rest ((d, .bool (m != n)) :: fr) H Z) : sx P N w0 Wr ops (⟨some d, .binOp .neq t x y t', ty, pos, after, none⟩ :: rest) fr H Z :=
 jO9 _ hx hy (fun w => by simp [binOp, Op.intCmp]) hN h
theorem jC7 {t t' : TypeId} {x y : Operand} {k : IntKind} {m n : Int} (h : sx P N w0 Wr ops rest ((d, .bool (m != n)) :: fr) H Z) (hx : ev fr x = some (.int k m) := by exact rfl) (hy : ev fr y = some (.int k n) := by exact rfl) (hN : Nat.ble (d + 1) N.n = true := by exact rfl) : sx P N w0 Wr ops (⟨some d, .binOp .neq t x y t', ty, pos, after, none⟩ :: rest) fr H Z := yZ9 hx hy hN h
def kE4 (op : BinOp) (k : IntKind) (m n : Int) : Int :=
 let a := BitVec.ofInt k.bits m
 let b := BitVec.ofInt k.bits n
 match op with
 | .and => k.wrap (a &&& b).toNat
 | .or => k.wrap (a ||| b).toNat
 | .xor => k.wrap (a ^^^ b).toNat
 | _ => k.wrap (a &&& ~~~b).toNat
theorem jJ1 {op : BinOp} (hop : op = .and ∨ op = .or ∨ op = .xor ∨ op = .andNot) {t t' : TypeId} {x y : Operand} {k : IntKind} {m n : Int} (hx : ev fr x = some (.int k m)) (hy : ev fr y = some (.int k n)) (r : Int) (hr : kE4 op k m n = r) (hN : Nat.ble (d + 1) N.n = true)
  (h : sx P N w0 Wr ops rest ((d, .int k r) :: fr) H Z) : sx P N w0 Wr ops (⟨some d, .binOp op t x y t', ty, pos, after, none⟩ :: rest) fr H Z :=
 jO9 _ hx hy (fun w => by subst hr; rcases hop with rfl | rfl | rfl | rfl <;> simp [binOp, Op.intBits, kE4]) hN h
theorem vP3 {t t' : TypeId} {x y : Operand} {k k' : IntKind} {m n : Int} (hx : ev fr x = some (.int k m)) (hy : ev fr y = some (.int k' n)) (hn : 0 ≤ n) (r : Int) (hr : k.wrap (m * 2 ^ (min n.toNat k.bits)) = r) (hN : Nat.ble (d + 1) N.n = true)
  (h : sx P N w0 Wr ops rest ((d, .int k r) :: fr) H Z) : sx P N w0 Wr ops (⟨some d, .binOp .shl t x y t', ty, pos, after, none⟩ :: rest) fr H Z :=
 jE9 (.int k r) hN (fun a w ha _ => by
  subst hr
  have : ¬ n < 0 := by omega
  simp [execOp, ha.eval hx, ha.eval hy, eqGuard, binOp, Op.shift, this]) h
theorem kH5 {t t' : TypeId} {x y : Operand} {k k' : IntKind} {m n : Int} (hx : ev fr x = some (.int k m)) (hy : ev fr y = some (.int k' n)) (hn : 0 ≤ n) (r : Int) (hr : m.fdiv (2 ^ (min n.toNat k.bits)) = r) (hN : Nat.ble (d + 1) N.n = true)
  (h : sx P N w0 Wr ops rest ((d, .int k r) :: fr) H Z) : sx P N w0 Wr ops (⟨some d, .binOp .shr t x y t', ty, pos, after, none⟩ :: rest) fr H Z :=
 jE9 (.int k r) hN (fun a w ha _ => by
  subst hr
  have : ¬ n < 0 := by omega
  simp [execOp, ha.eval hx, ha.eval hy, eqGuard, binOp, Op.shift, this]) h
theorem vJ0 {op : BinOp} {t t' : TypeId} {x y : Operand} {l m : List UInt8} (v : Value) (hx : ev fr x = some (.string (str l))) (hy : ev fr y = some (.string (str m))) (hv : ∀ w, (binOp op t (.string (str l)) (.string (str m))).run P w = .ok v w) (hN : Nat.ble (d + 1) N.n = true)
  (h : sx P N w0 Wr ops rest ((d, v) :: fr) H Z) : sx P N w0 Wr ops (⟨some d, .binOp op t x y t', ty, pos, after, none⟩ :: rest) fr H Z :=
 jE9 v hN (fun a w ha _ => by
  have hg : (eqGuard op t x y (.string (str l)) (.string (str m))).run P w = .ok () w := by
   unfold eqGuard
   split <;> rfl
  simp only [execOp, ha.eval hx, ha.eval hy, lI, hg, lQ, hv w]
  rfl) h
theorem vJ4 (l : List UInt8) : (str l).toList = l := by rw [ByteArray.toList_eq]; rfl
theorem yN1 (a b : List UInt8) : str a ++ str b = str (a ++ b) := by
 have h : (str a ++ str b).data.toList = a ++ b := by
  rw [ByteArray.data_append]
  simp [str]
 obtain ⟨l, e⟩ := vC7 (str a ++ str b)
 rw [e, jX3] at h
 rw [e, h]
theorem vJ5 (l : List UInt8) (i j : Nat) : (str l).extract i j = str ((l.drop i).take (j - i)) := by
 have h : ((str l).extract i j).data.toList = (l.drop i).take (j - i) := by
  rw [ByteArray.data_extract]
  simp [str]
 obtain ⟨m, e⟩ := vC7 ((str l).extract i j)
 rw [e, jX3] at h
 rw [e, h]
theorem zA4 {t t' : TypeId} {x y : Operand} {l m : List UInt8} (hx : ev fr x = some (.string (str l))) (hy : ev fr y = some (.string (str m))) (hl : l.length + m.length ≤ 9223372036854775807) (hN : Nat.ble (d + 1) N.n = true)
  (h : sx P N w0 Wr ops rest ((d, .string (str (l ++ m))) :: fr) H Z) : sx P N w0 Wr ops (⟨some d, .binOp .add t x y t', ty, pos, after, none⟩ :: rest) fr H Z :=
 vJ0 _ hx hy (fun w => by
  have : ¬ (((str l).size + (str m).size : Nat) : Int) > IntKind.i64.max := by
   rw [str_size, str_size]; show ¬ (_ : Int) > 9223372036854775807; omega
  simp only [binOp, Op.stringOp, this, if_false, yN1]
  rfl) hN h
theorem jU4 {t t' : TypeId} {x y : Operand} {l m : List UInt8} (hx : ev fr x = some (.string (str l))) (hy : ev fr y = some (.string (str m))) (hN : Nat.ble (d + 1) N.n = true)
  (h : sx P N w0 Wr ops rest ((d, .bool (l == m)) :: fr) H Z) : sx P N w0 Wr ops (⟨some d, .binOp .eql t x y t', ty, pos, after, none⟩ :: rest) fr H Z :=
 vJ0 _ hx hy (fun w => by simp [binOp, Op.stringOp, vJ4]) hN h
theorem wB9 {t t' : TypeId} {x y : Operand} {l m : List UInt8} (hx : ev fr x = some (.string (str l))) (hy : ev fr y = some (.string (str m))) (hN : Nat.ble (d + 1) N.n = true)
  (h : sx P N w0 Wr ops rest ((d, .bool (l != m)) :: fr) H Z) : sx P N w0 Wr ops (⟨some d, .binOp .neq t x y t', ty, pos, after, none⟩ :: rest) fr H Z :=
 vJ0 _ hx hy (fun w => by simp [binOp, Op.stringOp, vJ4, bne]) hN h
theorem jI8 {t : TypeId} {x : Operand} {b : Bool} (hx : ev fr x = some (.bool b)) (hN : Nat.ble (d + 1) N.n = true)
  (h : sx P N w0 Wr ops rest ((d, .bool (!b)) :: fr) H Z) : sx P N w0 Wr ops (⟨some d, .unOp .not t x, ty, pos, after, none⟩ :: rest) fr H Z :=
 jE9 _ hN (fun a w ha _ => by simp only [execOp, ha.eval hx]; rfl) h
theorem zA0 {t : TypeId} {x : Operand} {k : IntKind} {m : Int} (hx : ev fr x = some (.int k m)) (r : Int) (hr : k.wrap (0 - m) = r) (hN : Nat.ble (d + 1) N.n = true)
  (h : sx P N w0 Wr ops rest ((d, .int k r) :: fr) H Z) : sx P N w0 Wr ops (⟨some d, .unOp .neg t x, ty, pos, after, none⟩ :: rest) fr H Z :=
 jE9 _ hN (fun a w ha _ => by subst hr; simp only [execOp, ha.eval hx]; rfl) h
theorem jB7 {s t : TypeId} {x : Operand} {k k' : IntKind} {ds : TypeDesc} {m : Int} (hs : P.underlying s = some ds) (ht : P.underlying t = some (.int k')) (hx : ev fr x = some (.int k m)) (r : Int) (hr : k'.wrap m = r) (hN : Nat.ble (d + 1) N.n = true)
  (h : sx P N w0 Wr ops rest ((d, .int k' r) :: fr) H Z) : sx P N w0 Wr ops (⟨some d, .convert s t x, ty, pos, after, none⟩ :: rest) fr H Z :=
 jE9 (.int k' r) hN (fun a w ha _ => by
  subst hr
  simp only [execOp, ha.eval hx, convert, lI, run_underlying hs, run_underlying ht, lQ]
  cases ds <;> rfl) h
theorem sX {x : Operand} {i : Nat} {vs : List Value} {v : Value} (hx : ev fr x = some (.tuple vs.toArray)) (hv : vs[i]? = some v) (hN : Nat.ble (d + 1) N.n = true)
  (h : sx P N w0 Wr ops rest ((d, v) :: fr) H Z) : sx P N w0 Wr ops (⟨some d, .extract x i, ty, pos, after, none⟩ :: rest) fr H Z :=
 jE9 v hN (fun a w ha _ => by
  have : vs.toArray[i]? = some v := by simpa using hv
  simp only [execOp, ha.eval hx, Instr.extract, this]; rfl) h
theorem jE2 {x : Operand} {t e : TypeId} {A : Option Addr} {n c : Nat} (ht : P.underlying t = some (.slice e)) (hx : ev fr x = some (.slice A n c)) (hN : Nat.ble (d + 1) N.n = true)
  (h : sx P N w0 Wr ops rest ((d, .int .i64 n) :: fr) H Z) : sx P N w0 Wr ops (⟨some d, .call { callee := .builtin .len, args := #[x], argTypes := #[t] }, ty, pos, after, none⟩ :: rest) fr H Z :=
 jE9 _ hN (fun a w ha _ => by
  have := ha.eval hx
  simp [execOp, resolve, invoke, builtin, this, lI, Builtin.len_, run_underlying ht, goInt]) h
theorem jD6 {x : Operand} {t : TypeId} {l : List UInt8} (ht : P.underlying t = some .string) (hx : ev fr x = some (.string (str l))) (hN : Nat.ble (d + 1) N.n = true)
  (h : sx P N w0 Wr ops rest ((d, .int .i64 (l.length : Int)) :: fr) H Z) : sx P N w0 Wr ops (⟨some d, .call { callee := .builtin .len, args := #[x], argTypes := #[t] }, ty, pos, after, none⟩ :: rest) fr H Z :=
 jE9 _ hN (fun a w ha _ => by
  have := ha.eval hx
  simp [execOp, resolve, invoke, builtin, this, lI, Builtin.len_, run_underlying ht, goInt, str_size]) h
end
end
section
open Go.RowKit
def bnd (fr : Fr) (dflt : Int) : Option Operand → Option Int
 | none => some dflt
 | some x => match ev fr x with
  | some (.int _ i) => some i
  | _ => none
def tyPlaces (P : Program) (t : TypeId) : Option (List (Nat × Nat)) :=
 match P.underlying t with
 | some (.struct fs) => fs.toList.mapM fun f => (tySize P f.type).map fun n => (f.offset, n)
 | _ => none
def jO0 (fr : Fr) : List (Nat × Operand) → Option (List (Nat × Value))
 | [] => some []
 | (i, x) :: r => (ev fr x).bind fun v => (jO0 fr r).bind fun vs => some ((i, v) :: vs)
def jR3 (l : List (Nat × Value)) : List (Nat × List Value) := l.map fun p => (p.1, p.2.cells.toList)
def zrep (m : Nat) (z : List Value) : List Value := (List.range m).map fun i => z.toArray[i % z.length]!
theorem FrOk.parts {N : Frm} {fr : Fr} {a : Act} (h : FrOk N fr a) : ∀ {xs : List (Nat × Operand)} {vs : List (Nat × Value)}, jO0 fr xs = some vs → xs.map (fun p => (p.1, a.eval p.2)) = vs
 | [], vs, hx => by obtain rfl := lV hx; rfl
 | (i, x) :: r, vs, hx => by
  simp only [jO0] at hx
  cases h1 : ev fr x with
  | none => simp [h1] at hx
  | some v =>
   cases h2 : jO0 fr r with
   | none => simp [h1, h2] at hx
   | some us =>
    simp only [h1, h2, zI, x5] at hx
    subst hx
    simp [h.eval h1, h.parts h2]
theorem vF4 : ∀ (v : List Value) (cells : Array Value) (off i : Nat), off + i + v.length ≤ cells.size →
  (((v.zipIdx i).foldl (fun cs (p : Value × Nat) => cs.setIfInBounds (off + p.2) p.1) cells).toList = wrV cells.toList (off + i) v)
 | [], cells, off, i, _ => by simp [wrV]
 | x :: v, cells, off, i, h => by
  simp only [lE] at h
  simp only [List.zipIdx_cons, zA]
  rw [vF4 v (cells.setIfInBounds (off + i) x) off (i + 1) (by simp; omega)]
  simp only [wrV, Array.toList_setIfInBounds, lE]
  have hl : off + i < cells.toList.length := by simp; omega
  rw [← qI, qB (by simpa using hl), List.take_set_of_le (xB _), List.drop_set_of_lt (by omega)]
  simp [qI, Nat.add_comm 1]
theorem jW1 (place : Nat → Option (Nat × Nat)) : ∀ (ps : List (Nat × Value)) (cells : Array Value) (r : List Value), kA5 place cells.toList (jR3 ps) = some r → Instr.fill place cells ps = some r.toArray
 | [], cells, r, h => by
  simp only [jR3, qJ, kA5, x5] at h
  subst h
  simp [Instr.fill]
 | (i, v) :: ps, cells, r, h => by
  simp only [jR3, xN, kA5] at h
  unfold Instr.fill
  cases hp : place i with
  | none => simp [hp] at h
  | some q =>
   obtain ⟨off, size⟩ := q
   simp only [hp] at h ⊢
   cases hb : Nat.beq v.cells.toList.length size && Nat.ble (off + v.cells.toList.length) cells.toList.length with
   | false => rw [hb] at h; cases h
   | true =>
    rw [hb] at h
    simp only [cond_true] at h
    simp only [xW] at hb
    have h1 : v.cells.size = size := by simpa using x7 hb.1
    have h2 : off + v.cells.size ≤ cells.size := by simpa using zQ hb.2
    have h3 : ¬ ((decide (v.cells.size ≠ size) || decide (off + v.cells.size > cells.size)) = true) := by
     simp only [zR, decide_eq_true_eq]; omega
    rw [if_neg h3]
    refine jW1 place ps _ r ?_
    have e := vF4 v.cells.toList cells off 0 (by simpa using h2)
    have e2 : (v.cells.zipIdx.foldl (fun cs (p : Value × Nat) => cs.setIfInBounds (off + p.2) p.1) cells).toList = wrV cells.toList off v.cells.toList := by
     rw [← Array.foldl_toList]
     simpa using e
    have e3 : (Array.foldl (fun cs x => match x with | (c, j) => cs.setIfInBounds (off + j) c) cells v.cells.zipIdx).toList = wrV cells.toList off v.cells.toList := e2
    rw [e3]
    exact h
section
variable {P : Program} {N : Frm} {w0 : World} {Wr : List Nat} {ops : Array Oper} {rest : List Oper} {fr : Fr} {H : Heap} {Z : Fr → Heap → Prop}
variable {d ty : Nat} {pos : String} {after : Array Edge}
theorem kW9 {t : TypeId} {b : Bool} {n off : Nat} {cs : List Value} {v : Value} {w : World} (ha : tyAgg P t = some b) (hs : tySize P t = some n) (hv : rdV b n cs off = some v) : (part t cs.toArray off).run P w = .ok v w := by
 unfold part
 simp only [lI, jQ3 ha, lQ]
 cases b with
 | false =>
  have : cs.toArray[off]? = some v := by simpa [rdV] using hv
  simp [this]
 | true =>
  simp only [rdV, cond_true] at hv
  cases hb : Nat.ble (off + n) cs.length with
  | false => rw [hb] at hv; cases hv
  | true =>
   rw [hb] at hv
   obtain rfl := lV hv
   simp only [if_true, lI, jC0 hs, lQ]
   simp [List.extract]
theorem kU3 {s i off n : Nat} {b : Bool} (hf : tyF P s i = some (off, n, b)) : ∃ fs f, P.underlying s = some (.struct fs) ∧ fs[i]? = some f ∧ f.offset = off ∧ tySize P f.type = some n ∧ tyAgg P f.type = some b := by
 unfold tyF at hf
 cases hu : P.underlying s with
 | none => simp [hu] at hf
 | some dd =>
  cases dd <;> simp only [hu] at hf <;> try cases hf
  rename_i fs
  cases hi : fs[i]? with
  | none => simp [hi] at hf
  | some f =>
   simp only [hi, zI] at hf
   cases hs : tySize P f.type with
   | none => simp [hs] at hf
   | some m =>
    cases hb : tyAgg P f.type with
    | none => simp [hs, hb] at hf
    | some bb =>
     simp only [hs, hb, zI] at hf
     split at hf
     ·cases hf
     ·simp only [x5, Prod.mk.injEq] at hf
      obtain ⟨rfl, rfl, rfl⟩ := hf
      exact ⟨fs, f, rfl, hi, rfl, hs, hb⟩
theorem jQ0 {t e len n : Nat} {b : Bool} {x y : Operand} {cs : List Value} {k : IntKind} {i : Int} {v : Value} (ht : P.underlying t = some (.array len e)) (ha' : tyAgg P e = some b) (hs : tySize P e = some n) (hx : ev fr x = some (.agg cs.toArray)) (hy : ev fr y = some (.int k i)) (hi : 0 ≤ i ∧ i < len) (hv : rdV b n cs (i.toNat * n) = some v) (hN : Nat.ble (d + 1) N.n = true)
  (h : sx P N w0 Wr ops rest ((d, v) :: fr) H Z) : sx P N w0 Wr ops (⟨some d, .index t x y, ty, pos, after, none⟩ :: rest) fr H Z :=
 jE9 v hN (fun a w ha _ => by
  simp only [execOp, Instr.index, ha.eval hx, ha.eval hy, asIntOf, lI, l9, run_underlying ht, lQ, if_pos hi, jC0 hs, kW9 ha' hs hv]) h
theorem jK4 {t : Nat} {x y : Operand} {l : List UInt8} {k : IntKind} {i : Int} {c : UInt8} (ht : P.underlying t = some .string) (hx : ev fr x = some (.string (str l))) (hy : ev fr y = some (.int k i)) (hi : 0 ≤ i) (hv : l[i.toNat]? = some c) (hN : Nat.ble (d + 1) N.n = true)
  (h : sx P N w0 Wr ops rest ((d, .int .u8 (c.toNat : Int)) :: fr) H Z) : sx P N w0 Wr ops (⟨some d, .index t x y, ty, pos, after, none⟩ :: rest) fr H Z :=
 jE9 _ hN (fun a w ha _ => by
  have : (str l)[i.toNat]? = some c := by
   have hl := (List.getElem?_eq_some_iff.1 hv)
   obtain ⟨h1, h2⟩ := hl
   have h3 : i.toNat < (str l).size := by rw [str_size]; exact h1
   rw [getElem?_pos (str l) i.toNat h3]
   congr 1
  simp only [execOp, Instr.index, ha.eval hx, ha.eval hy, asIntOf, lI, l9, run_underlying ht, lQ, if_pos hi, this]) h
theorem jI3 (g o n : Nat) : Addr.add ⟨g, o, none⟩ n = ⟨g, o + n, none⟩ := by unfold Addr.add; split <;> simp_all
theorem jB3 {t e n g o len c : Nat} {x y : Operand} {k : IntKind} {i : Int} (o' : Nat) (ht : P.underlying t = some (.slice e)) (hs : tySize P e = some n) (hx : ev fr x = some (.slice (some ⟨g, o, none⟩) len c)) (hy : ev fr y = some (.int k i)) (hi : 0 ≤ i ∧ i < len) (ho : o + i.toNat * n = o') (hN : Nat.ble (d + 1) N.n = true)
  (h : sx P N w0 Wr ops rest ((d, ptr g o') :: fr) H Z) : sx P N w0 Wr ops (⟨some d, .indexAddr t x y, ty, pos, after, none⟩ :: rest) fr H Z :=
 jE9 _ hN (fun a w ha _ => by
  subst ho
  simp only [execOp, Instr.indexAt, ha.eval hx, ha.eval hy, asIntOf, lI, l9, run_underlying ht, lQ, if_pos hi, jC0 hs, jI3]
  rfl) h
theorem jP3 {t e n g o len : Nat} {x y : Operand} {k : IntKind} {i : Int} (o' : Nat) (ht : P.underlying t = some (.array len e)) (hs : tySize P e = some n) (hx : ev fr x = some (ptr g o)) (hy : ev fr y = some (.int k i)) (hi : 0 ≤ i ∧ i < len) (ho : o + i.toNat * n = o') (hN : Nat.ble (d + 1) N.n = true)
  (h : sx P N w0 Wr ops rest ((d, ptr g o') :: fr) H Z) : sx P N w0 Wr ops (⟨some d, .indexAddr t x y, ty, pos, after, none⟩ :: rest) fr H Z :=
 jE9 _ hN (fun a w ha _ => by
  subst ho
  simp only [execOp, Instr.indexAt, ha.eval hx, ha.eval hy, asIntOf, lI, l9, run_underlying ht, lQ, ptr, Instr.sureAddr, if_pos hi, jC0 hs, jI3]) h
theorem jI1 {k : IntKind} {i : Int} {y : Nat} {code : BoundsCode} {w : World} (hi : 0 ≤ i ∧ i ≤ y) : (Instr.sliceBound (.int k i) y code).run P w = .ok i.toNat w := by
 simp only [Instr.sliceBound, asIntOf, lI, l9, lQ, if_pos hi]
theorem vA3 {dflt i : Int} {x : Operand} (h : bnd fr dflt (some x) = some i) : ∃ k, ev fr x = some (.int k i) := by
 simp only [bnd] at h
 split at h
 ·rename_i k j he
  obtain rfl := lV h
  exact ⟨k, he⟩
 ·cases h
theorem jI5 {isS : Bool} {len cap : Nat} {lo hi : Option Operand} {l h : Int} {a : Act} {w : World} (ha : FrOk N fr a) (hl : bnd fr 0 lo = some l) (hh : bnd fr len hi = some h) (h0 : 0 ≤ l) (h1 : l ≤ h) (h2 : h ≤ cap) :
  (Instr.sliceBounds isS len cap (lo.map a.eval) (hi.map a.eval) none).run P w = .ok (l.toNat, h.toNat, cap) w := by
 have hh' : (0:Int) ≤ h ∧ h ≤ cap := ⟨by omega, h2⟩
 have hl' : (0:Int) ≤ l ∧ l ≤ h.toNat := ⟨h0, by omega⟩
 cases hi with
 | none =>
  obtain rfl := lV hh
  cases lo with
  | none =>
   obtain rfl := lV hl
   simp [Instr.sliceBounds]
  | some x =>
   obtain ⟨k, hx⟩ := vA3 hl
   have := jI1 (P := P) (k := k) (i := l) (y := len) (code := .sliceB) (w := w) ⟨h0, h1⟩
   simp [Instr.sliceBounds, ha.eval hx, this]
 | some y =>
  obtain ⟨k', hy⟩ := vA3 hh
  have hs : ∀ code, (Instr.sliceBound (.int k' h) cap code).run P w = .ok h.toNat w := fun code => jI1 hh'
  cases lo with
  | none =>
   obtain rfl := lV hl
   simp [Instr.sliceBounds, ha.eval hy, hs]
  | some x =>
   obtain ⟨k, hx⟩ := vA3 hl
   have := jI1 (P := P) (k := k) (i := l) (y := h.toNat) (code := .sliceB) (w := w) hl'
   simp [Instr.sliceBounds, lI, ha.eval hx, ha.eval hy, hs, this]
theorem jL9 {t : TypeId} {x : Operand} {lo hi : Option Operand} {l : List UInt8} {i j : Int} (m : List UInt8) (ht : P.underlying t = some .string) (hx : ev fr x = some (.string (str l))) (hl : bnd fr 0 lo = some i) (hh : bnd fr (l.length : Int) hi = some j) (h0 : 0 ≤ i) (h1 : i ≤ j) (h2 : j ≤ l.length) (hm : (l.drop i.toNat).take (j.toNat - i.toNat) = m) (hN : Nat.ble (d + 1) N.n = true)
  (h : sx P N w0 Wr ops rest ((d, .string (str m)) :: fr) H Z) : sx P N w0 Wr ops (⟨some d, .slice t x lo hi none, ty, pos, after, none⟩ :: rest) fr H Z :=
 jE9 _ hN (fun a w ha _ => by
  subst hm
  have hb := jI5 (P := P) (isS := false) (len := (str l).size) (cap := (str l).size) (w := w) ha hl (by rw [str_size]; exact hh) h0 h1 (by rw [str_size]; exact h2)
  simp only [execOp, Instr.sliceAt, Instr.slice, ha.eval hx, lI, run_underlying ht, lQ, uC, Option.isSome_none, Bool.false_eq_true, if_false, hb, l9, vJ5]) h
theorem wU7 {t e n g o len c : Nat} {x : Operand} {lo hi : Option Operand} {i j : Int} (ht : P.underlying t = some (.slice e)) (hs : tySize P e = some n) (hx : ev fr x = some (.slice (some ⟨g, o, none⟩) len c)) (hl : bnd fr 0 lo = some i) (hh : bnd fr (len : Int) hi = some j) (h0 : 0 ≤ i) (h1 : i ≤ j) (h2 : j ≤ c) (hN : Nat.ble (d + 1) N.n = true)
  (h : ∀ o', (i < j → o' = o + i.toNat * n) → sx P N w0 Wr ops rest ((d, .slice (some ⟨g, o', none⟩) (j.toNat - i.toNat) (c - i.toNat)) :: fr) H Z) : sx P N w0 Wr ops (⟨some d, .slice t x lo hi none, ty, pos, after, none⟩ :: rest) fr H Z :=
 jE9 (.slice (some ⟨g, (if c = i.toNat then o else o + i.toNat * n), none⟩) (j.toNat - i.toNat) (c - i.toNat)) hN (fun a w ha _ => by
  have hb := jI5 (P := P) (isS := true) (len := len) (cap := c) (w := w) ha hl hh h0 h1 h2
  simp only [execOp, Instr.sliceAt, Instr.slice, ha.eval hx, lI, run_underlying ht, lQ, uC, hb, l9, jC0 hs, qA, jI3]
  by_cases hc : c = i.toNat <;> simp [hc]) (h _ (fun hlt => by rw [if_neg (by omega)]))
theorem kC7 : ∀ (fs : List Field) (ps : List (Nat × Nat)) (w : World), (fs.mapM fun f => (tySize P f.type).map fun n => (f.offset, n)) = some ps →
  (fs.mapM (m := Sem) fun f => do pure (f.offset, ← sizeOf f.type)).run P w = .ok ps w
 | [], ps, w, h => by
  simp only [List.mapM_nil, Option.pure_def, x5] at h
  subst h
  simp
 | f :: fs, ps, w, h => by
  simp only [List.mapM_cons] at h
  cases h1 : tySize P f.type with
  | none => simp [h1] at h
  | some n =>
   cases h2 : fs.mapM fun f => (tySize P f.type).map fun n => (f.offset, n) with
   | none => simp [h1, h2] at h
   | some qs =>
    simp only [h1, h2, qA] at h
    obtain rfl : (f.offset, n) :: qs = ps := lV h
    simp only [List.mapM_cons, lI, jC0 h1, lQ, l9, kC7 fs qs w h2]
theorem kW0 {t : TypeId} {parts : List (Nat × Operand)} {pv : List (Nat × Value)} {z cs cs' : List Value} {pl : List (Nat × Nat)} (hz : tyZero P t = some z) (hp : tyPlaces P t = some pl) (hx : jO0 fr parts = some pv) (hf : kA5 (pl[·]?) z (jR3 pv) = some cs) (hn : cs = cs') (hN : Nat.ble (d + 1) N.n = true)
  (h : sx P N w0 Wr ops rest ((d, .agg cs'.toArray) :: fr) H Z) : sx P N w0 Wr ops (⟨some d, .build t parts.toArray, ty, pos, after, none⟩ :: rest) fr H Z :=
 jE9 _ hN (fun a w ha _ => by
  subst hn
  obtain ⟨v, h1, h2⟩ := jR0 (w := w) hz
  unfold tyPlaces at hp
  cases hu : P.underlying t with
  | none => simp [hu] at hp
  | some dd =>
   cases dd <;> simp only [hu] at hp <;> try cases hp
   rename_i fs
   have hpl := kC7 (P := P) fs.toList pl w hp
   have hpl' : (fs.mapM (m := Sem) fun f => do pure (f.offset, ← sizeOf f.type)).run P w = .ok pl.toArray w := by
    rw [← Array.toArray_toList (xs := fs), List.mapM_toArray]
    rw [Sem.run_map, hpl]
    rfl
   have hfl : Instr.fill (fun i => pl.toArray[i]?) v.cells pv = some cs.toArray := jW1 _ pv v.cells cs (by rw [h2]; simpa using hf)
   have hpv := ha.parts hx
   have hpv' : (parts.toArray.map fun (p : Nat × Operand) => (p.1, a.eval p.2)).toList = pv := by simpa using hpv
   simp only [execOp, Instr.build, lI, h1, lQ, run_underlying hu, hpl', hpv', hfl]
   rfl) h
theorem jD4 {t : TypeId} {parts : List (Nat × Operand)} {pv : List (Nat × Value)} {z cs cs' : List Value} {pl : List (Nat × Nat)} (hz : tyZero P t = some z) (hp : tyPlaces P t = some pl) (h : sx P N w0 Wr ops rest ((d, .agg cs'.toArray) :: fr) H Z) (hx : jO0 fr parts = some pv := by exact rfl) (hf : kA5 (pl[·]?) z (jR3 pv) = some cs := by exact rfl) (hn : cs = cs' := by first | (simp only [qS, Value.cells, wrV, Nat.reduceAdd]; first | done | rfl) | rfl) (hN : Nat.ble (d + 1) N.n = true := by exact rfl) : sx P N w0 Wr ops (⟨some d, .build t parts.toArray, ty, pos, after, none⟩ :: rest) fr H Z := kW0 hz hp hx hf hn hN h
theorem jU8 {t e len n : TypeId} {parts : List (Nat × Operand)} {pv : List (Nat × Value)} {z cs cs' : List Value} (hz : tyZero P t = some z) (ht : P.underlying t = some (.array len e)) (hs : tySize P e = some n) (hx : jO0 fr parts = some pv) (hf : kA5 (fun i => some (i * n, n)) z (jR3 pv) = some cs) (hn : cs = cs') (hN : Nat.ble (d + 1) N.n = true)
  (h : sx P N w0 Wr ops rest ((d, .agg cs'.toArray) :: fr) H Z) : sx P N w0 Wr ops (⟨some d, .build t parts.toArray, ty, pos, after, none⟩ :: rest) fr H Z :=
 jE9 _ hN (fun a w ha _ => by
  subst hn
  obtain ⟨v, h1, h2⟩ := jR0 (w := w) hz
  have hfl : Instr.fill (fun i => some (i * n, n)) v.cells pv = some cs.toArray := jW1 _ pv v.cells cs (by rw [h2]; simpa using hf)
  have hpv := ha.parts hx
  have hpv' : (parts.toArray.map fun (p : Nat × Operand) => (p.1, a.eval p.2)).toList = pv := by simpa using hpv
  simp only [execOp, Instr.build, lI, h1, lQ, run_underlying ht, jC0 hs, hpv', hfl]
  rfl) h
theorem sBS {t e len n : Nat} {parts : List (Nat × Operand)} {pv : List (Nat × Value)} {z cs cs' : List Value} (ht : P.underlying t = some (.slice e)) (hs : tySize P e = some n) (hz : tyZero P e = some z) (hx : jO0 fr parts = some pv) (hm : Nat.ble (len * n) 16777216 = true) (hm0 : Nat.beq (len * n) 0 = false) (hf : kA5 (fun i => some (i * n, n)) (zrep (len * n) z) (jR3 pv) = some cs) (hn : cs = cs') (hN : Nat.ble (d + 1) N.n = true)
  (h : ∀ g, sx P N w0 Wr ops rest ((d, .slice (some ⟨g, 0, none⟩) len len) :: fr) (.own g e cs' :: H) Z) : sx P N w0 Wr ops (⟨some d, .buildSlice t len parts.toArray, ty, pos, after, none⟩ :: rest) fr H Z := by
 subst hn
 refine jL0 (R := fun v H' => ∃ g, v = .slice (some ⟨g, 0, none⟩) len len ∧ H' = .own g e cs :: H) hN (fun a w ha hw => ?_) (fun v H' hR => by obtain ⟨g, rfl, rfl⟩ := hR; exact h g)
 obtain ⟨v, h1, h2⟩ := jR0 (w := w) hz
 refine ⟨_, w.alloc (.cells cs.toArray e), _, ?_, ⟨w.heap.size, rfl, rfl⟩, hw.alloc cs e⟩
 have hm' : ¬ len * n > 2 ^ 24 := by have := zQ hm; omega
 have hm1 : ¬ len * n = 0 := fun e => by rw [e] at hm0; cases hm0
 have e0 : ((Array.range (len * n)).map (v.cells[· % v.cells.size]!)).toList = zrep (len * n) z := by
  rw [h2]; simp [zrep, Array.toList_range]
 have hfl : Instr.fill (fun i => some (i * n, n)) ((Array.range (len * n)).map (v.cells[· % v.cells.size]!)) pv = some cs.toArray := jW1 _ pv _ cs (by rw [e0]; exact hf)
 have hpv := ha.parts hx
 have hpv' : (parts.toArray.map fun (p : Nat × Operand) => (p.1, a.eval p.2)).toList = pv := by simpa using hpv
 simp only [execOp, Instr.buildSlice, lI, run_underlying ht, lQ, jC0 hs, hm', hm1, if_false, h1, l9, hpv', hfl, newRow, newObj]
 rfl
theorem sBS0 {t e len n : Nat} {parts : List (Nat × Operand)} {pv : List (Nat × Value)} {z cs cs' : List Value} (ht : P.underlying t = some (.slice e)) (hs : tySize P e = some n) (hz : tyZero P e = some z) (h : ∀ g, sx P N w0 Wr ops rest ((d, .slice (some ⟨g, 0, none⟩) len len) :: fr) (.own g e cs' :: H) Z) (hx : jO0 fr parts = some pv := by exact rfl) (hm : Nat.ble (len * n) 16777216 = true := by exact rfl) (hm0 : Nat.beq (len * n) 0 = false := by exact rfl) (hf : kA5 (fun i => some (i * n, n)) (zrep (len * n) z) (jR3 pv) = some cs := by exact rfl) (hn : cs = cs' := by first | (simp only [qS, Value.cells, wrV, zrep_one, List.replicate_succ, List.replicate_zero, Nat.reduceMul, Nat.zero_mul, Nat.reduceAdd]; first | done | rfl) | rfl) (hN : Nat.ble (d + 1) N.n = true := by exact rfl) : sx P N w0 Wr ops (⟨some d, .buildSlice t len parts.toArray, ty, pos, after, none⟩ :: rest) fr H Z := sBS ht hs hz hx hm hm0 hf hn hN h
theorem sP {c x y : Operand} {b : Bool} {v : Value} (hc : ev fr c = some (.bool b)) (hx : ev fr (bif b then x else y) = some v) (hN : Nat.ble (d + 1) N.n = true)
  (h : sx P N w0 Wr ops rest ((d, v) :: fr) H Z) : sx P N w0 Wr ops (⟨some d, .pick c x y, ty, pos, after, none⟩ :: rest) fr H Z :=
 jE9 v hN (fun a w ha _ => by
  cases b <;> simp only [cond_true, cond_false] at hx <;> simp [execOp, ha.eval hc, ha.eval hx, asBool]) h
theorem sOn {dst : Option Nat} {op : Op} {j t : Nat} {b : Bool} {oj : Oper} (hj : ops[j]? = some oj) (ht : oj.dst = some t) (hb : lk fr t = some (.bool b))
  (h : sx P N w0 Wr ops (⟨dst, op, ty, pos, after, none⟩ :: rest) fr H Z) : sx P N w0 Wr ops (⟨dst, op, ty, pos, after, some (j, b)⟩ :: rest) fr H Z :=
 fun Q hQ a w ha hw => by
  have hk := h Q hQ a w ha hw
  have hy : yielded ops a.tmps j = some b := by
   have := ha.at_ t _ hb
   simp [yielded, hj, ht, this]
  unfold wpList at hk ⊢
  have h1 : Region.wanted (⟨dst, op, ty, pos, after, none⟩ : Oper) (yielded ops a.tmps) = true := rfl
  have h2 : Region.wanted (⟨dst, op, ty, pos, after, some (j, b)⟩ : Oper) (yielded ops a.tmps) = true := by simp [Region.wanted, hy]
  rw [if_pos h1] at hk
  rw [if_pos h2]
  exact hk
theorem sOn0 {dst : Option Nat} {op : Op} {j t : Nat} {b : Bool} {oj : Oper} (h : sx P N w0 Wr ops (⟨dst, op, ty, pos, after, none⟩ :: rest) fr H Z) (hj : ops[j]? = some oj := by exact rfl) (ht : oj.dst = some t := by exact rfl) (hb : lk fr t = some (.bool b) := by exact rfl) : sx P N w0 Wr ops (⟨dst, op, ty, pos, after, some (j, b)⟩ :: rest) fr H Z := sOn hj ht hb h
theorem sO {op : Op} {j t : Nat} {b b' : Bool} {oj : Oper} (hj : ops[j]? = some oj) (ht : oj.dst = some t) (hb : lk fr t = some (.bool b)) (hne : (b == b') = false) (hN : Nat.ble (d + 1) N.n = true)
  (h : sx P N w0 Wr ops rest ((d, undef) :: fr) H Z) : sx P N w0 Wr ops (⟨some d, op, ty, pos, after, some (j, b')⟩ :: rest) fr H Z :=
 fun Q hQ a w ha hw => by
  have hy : yielded ops a.tmps j = some b := by
   have := ha.at_ t _ hb
   simp [yielded, hj, ht, this]
  unfold wpList
  have h2 : Region.wanted (⟨some d, op, ty, pos, after, some (j, b')⟩ : Oper) (yielded ops a.tmps) = false := by simp [Region.wanted, hy]; simpa using hne
  rw [if_neg (by simp [h2])]
  exact h Q hQ _ w (ha.put hN undef) hw
theorem sO0 {op : Op} {j t : Nat} {b b' : Bool} {oj : Oper} (h : sx P N w0 Wr ops rest ((d, undef) :: fr) H Z) (hj : ops[j]? = some oj := by exact rfl) (ht : oj.dst = some t := by exact rfl) (hb : lk fr t = some (.bool b) := by exact rfl) (hne : (b == b') = false := by exact rfl) (hN : Nat.ble (d + 1) N.n = true := by exact rfl) : sx P N w0 Wr ops (⟨some d, op, ty, pos, after, some (j, b')⟩ :: rest) fr H Z := sO hj ht hb hne hN h
theorem jD0 {l : List Oper} (t : Nat) {b : Bool} (hb : lk fr t = some (.bool b)) (h1 : b = true → sx P N w0 Wr ops l ((t, .bool true) :: fr) H Z) (h2 : b = false → sx P N w0 Wr ops l ((t, .bool false) :: fr) H Z) : sx P N w0 Wr ops l fr H Z := by
 have key : ∀ c, b = c → sx P N w0 Wr ops l ((t, .bool c) :: fr) H Z → sx P N w0 Wr ops l fr H Z := fun c hc h Q hQ a w ha hw => by
  refine h Q hQ a w ⟨ha.size, ha.defers, fun k v hv => ?_⟩ hw
  simp only [lk] at hv
  cases hbq : Nat.beq t k with
  | true =>
   rw [hbq] at hv
   obtain rfl := x7 hbq
   simp only [cond_true] at hv
   rw [← hv, ← hc]
   exact ha.at_ t _ hb
  | false => rw [hbq] at hv; exact ha.at_ k v hv
 cases hbb : b with
 | true => exact key true hbb (h1 hbb)
 | false => exact key false hbb (h2 hbb)
end
section
variable {P : Program} {N : Frm} {w0 : World} {Wr : List Nat} {fr : Fr} {H : Heap} {Q : Exit → Act → World → Prop}
theorem jA3 {id : Nat} {l : List Oper} {y : Code} (F : Fr) (HH : Heap) (h : ∀ Z : Fr → Heap → Prop, (∀ fr H, Kn F fr → HLe HH H → Z fr H) → sx P N w0 Wr l.toArray l fr H Z) (hy : awp P N w0 Wr y F HH Q) : awp P N w0 Wr (.seq (.region id l.toArray false) y) fr H Q :=
 aR fun Z hZ => h Z fun fr H hk hh => hZ fr H fun a w ha hw => hy a w (ha.kn hk) (hh _ _ _ hw)
end
end
section
open Go.RowKit
def EqV (P : Program) (d : Nat) (t : TypeId) (x y : Value) (b : Bool) : Prop := ∀ w, (Op.equalIn d t x y).run P w = .ok b w
inductive EqF (P : Program) (d : Nat) (xs ys : List Value) : List Field → Bool → Prop
 | nil : EqF P d xs ys [] true
 | cons {f : Field} {r : List Field} {x y : Value} {b c : Bool} {n : Nat} {ag : Bool} (hn : (f.name == "_") = false) (ha : tyAgg P f.type = some ag) (hs : tySize P f.type = some n) (hx : rdV ag n xs f.offset = some x) (hy : rdV ag n ys f.offset = some y)
   (h : EqV P d f.type x y b) (k : EqF P d xs ys r c) : EqF P d xs ys (f :: r) (b && c)
theorem wM6 {P : Program} {d : Nat} {xs ys : List Value} {w : World} : ∀ {fs : List Field} {b : Bool}, EqF P d xs ys fs b →
  (forIn (m := Sem) fs ((none : Option Bool), ()) fun f __s =>
   if f.name ≠ "_" then do
    let l ← part f.type xs.toArray f.offset
    let l1 ← part f.type ys.toArray f.offset
    let l2 ← Op.equalIn d f.type l l1
    if (!l2) = true then pure (ForInStep.done (some false, ())) else pure (ForInStep.yield (none, ()))
   else pure (ForInStep.yield (none, ()))).run P w = .ok (if b then (none, ()) else (some false, ())) w
 | [], _, .nil => by simp
 | f :: r, _, .cons (b := b) (c := c) hn ha hs hx hy h k => by
  have hn' : f.name ≠ "_" := by simpa using hn
  rw [List.forIn_cons]
  simp only [hn', ne_eq, not_false_eq_true, if_true, lI, kW9 ha hs hx, kW9 ha hs hy, lQ, h w]
  cases b with
  | false => simp
  | true => simpa using wM6 k
theorem EqV.struct {P : Program} {d : Nat} {t : TypeId} {fs : List Field} {xs ys : List Value} {b : Bool} (ht : P.underlying t = some (.struct fs.toArray)) (hs : P.stoodInHeld t = false) (h : EqF P d xs ys fs b) : EqV P (d + 1) t (.agg xs.toArray) (.agg ys.toArray) b := fun w => by
 unfold Op.equalIn
 simp only [lI, run_underlying ht, lQ, program, Sem.run, hs, Bool.false_eq_true, if_false]
 rw [← Array.forIn_toList]
 have := wM6 (P := P) (w := w) h
 simp only []
 rw [this]
 cases b <;> simp
theorem EqV.int {P : Program} {d : Nat} {t : TypeId} {k k' : IntKind} {m n : Int} (ht : P.underlying t = some (.int k')) : EqV P (d + 1) t (.int k m) (.int k n) (m == n) := fun w => by
 unfold Op.equalIn
 simp [lI, run_underlying ht]
section
variable {P : Program} {N : Frm} {w0 : World} {Wr : List Nat} {ops : Array Oper} {rest : List Oper} {fr : Fr} {H : Heap} {Z : Fr → Heap → Prop}
variable {d ty : Nat} {pos : String} {after : Array Edge}
theorem yM7 {t t' : TypeId} {x y : Operand} {a b : Bool} (ht : P.underlying t = some .bool) (hx : ev fr x = some (.bool a)) (hy : ev fr y = some (.bool b)) (hN : Nat.ble (d + 1) N.n = true)
  (h : sx P N w0 Wr ops rest ((d, .bool (a == b)) :: fr) H Z) : sx P N w0 Wr ops (⟨some d, .binOp .eql t x y t', ty, pos, after, none⟩ :: rest) fr H Z :=
 jE9 _ hN (fun c w ha _ => by
  have hg : (eqGuard .eql t x y (.bool a) (.bool b)).run P w = .ok () w := by
   unfold eqGuard
   split <;> rfl
  have he : (Op.equal t (.bool a) (.bool b)).run P w = .ok (a == b) w := by
   unfold Op.equal Op.maxDepth Op.equalIn
   simp [lI, run_underlying ht]
  simp only [execOp, ha.eval hx, ha.eval hy, lI, hg, lQ, binOp, he, l9]) h
theorem jE5 {l : List Oper} (t : Nat) {b : Bool} (hb : lk fr t = some (.bool b)) (c : Bool) (e : b = c) (h : sx P N w0 Wr ops l ((t, .bool c) :: fr) H Z) : sx P N w0 Wr ops l fr H Z := by
 subst e
 cases b
 ·exact jD0 t hb (fun hh => by cases hh) (fun _ => h)
 ·exact jD0 t hb (fun _ => h) (fun hh => by cases hh)
end
theorem sAN {P : Program} {N : Frm} {w0 : World} {Wr : List Nat} {ops : Array Oper} {fr : Fr} {H : Heap} {d ty : Nat} {pos : String} {after : Array Edge} {x : Operand} {v : Value} {Z K : Fr → Heap → Prop} (hZ : ∀ fr H, K fr H → Z fr H) (hx : ev fr x = some v) (hN : Nat.ble (d + 1) N.n = true) (k : K ((d, v) :: fr) H) : sx P N w0 Wr ops [⟨some d, .assign x, ty, pos, after, none⟩] fr H Z := sA hx hN (sN (hZ _ _ k))
theorem sMN {P : Program} {N : Frm} {w0 : World} {Wr : List Nat} {ops : Array Oper} {fr : Fr} {H : Heap} {d ty : Nat} {pos : String} {after : Array Edge} {x : Operand} {v : Value} {Z K : Fr → Heap → Prop} (hZ : ∀ fr H, K fr H → Z fr H) (hx : ev fr x = some v) (hN : Nat.ble (d + 1) N.n = true) (k : K ((d, v) :: fr) H) : sx P N w0 Wr ops [⟨some d, .move x, ty, pos, after, none⟩] fr H Z := sM hx hN (sN (hZ _ _ k))
theorem aA {P : Program} {N : Frm} {w0 : World} {Wr : List Nat} {fr : Fr} {H : Heap} {d ty : Nat} {pos : String} {after : Array Edge} {x : Operand} {v : Value} {id : Nat} {y : Code} {Q : Exit → Act → World → Prop} (hx : ev fr x = some v) (hN : Nat.ble (d + 1) N.n = true) (k : awp P N w0 Wr y ((d, v) :: fr) H Q) : awp P N w0 Wr (.seq (.region id [(⟨some d, .assign x, ty, pos, after, none⟩ : Oper)].toArray false) y) fr H Q := aR fun _ hZ => sA hx hN (sN (hZ _ _ k))
end
end Go.Proofs.YtfeopecgedbfpaaGreatDoor
