/- Walks and plain laws for this claim (texts Base, Gsx1, joined). Each theorem states its own conditions. -/
import Derived.Shelf.Abstract
import Derived.WalkKit
import Derived.WalkSpells
import Derived.WalkLawsBesides
import Derived.BigQuiet
import Derived.Deep.QuietTactic
import Derived.Deep.RegionHeld3
import Derived.Lib.Hide
import Derived.RangeFuncRecord
import Derived.OrdersIn
import Derived.TacticsIn
import Derived.IntWalk
set_option linter.all false
namespace Go.Proofs.YteofkgedfjffcaaGreatDoor
section
open Go.RowKit
def jI8 : Go.Shelf.Ren := ⟨fun n => match n with | 0 => 0 | 1 => 1 | 2 => 2 | 99 => 184 | 103 => 140 | 118 => 201 | 119 => 280 | 120 => 247 | 125 => 86 | 128 => 154 | 129 => 155 | 137 => 212 | 138 => 269 | 143 => 270 | 145 => 141 | 146 => 187 | 150 => 260 | 151 => 199 | 152 => 246 | 153 => 290 | 156 => 105 | 160 => 74 | 161 => 259 | 162 => 75 | 165 => 175 | 166 => 24 | 167 => 204 | 168 => 202 | 169 => 23 | 171 => 68 | 172 => 191 | 195 => 292 | 197 => 198 | 205 => 295 | 206 => 235 | 210 => 205 | 217 => 251 | 218 => 293 | 219 => 249 | 220 => 206 | 221 => 237 | 224 => 281 | 225 => 282 | 226 => 300 | 227 => 133 | 228 => 197 | 230 => 138 | 231 => 131 | 232 => 132 | 233 => 134 | 234 => 135 | 235 => 136 | 236 => 137 | 240 => 62 | 241 => 230 | 242 => 248 | 243 => 127 | 244 => 239 | 245 => 240 | 246 => 194 | 247 => 271 | 260 => 245 | 266 => 285 | 267 => 284 | 268 => 268 | 270 => 203 | 271 => 200 | 276 => 120 | 277 => 265 | 278 => 283 | 279 => 272 | 280 => 273 | 281 => 274 | 282 => 275 | 283 => 241 | 284 => 242 | 285 => 243 | 286 => 244 | 287 => 294 | 314 => 298 | 315 => 236 | 316 => 222 | 317 => 276 | 318 => 277 | 319 => 278 | 320 => 279 | 321 => 303 | 322 => 304 | 329 => 208 | 330 => 209 | 337 => 296 | 338 => 297 | 347 => 307 | 348 => 308 | 349 => 309 | 350 => 310 | 351 => 311 | 352 => 312 | 353 => 313 | 354 => 314 | 355 => 315 | 356 => 316 | 357 => 317 | 358 => 318 | 359 => 319 | 360 => 322 | 361 => 323 | 362 => 328 | 363 => 353 | 364 => 350 | 365 => 351 | 366 => 333 | 367 => 365 | _ => 0, fun n => match n with | 0 => 0 | 1 => 1 | 2 => 2 | 3 => 3 | 4 => 4 | 5 => 5 | 6 => 6 | 7 => 7 | 8 => 8 | 9 => 9 | 10 => 10 | 11 => 11 | 12 => 12 | 13 => 13 | 14 => 14 | 15 => 15 | 16 => 16 | 17 => 17 | 18 => 18 | 19 => 19 | 20 => 20 | 21 => 21 | 22 => 323 | 23 => 152 | 24 => 253 | 25 => 254 | 27 => 372 | 28 => 257 | 31 => 94 | 37 => 72 | 39 => 339 | 40 => 243 | 41 => 153 | 46 => 172 | 47 => 171 | 49 => 25 | 51 => 180 | 52 => 283 | 53 => 61 | 54 => 284 | 55 => 347 | 59 => 255 | 60 => 256 | 61 => 325 | 63 => 338 | 64 => 370 | 67 => 212 | 68 => 226 | 69 => 43 | 70 => 77 | 71 => 78 | 72 => 79 | 73 => 92 | 74 => 85 | 75 => 86 | 76 => 87 | 77 => 88 | 78 => 341 | 79 => 340 | 80 => 84 | 81 => 213 | 83 => 89 | 84 => 334 | 85 => 393 | 86 => 394 | 99 => 148 | 103 => 410 | 104 => 132 | 105 => 336 | 106 => 337 | 107 => 252 | 108 => 415 | 111 => 386 | 113 => 364 | 114 => 149 | 115 => 245 | 116 => 246 | 117 => 247 | 118 => 248 | 119 => 401 | 121 => 251 | 122 => 244 | 123 => 249 | 124 => 250 | 126 => 371 | 127 => 143 | 128 => 365 | 131 => 281 | 137 => 402 | 138 => 403 | 139 => 404 | 143 => 420 | 144 => 421 | 145 => 422 | 146 => 416 | 150 => 391 | 151 => 417 | 155 => 363 | 164 => 158 | 165 => 231 | 166 => 387 | 167 => 392 | 168 => 395 | 169 => 396 | 170 => 397 | 171 => 366 | 172 => 367 | 173 => 368 | 174 => 369 | 175 => 411 | 176 => 412 | 182 => 276 | 183 => 277 | 203 => 427 | 209 => 413 | 210 => 414 | 211 => 398 | 212 => 399 | 213 => 400 | 214 => 419 | 218 => 342 | 219 => 343 | 220 => 315 | 222 => 345 | 228 => 373 | 229 => 374 | 232 => 423 | 233 => 424 | 238 => 429 | 239 => 430 | 240 => 431 | 241 => 432 | 242 => 433 | 243 => 435 | 244 => 166 | 245 => 436 | 246 => 437 | 247 => 438 | 248 => 439 | 249 => 440 | _ => 0, fun n => match n with | 1 => 4 | 3 => 2 | 4 => 3 | 15 => 5 | 16 => 6 | 17 => 1 | 18 => 7 | 19 => 8 | _ => 0⟩
theorem xZ9 {α : Sort _} (a : α) : ∃ b, a = b := ⟨_, rfl⟩
theorem kW {p : World → Prop} (h : ∀ w, p w := by intro w; kernel_rfl) : ∀ w, p w := h
abbrev lA := @Nat.zero_add
abbrev lB := @List.take_zero
abbrev lC := @List.drop_zero
abbrev lD := @List.length_cons
abbrev lE := @List.nil_append
abbrev lF := @List.length_nil
abbrev lH := @List.append_nil
abbrev lI := @List.drop_succ_cons
abbrev lJ := @Sem.run_bind
abbrev lK := @List.take_succ_cons
abbrev lL := @List.cons_append
abbrev lM := @Nat.add_zero
abbrev lN := @List.length_append
abbrev lO := @List.nil_sublist
abbrev lP := @List.mem_cons_self
abbrev lQ := @List.set_cons_succ
abbrev lR := @Result.andThen_ok
abbrev lS := @Bool.eq_iff_iff
abbrev lT := @IntWalk.i64_in
abbrev lU := @List.mem_cons_of_mem
abbrev lV := @Option.some.inj
abbrev lW := @List.mem_cons
abbrev lX := @List.sublist_append_right
abbrev lY := @List.filterMap_nil
abbrev lZ := @Nat.zero_le
abbrev l7 := @Sem.run_pure
abbrev l8 := @List.filterMap_cons
abbrev l9 := @List.mem_append
abbrev xA := @List.getElem?_cons_zero
abbrev xB := @List.all_eq_true
abbrev xC := @List.getElem?_cons_succ
abbrev xD := @List.append_assoc
abbrev xE := @List.sublist_append_left
abbrev xF := @List.getElem?_eq_getElem
abbrev xG := @List.mem_map
abbrev xH := @Nat.zero_mul
abbrev xI := @List.mem_append_left
abbrev xJ := @List.Sublist.cons_cons
abbrev xK := @IntWalk.u64_in
abbrev xL := @List.filter_cons
abbrev xM := @Bool.and_eq_true
abbrev xN := @List.mem_of_getElem?
abbrev xO := @List.Sublist.refl
abbrev xP := @Nat.le_refl
abbrev xR := @List.map_cons
abbrev xU := @List.mem_singleton
abbrev xV := @List.length_take
abbrev xW := @List.pairwise_append
abbrev xX := @Nat.lt_or_ge
abbrev xY := @List.take_length
abbrev xZ := @List.getElem?_map
abbrev x0 := @List.map_append
abbrev x4 := @Int.toNat_natCast
abbrev x5 := @List.flatMap_cons
abbrev x6 := @Nat.eq_of_beq_eq_true
abbrev x7 := @List.mem_append_right
abbrev x8 := @List.replicate_succ
abbrev x9 := @List.replicate_zero
abbrev qA := @List.Sublist.cons
abbrev qC := @List.take_succ_eq_append_getElem
abbrev qD := @Option.some.injEq
abbrev qE := @List.getElem?_append_left
abbrev qF := @List.length_drop
abbrev qG := @Option.map_some
abbrev qH := @List.getElem?_append_right
abbrev qI := @List.Sublist.trans
abbrev qJ := @List.filter_append
abbrev qK := @List.Perm.append_left
abbrev qL := @List.pairwise_cons
abbrev qN := @Nat.mul_one
abbrev qP := @Nat.add_assoc
abbrev qQ := @List.perm_append_comm
abbrev qR := @List.Pairwise.nil
abbrev qT := @List.map_nil
abbrev qU := @Nat.mul_comm
abbrev qV := @Nat.pow_succ
abbrev qW := @List.nodup_append
abbrev qX := @List.sublist_cons_self
abbrev qY := @List.length_map
abbrev qZ := @List.nodup_cons
abbrev zA := @List.drop_eq_getElem_cons
abbrev zB := @Bool.or_eq_true
abbrev zC := @Array.getD_eq_getD_getElem?
abbrev zD := @Option.bind_some
abbrev zE := @List.eq_nil_of_length_eq_zero
abbrev zF := @List.getD_eq_getElem?_getD
abbrev zG := @List.getElem?_eq_none
abbrev zH := @Nat.succ_mul
abbrev zI := @List.flatMap_append
abbrev zJ := @List.getElem?_drop
abbrev zK := @Option.map_none
abbrev zL := @Array.getElem?_eq_getElem
abbrev zM := @Nat.eq_zero_or_pos
abbrev zN := @List.take_of_length_le
abbrev zP := @List.Pairwise.cons
abbrev zQ := @List.getElem_mem
abbrev zR := @Nat.le_of_ble_eq_true
abbrev zS := @List.getElem?_take
abbrev zT := @List.mem_filter
abbrev zU := @List.foldl_cons
abbrev zV := @Bool.false_eq_true
abbrev zW := @List.flatten_cons
abbrev zX := @Nat.mod_eq_of_lt
abbrev zY := @List.length_singleton
abbrev zZ := @List.take_append_drop
abbrev z5 := @List.pairwise_iff_getElem
abbrev z6 := @Array.getElem?_modify
abbrev z7 := @Nat.mul_le_mul_right
abbrev z8 := @Nat.min_eq_left
abbrev z9 := @Array.getElem?_toList
abbrev uB := @List.map_toArray
abbrev uC := @List.drop_left
abbrev uD := @List.take_left
abbrev uE := @List.Sublist.append_left
abbrev uF := @Nat.add_sub_cancel_left
abbrev uG := @Nat.pow_le_pow_right
abbrev uH := @IntWalk.u32_in
abbrev uI := @Nat.le_trans
abbrev uJ := @Nat.lt_of_lt_of_le
abbrev uK := @Nat.sub_self
abbrev uN := @Nat.add_sub_cancel
abbrev uO := @List.drop_length
def Bel (a w : World) : Prop := Below a.heap.size a w
section
variable {a b c w : World}
theorem Bel.refl (a : World) : Bel a a := Below.refl _ _
theorem Bel.size (h : Bel a w) : a.heap.size ≤ w.heap.size := Below.size h
theorem Bel.trans (h : Bel a b) (k : Bel b c) : Bel a c := Below.trans h (Below.mono k (Below.size h))
theorem Bel.drew (h : Bel a w) : Bel a w.drew := Below.drew h
theorem Bel.drewN (h : Bel a w) (n : Nat) : Bel a (w.drewN n) := by
 have k : Below a.heap.size a w := h
 exact ⟨k.os, k.tape, k.output, k.size, k.block⟩
theorem Bel.alloc (h : Bel a w) (o : Obj) : Bel a (w.alloc o) := Below.alloc h (Below.size h) o
theorem Bel.set (h : Bel a w) {p : Addr} (hp : a.heap.size ≤ p.block) (u : Value) : Bel a (w.setCell p u) := Below.setCell h hp u
theorem Bel.took (h : Bel a w) : (∀ b o, b < a.heap.size → w.cell? ⟨b, o, none⟩ = a.cell? ⟨b, o, none⟩) ∧ (∀ b o, b < a.heap.size → w.frozen? ⟨b, o, none⟩ = a.frozen? ⟨b, o, none⟩) ∧ a.heap.size ≤ w.heap.size :=
 ⟨fun b o hb => Below.cell h (p := ⟨b, o, none⟩) hb, fun b o hb => Below.frozen h (p := ⟨b, o, none⟩) hb, h.size⟩
end
@[go_sem] theorem cell_set_here (w : World) (p : Addr) (u : Value) (h : (w.cell? p).isSome = true) : (w.setCell p u).cell? p = some u := by
 obtain ⟨v, hv⟩ := Option.isSome_iff_exists.1 h
 exact World.cell?_setCell_same w p u hv
@[go_sem] theorem bel_refl (a : World) : Bel a a ↔ True := ⟨fun _ => trivial, fun _ => Bel.refl a⟩
@[go_sem] theorem bel_drew (a w : World) : Bel a w.drew ↔ Bel a w := by
 refine ⟨fun h => ?_, fun h => Bel.drew h⟩
 have k : Below a.heap.size a w.drew := h
 exact ⟨k.os, k.tape, k.output, k.size, k.block⟩
@[go_sem] theorem bel_drewN (a w : World) (n : Nat) : Bel a (w.drewN n) ↔ Bel a w := by
 refine ⟨fun h => ?_, fun h => Bel.drewN h n⟩
 have k : Below a.heap.size a (w.drewN n) := h
 exact ⟨k.os, k.tape, k.output, k.size, k.block⟩
@[go_sem] theorem bel_alloc (a w : World) (o : Obj) (h : Bel a w) : Bel a (w.alloc o) := Bel.alloc h o
def str (l : List UInt8) : ByteArray := ⟨l.toArray⟩
@[go_sem] theorem str_size (l : List UInt8) : (str l).size = l.length := by simp [str, ByteArray.size]
theorem jZ8 (l : List UInt8) : (str l).data.toList = l := rfl
theorem vC3 (s : ByteArray) : ∃ l, s = str l := ⟨s.data.toList, rfl⟩
theorem hide {p : Prop} (h : p) : Hid p := h
inductive Ent where
 | own (g : Nat) (t : TypeId) (cs : List Value)
 | ro (g o : Nat) (cs : List Value)
 | ob (g : Nat) (p : Obj → Prop)
def Ent.g : Ent → Nat
 | .own g _ _ | .ro g _ _ | .ob g _ => g
def Ent.wr : Ent → Bool
 | .ro .. => false
 | _ => true
def Ent.holds (w : World) : Ent → Prop
 | .own g t cs => w.heap[g]? = some (.cells cs.toArray t (0, 0))
 | .ro g o cs => g < w.heap.size ∧ ∀ (j : Nat) (u : Value), cs[j]? = some u → w.cell? ⟨g, o + j, none⟩ = some u
 | .ob g p => ∃ o, w.heap[g]? = some o ∧ p o
abbrev Heap := List Ent
abbrev Fr := List (Nat × Value)
def Ent.apart (a b : Ent) : Prop := (a.wr || b.wr) = true → a.g ≠ b.g
def Sep (H : Heap) : Prop := H.Pairwise Ent.apart
structure Only (Wr : List Nat) (w w' : World) : Prop where
 os : w'.os = w.os
 tape : w'.tape = w.tape
 output : w'.output = w.output
 size : w.heap.size ≤ w'.heap.size
 block : ∀ i, i < w.heap.size → i ∉ Wr → w'.heap[i]? = w.heap[i]?
structure Sat (w0 : World) (Wr : List Nat) (H : Heap) (w : World) : Prop where
 only : Only Wr w0 w
 ents : ∀ e ∈ H, e.holds w ∧ (e.wr = true → e.g ∈ Wr ∨ w0.heap.size ≤ e.g)
 sep : Sep H
def lk : Fr → Nat → Option Value
 | [], _ => none
 | (t, v) :: r, k => bif Nat.beq t k then some v else lk r k
def ev (fr : Fr) : Operand → Option Value
 | .tmp t => lk fr t
 | .const v => some v
 | .func f => some (.func (.func f) #[] #[])
 | .global g => some (.pointer (some ⟨g, 0, none⟩))
inductive Mk where
 | at (D : Nat)
 | fn (f : FuncId) (caps : List Value)
instance : Coe Nat Mk := ⟨.at⟩
structure Frm where
 n : Nat
 R : Option Nat
 ds : List Mk
abbrev bN (d : Nat) (N : Frm) : Prop := Nat.ble (d + 1) N.n = true
def jS7 : Mk → Deferred
 | .at D => { target := .collected D, args := #[] }
 | .fn f caps => { target := .fn (.func f) caps.toArray, args := #[] }
structure FrOk (N : Frm) (fr : Fr) (a : Act) : Prop where
 size : a.tmps.size = N.n
 defers : a.defers = N.ds.map jS7
 at_ : ∀ t v, lk fr t = some v → a.tmps[t]? = some v
section
variable {Wr Wr' : List Nat} {w0 w w' : World} {H H' : Heap} {e : Ent} {N : Frm} {fr fr' : Fr} {a : Act}
theorem Only.refl (Wr : List Nat) (w : World) : Only Wr w w := ⟨rfl, rfl, rfl, xP _, fun _ _ _ => rfl⟩
theorem Only.trans {w2 : World} (h : Only Wr w0 w) (k : Only Wr' w w2) (hs : ∀ i ∈ Wr', i ∈ Wr ∨ w0.heap.size ≤ i) : Only Wr w0 w2 :=
 ⟨k.os.trans h.os, k.tape.trans h.tape, k.output.trans h.output, uI h.size k.size, fun i hi hn =>
  (k.block i (uJ hi h.size) (fun hm => by rcases hs i hm with h1 | h1; exact hn h1; omega)).trans (h.block i hi hn)⟩
theorem Only.of_bel (h : Bel w w') : Only Wr w w' := ⟨h.os, h.tape, h.output, h.size, fun i hi _ => h.block i hi⟩
theorem Only.bel (h : Only [] w w') : Bel w w' := ⟨h.os, h.tape, h.output, h.size, fun i hi => h.block i hi (by simp)⟩
theorem Ent.lt (h : e.holds w) : e.g < w.heap.size := by
 cases e with
 | own g t cs =>
  rcases xX g w.heap.size with h' | h'
  ·exact h'
  ·simp only [Ent.holds] at h; rw [Array.getElem?_eq_none h'] at h; cases h
 | ro g o cs => exact h.1
 | ob g p =>
  obtain ⟨o, h, _⟩ := h
  rcases xX g w.heap.size with h' | h'
  ·exact h'
  ·rw [Array.getElem?_eq_none h'] at h; cases h
theorem Ent.keep (h : e.holds w) (hs : w.heap.size ≤ w'.heap.size) (hb : w'.heap[e.g]? = w.heap[e.g]?) : e.holds w' := by
 cases e with
 | own g t cs => exact hb.trans h
 | ro g o cs =>
  refine ⟨uJ h.1 hs, fun j u hu => ?_⟩
  rw [World.cell?_of_block (w := w) (a := ⟨g, o + j, none⟩) hb]
  exact h.2 j u hu
 | ob g p =>
  obtain ⟨o, h, hp⟩ := h
  exact ⟨o, hb.trans h, hp⟩
theorem Sat.nil (w : World) : Sat w [] [] w := ⟨Only.refl _ _, by simp, qR⟩
theorem Sat.mem (h : Sat w0 Wr H w) {i : Nat} (hi : H[i]? = some e) : e.holds w := (h.ents e (xN hi)).1
theorem Sat.sub (h : Sat w0 Wr H w) (hs : H'.Sublist H) : Sat w0 Wr H' w := ⟨h.only, fun e he => h.ents e (hs.subset he), h.sep.sublist hs⟩
theorem Sat.perm (h : Sat w0 Wr H w) (hs : H.Perm H') : Sat w0 Wr H' w :=
 ⟨h.only, fun e he => h.ents e (hs.mem_iff.2 he), (hs.pairwise_iff (fun {a b} h1 h2 => by rw [Bool.or_comm] at h2; exact (h1 h2).symm)).1 h.sep⟩
theorem Sat.bel (h : Sat w0 Wr H w) (hb : Bel w w') : Sat w0 Wr H w' :=
 ⟨h.only.trans (Only.of_bel (Wr := []) hb) (by simp), fun e he => ⟨Ent.keep (h.ents e he).1 hb.size (Below.block hb _ (Ent.lt (h.ents e he).1)), (h.ents e he).2⟩, h.sep⟩
theorem Sat.drew (h : Sat w0 Wr H w) : Sat w0 Wr H w.drew := h.bel (Bel.drew (Bel.refl _))
theorem Sat.fresh (h : Sat w0 Wr H w) (he : e.holds w') (hb : Bel w w') (hg : w.heap.size ≤ e.g) : Sat w0 Wr (e :: H) w' := by
 have h' := h.bel hb
 refine ⟨h'.only, ?_, zP ?_ h'.sep⟩
 ·intro x hx
  rcases List.mem_cons.1 hx with rfl | hx
  ·exact ⟨he, fun _ => .inr (uI h.only.size hg)⟩
  ·exact h'.ents x hx
 ·intro x hx _
  have := Ent.lt (h.ents x hx).1
  omega
theorem Sat.alloc (h : Sat w0 Wr H w) (cs : List Value) (t : TypeId) : Sat w0 Wr (.own w.heap.size t cs :: H) (w.alloc (.cells cs.toArray t)) := by
 refine h.fresh ?_ ((Bel.refl w).alloc _) (xP _)
 show (w.heap.push _)[w.heap.size]? = _
 simp
theorem Sat.allocOb (h : Sat w0 Wr H w) (o : Obj) (p : Obj → Prop) (hp : p o) : Sat w0 Wr (.ob w.heap.size p :: H) (w.alloc o) := by
 refine h.fresh ⟨o, ?_, hp⟩ ((Bel.refl w).alloc _) (xP _)
 show (w.heap.push _)[w.heap.size]? = _
 simp
theorem Sat.turn (h : Sat w0 Wr H w) {i : Nat} (hi : H[i]? = some e) (hw : e.wr = true) {e' : Ent} (hg : e'.g = e.g) (ho : Only [e.g] w w') (he : e'.holds w') : Sat w0 Wr (H.set i e') w' := by
 have hm := h.ents e (xN hi)
 have hil : i < H.length := (List.getElem?_eq_some_iff.1 hi).1
 have hie : H[i] = e := (List.getElem?_eq_some_iff.1 hi).2
 refine ⟨h.only.trans ho (by simpa using hm.2 hw), ?_, ?_⟩
 ·intro x hx
  obtain ⟨j, hj, hxj⟩ := List.mem_iff_getElem.1 hx
  rw [List.getElem_set] at hxj
  by_cases hij : i = j
  ·rw [if_pos hij] at hxj
   subst hxj
   exact ⟨he, fun _ => hg ▸ hm.2 hw⟩
  ·rw [if_neg hij] at hxj
   have hj' : j < H.length := by simpa using hj
   have hxm := h.ents x (hxj ▸ zQ hj')
   refine ⟨Ent.keep hxm.1 ho.size (ho.block _ (Ent.lt hxm.1) ?_), hxm.2⟩
   simp only [xU]
   rcases Nat.lt_or_gt_of_ne hij with hlt | hlt
   ·have := List.pairwise_iff_getElem.1 h.sep i j hil hj' hlt
    rw [hie, hxj] at this
    exact fun e => this (by simp [hw]) e.symm
   ·have := List.pairwise_iff_getElem.1 h.sep j i hj' hil hlt
    rw [hie, hxj] at this
    exact this (by simp [hw])
 ·refine List.pairwise_iff_getElem.2 fun j k hj hk hjk => ?_
  have hj' : j < H.length := by simpa using hj
  have hk' : k < H.length := by simpa using hk
  have hp := List.pairwise_iff_getElem.1 h.sep j k hj' hk' hjk
  simp only [List.getElem_set]
  by_cases h1 : i = j
  ·subst h1
   rw [if_pos rfl, if_neg (by omega)]
   rw [hie] at hp
   intro _
   rw [hg]
   exact hp (by simp [hw])
  ·rw [if_neg h1]
   by_cases h2 : i = k
   ·subst h2
    rw [if_pos rfl]
    rw [hie] at hp
    intro _
    rw [hg]
    exact hp (by simp [hw])
   ·rw [if_neg h2]; exact hp
theorem Only.setCell (w : World) (g o : Nat) (u : Value) : Only [g] w (w.setCell ⟨g, o, none⟩ u) :=
 ⟨rfl, rfl, rfl, by simp [World.setCell], fun i _ hn => Below.heap_setCell w _ u i (by simpa using hn)⟩
theorem Ent.setCell {g : Nat} {t : TypeId} {cs : List Value} (h : (Ent.own g t cs).holds w) (o : Nat) (u : Value) : (Ent.own g t (cs.set o u)).holds (w.setCell ⟨g, o, none⟩ u) := by
 simp only [Ent.holds] at h ⊢
 simp [World.setCell, z6, h]
theorem Ent.cell {g : Nat} {t : TypeId} {cs : List Value} (h : (Ent.own g t cs).holds w) (o : Nat) : w.cell? ⟨g, o, none⟩ = cs[o]? := by
 rw [cell_of_row w g o cs.toArray t (0, 0) h]; simp
theorem Ent.free {g : Nat} {t : TypeId} {cs : List Value} (h : (Ent.own g t cs).holds w) (o : Nat) : w.frozen? ⟨g, o, none⟩ = false := by
 simp only [Ent.holds] at h
 simp [World.frozen?, h]
theorem FrOk.eval (h : FrOk N fr a) {x : Operand} {v : Value} (hx : ev fr x = some v) : a.eval x = v := by
 cases x with
 | tmp t =>
  have := h.at_ t v hx
  simp [Act.eval, zC, this]
 | const u => exact lV hx
 | func f => exact lV hx
 | global g => exact lV hx
theorem FrOk.put (h : FrOk N fr a) {d : Nat} (hd : Nat.ble (d + 1) N.n = true) (v : Value) : FrOk N ((d, v) :: fr) (a.put (some d) v) := by
 have hd' : d < N.n := zR hd
 refine ⟨by simp [Act.put, h.size], h.defers, fun t u hu => ?_⟩
 simp only [Act.put]
 rw [Array.getElem?_setIfInBounds]
 simp only [lk] at hu
 by_cases hdt : d = t
 ·subst hdt
  have e : Nat.beq d d = true := Nat.beq_refl d
  rw [e] at hu
  simp only [cond_true] at hu
  rw [if_pos rfl, h.size, if_pos hd']
  exact hu
 ·have e : Nat.beq d t = false := by
   cases hb : Nat.beq d t with
   | false => rfl
   | true => exact absurd (x6 hb) hdt
  rw [e] at hu
  simp only [cond_false] at hu
  rw [if_neg hdt]
  exact h.at_ t u hu
theorem FrOk.skip (h : FrOk N fr a) (v : Value) : FrOk N fr (a.put none v) := h
def Kn (fr' fr : Fr) : Prop := ∀ p ∈ fr', lk fr p.1 = some p.2
theorem yK8 : ∀ {fr : Fr} {t : Nat} {v : Value}, lk fr t = some v → (t, v) ∈ fr
 | [], _, _, h => by cases h
 | (k, u) :: r, t, v, h => by
  simp only [lk] at h
  cases hb : Nat.beq k t with
  | true => rw [hb] at h; obtain rfl := lV h; obtain rfl := x6 hb; exact lP
  | false => rw [hb] at h; exact lU _ (yK8 h)
theorem FrOk.kn (h : FrOk N fr a) (hk : Kn fr' fr) : FrOk N fr' a := ⟨h.size, h.defers, fun t v hv => h.at_ t v (hk _ (yK8 hv))⟩
theorem Kn.nil : Kn [] fr := by intro p hp; cases hp
abbrev kF := @Kn.nil
theorem Kn.cons {t : Nat} {v : Value} (h : lk fr t = some v) (hk : Kn fr' fr) : Kn ((t, v) :: fr') fr := by
 intro p hp
 rcases List.mem_cons.1 hp with rfl | hp
 ·exact h
 ·exact hk p hp
abbrev kE := @Kn.cons
theorem kR {fr' fr : Fr} (h : fr'.map (fun p => lk fr p.1) = fr'.map (fun p => some p.2)) : Kn fr' fr := fun p hp => List.map_inj_left.1 h p hp
theorem qS : (∀ (α : Type) (l : List α), l.take 0 = []) ∧ (∀ (α : Type) (a : α) (l : List α) (n : Nat), (a :: l).take (n + 1) = a :: l.take n) ∧ (∀ (α : Type) (l : List α), l.drop 0 = l) ∧ (∀ (α : Type) (a : α) (l : List α) (n : Nat), (a :: l).drop (n + 1) = l.drop n) ∧ (∀ (α : Type) (l : List α), [] ++ l = l) ∧ (∀ (α : Type) (l : List α), l ++ [] = l) ∧ (∀ (α : Type) (a : α) (l m : List α), (a :: l) ++ m = a :: (l ++ m)) ∧ (∀ (α : Type) (a : α) (l : List α), (a :: l).length = l.length + 1) ∧ (∀ α : Type, ([] : List α).length = 0) ∧ (∀ (α : Type) (a b : α) (l : List α), (a :: l).set 0 b = b :: l) ∧ (∀ (α : Type) (a b : α) (l : List α) (n : Nat), (a :: l).set (n + 1) b = a :: l.set n b) ∧ (∀ (α : Type) (a : α) (l : List α), (a :: l)[0]? = some a) ∧ (∀ (α : Type) (a : α) (l : List α) (n : Nat), (a :: l)[n + 1]? = l[n]?) ∧ (∀ n : Nat, 0 + n = n) ∧ (∀ n : Nat, n + 0 = n) ∧ (∀ (α β : Type) (f : α → Option β), [].filterMap f = []) :=
 ⟨fun _ _ => rfl, fun _ _ _ _ => rfl, fun _ _ => rfl, fun _ _ _ _ => rfl, fun _ _ => rfl, fun _ l => lH l, fun _ _ _ _ => rfl, fun _ _ _ => rfl, fun _ => rfl, fun _ _ _ _ => rfl, fun _ _ _ _ _ => rfl, fun _ _ _ => rfl, fun _ _ _ _ => rfl, lA, fun _ => rfl, fun _ _ _ => rfl⟩
end
section
variable {P : Program} {N : Frm} {w0 : World} {Wr : List Nat} {ops : Array Oper} {rest : List Oper} {fr : Fr} {H : Heap} {Z : Fr → Heap → Prop}
def sx (P : Program) (N : Frm) (w0 : World) (Wr : List Nat) (ops : Array Oper) (l : List Oper) (fr : Fr) (H : Heap) (Z : Fr → Heap → Prop) : Prop :=
 ∀ (Q : Exit → Act → World → Prop), (∀ fr' H' a w, Z fr' H' → FrOk N fr' a → Sat w0 Wr H' w → Q .normal a w) → ∀ a w, FrOk N fr a → Sat w0 Wr H w → wpList P ops Q l a w
theorem sN (h : Z fr H) : sx P N w0 Wr ops [] fr H Z := fun _ hQ a w ha hw => hQ _ _ a w h ha hw
theorem vB3 {o : Oper} (hg : o.guard = none)
  (h : ∀ (a : Act) (w : World) (K : Act → World → Prop) (Q : Exit → Act → World → Prop), FrOk N fr a → Sat w0 Wr H w →
   (∀ v w' fr' H', sx P N w0 Wr ops rest fr' H' Z → FrOk N fr' (a.put o.dst v) → Sat w0 Wr H' w' → K (a.put o.dst v) w') → o.wp P a w K Q) :
  sx P N w0 Wr ops (o :: rest) fr H Z :=
 fun Q hQ a w ha hw => wpList_plain hg fun K hK => h a w K Q ha hw fun _ _ _ _ hs hf hS => hK _ _ (hs Q hQ _ _ hf hS)
theorem jE4 {op : Op} {d ty : Nat} {pos : String} {after : Array Edge} (v : Value) (hN : bN d N)
  (hrun : ∀ (a : Act) (w : World), FrOk N fr a → Sat w0 Wr H w → (execOp a.eval ⟨some d, op, ty, pos, after, none⟩).run P w = .ok (.value v) w)
  (h : sx P N w0 Wr ops rest ((d, v) :: fr) H Z) : sx P N w0 Wr ops (⟨some d, op, ty, pos, after, none⟩ :: rest) fr H Z :=
 vB3 rfl fun a w K Q ha hw hK => by
  unfold Oper.wp
  rw [hrun a w ha hw]
  exact hK v w _ H h (ha.put hN v) hw
theorem wD7 {op : Op} {ty : Nat} {pos : String} {after : Array Edge} {H' : Heap}
  (hrun : ∀ (a : Act) (w : World), FrOk N fr a → Sat w0 Wr H w → ∃ w', (execOp a.eval ⟨none, op, ty, pos, after, none⟩).run P w = .ok .skip w' ∧ Sat w0 Wr H' w')
  (h : sx P N w0 Wr ops rest fr H' Z) : sx P N w0 Wr ops (⟨none, op, ty, pos, after, none⟩ :: rest) fr H Z :=
 vB3 rfl fun a w K Q ha hw hK => by
  obtain ⟨w', h1, h2⟩ := hrun a w ha hw
  unfold Oper.wp
  rw [h1]
  exact hK undef w' fr H' h (ha.skip _) h2
theorem jI7 {op : Op} {d ty : Nat} {pos : String} {after : Array Edge} {R : Value → Heap → Prop} (hN : bN d N)
  (hrun : ∀ (a : Act) (w : World), FrOk N fr a → Sat w0 Wr H w → ∃ v w' H', (execOp a.eval ⟨some d, op, ty, pos, after, none⟩).run P w = .ok (.value v) w' ∧ R v H' ∧ Sat w0 Wr H' w')
  (h : ∀ v H', R v H' → sx P N w0 Wr ops rest ((d, v) :: fr) H' Z) : sx P N w0 Wr ops (⟨some d, op, ty, pos, after, none⟩ :: rest) fr H Z :=
 vB3 rfl fun a w K Q ha hw hK => by
  obtain ⟨v, w', H', h1, h2, h3⟩ := hrun a w ha hw
  unfold Oper.wp
  rw [h1]
  exact hK v w' _ H' (h v H' h2) (ha.put hN v) h3
theorem yQ5 {l : List Oper} (H' : Heap) (hk : H'.Sublist H) (h : sx P N w0 Wr ops l fr H' Z) : sx P N w0 Wr ops l fr H Z :=
 fun Q hQ a w ha hw => h Q hQ a w ha (hw.sub hk)
end
end
section
open Go.RowKit
def tyAgg (P : Program) (t : TypeId) : Option Bool := (P.underlying t).map fun | .struct _ | .array _ _ => true | _ => false
def tySize (P : Program) (t : TypeId) : Option Nat := (P.info? t).map (·.size)
def tyZero (P : Program) (t : TypeId) : Option (List Value) := ((P.info? t).bind (·.zero)).map (fun v => v.cells.toList)
def ptr (g o : Nat) : Value := .pointer (some ⟨g, o, none⟩)
abbrev uq (x : Nat) : Value := .int .u64 (x : Int)
abbrev ub (x : Nat) : Value := .int .u8 (x : Int)
abbrev iq (x : Int) : Value := .int .i64 x
def tyF (P : Program) (s i : Nat) : Option (Nat × Nat × Bool) :=
 match P.underlying s with
 | some (.struct fs) => (fs[i]?).bind fun f => (tySize P f.type).bind fun n => (tyAgg P f.type).bind fun b => if n = 0 then none else some (f.offset, n, b)
 | _ => none
section
variable {P : Program} {w : World} {t : TypeId}
theorem kA0 {b : Bool} (h : tyAgg P t = some b) : (isAgg t).run P w = .ok b w := by
 unfold tyAgg at h
 cases hu : P.underlying t with
 | none => simp [hu] at h
 | some d =>
  simp only [hu, qG, qD] at h
  unfold isAgg
  simp only [lJ, run_underlying hu, lR]
  subst h
  cases d <;> rfl
theorem jC5 {n : Nat} (h : tySize P t = some n) : (sizeOf t).run P w = .ok n w := by
 unfold tySize at h
 cases hu : P.info? t with
 | none => simp [hu] at h
 | some d =>
  simp only [hu, qG, qD] at h
  subst h
  simp [sizeOf, typeInfo, hu]
theorem jV9 {cs : List Value} (h : tyZero P t = some cs) : ∃ v, (zeroValue t).run P w = .ok v w ∧ v.cells = cs.toArray := by
 unfold tyZero at h
 cases hu : P.info? t with
 | none => simp [hu] at h
 | some d =>
  cases hz : d.zero with
  | none => simp [hu, hz] at h
  | some v =>
   simp only [hu, zD, hz, qG, qD] at h
   exact ⟨v, by simp [zeroValue, typeInfo, hu, hz], by rw [← h]⟩
theorem jO3 (a : Addr) : ∀ (n i : Nat) (acc : Array Value) (vs : List Value), vs.length = n → (∀ j u, vs[j]? = some u → w.cell? (a.add (i + j)) = some u) →
  (loadCellsFrom a i n acc).run P w = .ok (acc ++ vs.toArray) w
 | 0, i, acc, vs, hl, _ => by
  obtain rfl := zE hl
  simp [loadCellsFrom]
 | n + 1, i, acc, vs, hl, h => by
  match vs, hl with
  | v :: vs, hl =>
   have h0 : w.cell? (a.add i) = some v := h 0 v rfl
   have ih := jO3 a n (i + 1) (acc.push v) vs (by simpa using hl) (fun j u hu => by
    have := h (j + 1) u (by simpa using hu)
    rwa [show i + 1 + j = i + (j + 1) by omega])
   unfold loadCellsFrom
   simp only [load, lJ, Sem.run, h0, lR, ih]
   simp
theorem jM7 : ∀ (vs : List Value) (g o i : Nat) (cs : List Value) (w : World), (Ent.own g t cs).holds w → o + i + vs.length ≤ cs.length → (∀ v ∈ vs, v.oneCell' = true) →
  ∃ w', (storeCells ⟨g, o, none⟩ vs i).run P w = .ok () w' ∧ Only [g] w w' ∧ (Ent.own g t (cs.take (o + i) ++ vs ++ cs.drop (o + i + vs.length))).holds w'
 | [], g, o, i, cs, w, h, _, _ => ⟨w, by simp [storeCells], Only.refl _ _, by simpa using h⟩
 | v :: vs, g, o, i, cs, w, h, hl, h1 => by
  have hl' : o + i < cs.length := by simp only [lD] at hl; omega
  have ha : Addr.add ⟨g, o, none⟩ i = ⟨g, o + i, none⟩ := by unfold Addr.add; split <;> simp_all
  obtain ⟨w2, h2, h3, h4⟩ := jM7 vs g o (i + 1) (cs.set (o + i) v) _ (Ent.setCell h (o + i) v) (by simp only [lD, List.length_set] at hl ⊢; omega) (fun x hx => h1 x (lU _ hx))
  refine ⟨w2, ?_, (Only.setCell w g (o + i) v).trans h3 (by simp), ?_⟩
  ·unfold storeCells
   have hc : w.cell? ⟨g, o + i, none⟩ = some cs[o + i] := by rw [Ent.cell h]; simp [hl']
   have hf := Ent.free h (o + i)
   have hv := h1 v lP
   have hs : (store ⟨g, o + i, none⟩ v).run P w = .ok () (w.setCell ⟨g, o + i, none⟩ v) := by
    cases v <;> first | (simp [store, Sem.run, hc, hf]; done) | (simp [Value.oneCell'] at hv)
   simp only [ha, lJ, hs, lR, h2]
  ·have e : (cs.set (o + i) v).take (o + (i + 1)) ++ vs ++ (cs.set (o + i) v).drop (o + (i + 1) + vs.length) = cs.take (o + i) ++ (v :: vs) ++ cs.drop (o + i + (v :: vs).length) := by
    have e1 : (cs.set (o + i) v).take (o + (i + 1)) = cs.take (o + i) ++ [v] := by
     rw [← qP, qC (by simpa using hl'), List.take_set_of_le (xP _)]
     simp
    have e2 : (cs.set (o + i) v).drop (o + (i + 1) + vs.length) = cs.drop (o + i + (v :: vs).length) := by
     rw [List.drop_set_of_lt (by omega)]
     simp only [lD]
     congr 1
     omega
    rw [e1, e2]
    simp
   rw [← e]
   exact h4
end
section
variable {P : Program} {N : Frm} {w0 : World} {Wr : List Nat} {ops : Array Oper} {rest : List Oper} {fr : Fr} {H : Heap} {Z : Fr → Heap → Prop}
variable {d ty : Nat} {pos : String} {after : Array Edge}
theorem sM {x : Operand} {v : Value} (hx : ev fr x = some v) (hN : bN d N) (h : sx P N w0 Wr ops rest ((d, v) :: fr) H Z) : sx P N w0 Wr ops (⟨some d, .move x, ty, pos, after, none⟩ :: rest) fr H Z :=
 jE4 v hN (fun a w ha _ => by rw [← ha.eval hx]; rfl) h
theorem sA {x : Operand} {v : Value} (hx : ev fr x = some v) (hN : bN d N) (h : sx P N w0 Wr ops rest ((d, v) :: fr) H Z) : sx P N w0 Wr ops (⟨some d, .assign x, ty, pos, after, none⟩ :: rest) fr H Z :=
 jE4 v hN (fun a w ha _ => by rw [← ha.eval hx]; rfl) h
theorem vI7 {x : Operand} {g o : Nat} (hx : ev fr x = some (ptr g o)) (hN : bN d N) (h : sx P N w0 Wr ops rest ((d, ptr g o) :: fr) H Z) : sx P N w0 Wr ops (⟨some d, .nilCheck x, ty, pos, after, none⟩ :: rest) fr H Z :=
 jE4 _ hN (fun a w ha _ => by simp only [execOp, ha.eval hx, ptr]; rfl) h
theorem jA1 {x : Operand} {g o : Nat} (h : sx P N w0 Wr ops rest ((d, ptr g o) :: fr) H Z) (hx : ev fr x = some (ptr g o) := by exact rfl) (hN : bN d N := by exact rfl) : sx P N w0 Wr ops (⟨some d, .nilCheck x, ty, pos, after, none⟩ :: rest) fr H Z := vI7 hx hN h
theorem sAl {t : TypeId} {cs : List Value} (hz : tyZero P t = some cs) (hN : bN d N) (h : ∀ g, sx P N w0 Wr ops rest ((d, ptr g 0) :: fr) (.own g t cs :: H) Z) :
  sx P N w0 Wr ops (⟨some d, .alloc t, ty, pos, after, none⟩ :: rest) fr H Z := by
 refine jI7 (R := fun v H' => ∃ g, v = ptr g 0 ∧ H' = .own g t cs :: H) hN (fun a w ha hw => ?_) (fun v H' hR => by obtain ⟨g, rfl, rfl⟩ := hR; exact h g)
 obtain ⟨v, h1, h2⟩ := jV9 (w := w) hz
 refine ⟨ptr w.heap.size 0, w.alloc (.cells cs.toArray t), _, ?_, ⟨_, rfl, rfl⟩, hw.alloc cs t⟩
 simp only [execOp, Instr.alloc, lJ, h1, lR, newVar, newRow, newObj, h2]
 rfl
theorem zF1 {t : TypeId} {x : Operand} {v : Value} {cs : List Value} (hx : ev fr x = some v) (hz : v.cells.toList = cs) (hN : bN d N) (h : ∀ g, sx P N w0 Wr ops rest ((d, ptr g 0) :: fr) (.own g t cs :: H) Z) :
  sx P N w0 Wr ops (⟨some d, .box t x, ty, pos, after, none⟩ :: rest) fr H Z := by
 refine jI7 (R := fun v H' => ∃ g, v = ptr g 0 ∧ H' = .own g t cs :: H) hN (fun a w ha hw => ?_) (fun v H' hR => by obtain ⟨g, rfl, rfl⟩ := hR; exact h g)
 refine ⟨ptr w.heap.size 0, w.alloc (.cells cs.toArray t), _, ?_, ⟨_, rfl, rfl⟩, hw.alloc cs t⟩
 subst hz
 simp only [execOp, Instr.box, ha.eval hx, newVar, newRow, newObj]
 rfl
theorem jB2 {t : TypeId} {x : Operand} {v : Value} {cs : List Value} (h : ∀ g, sx P N w0 Wr ops rest ((d, ptr g 0) :: fr) (.own g t cs :: H) Z) (hx : ev fr x = some v := by exact rfl) (hz : v.cells.toList = cs := by exact rfl) (hN : bN d N := by exact rfl) :
  sx P N w0 Wr ops (⟨some d, .box t x, ty, pos, after, none⟩ :: rest) fr H Z := zF1 hx hz hN h
def rdV (agg : Bool) (n : Nat) (cs : List Value) (o : Nat) : Option Value := bif agg then (bif Nat.ble (o + n) cs.length then some (.agg ((cs.drop o).take n).toArray) else none) else cs[o]?
theorem jP2 {t : TypeId} {agg : Bool} {n g o : Nat} {cs : List Value} {v : Value} {w : World} (ht : tyAgg P t = some agg) (hn : tySize P t = some n) (hv : rdV agg n cs o = some v)
  (hc : ∀ (j : Nat) u, cs[j]? = some u → w.cell? ⟨g, j, none⟩ = some u) : (loadVar t ⟨g, o, none⟩).run P w = .ok v w := by
 unfold loadVar
 simp only [lJ, kA0 ht, lR]
 cases agg with
 | false =>
  have := hc o v hv
  simp [load, Sem.run, this]
 | true =>
  simp only [rdV, cond_true] at hv
  cases hb : Nat.ble (o + n) cs.length with
  | false => rw [hb] at hv; cases hv
  | true =>
   rw [hb] at hv
   obtain rfl := lV hv
   have hle := zR hb
   simp only [if_true, lJ, jC5 hn, lR, loadCells]
   rw [jO3 (P := P) ⟨g, o, none⟩ n 0 #[] ((cs.drop o).take n) (by simp; omega) (fun j u hu => by
    have e : Addr.add ⟨g, o, none⟩ (0 + j) = ⟨g, o + j, none⟩ := by unfold Addr.add; split <;> simp_all
    rw [e]
    refine hc _ _ ?_
    rw [zS] at hu
    split at hu
    ·rw [← hu, zJ]
    ·cases hu)]
   simp
theorem sL (i : Nat) {t : TypeId} {x : Operand} {g o : Nat} {e : TypeId} {cs : List Value} {agg : Bool} {n : Nat} {v : Value} (hx : ev fr x = some (ptr g o)) (hH : H[i]? = some (.own g e cs)) (ht : tyAgg P t = some agg) (hn : tySize P t = some n) (hv : rdV agg n cs o = some v) (hN : bN d N)
  (h : sx P N w0 Wr ops rest ((d, v) :: fr) H Z) : sx P N w0 Wr ops (⟨some d, .load t x, ty, pos, after, none⟩ :: rest) fr H Z :=
 jE4 v hN (fun a w ha hw => by
  have hc := Ent.cell (hw.mem hH)
  simp only [execOp, Instr.loadAt, ha.eval hx, ptr, Instr.sureAddr, lJ, l7, lR]
  rw [jP2 ht hn hv (fun j u hu => (hc j).trans hu)]
  rfl) h
theorem sL0 (i : Nat) {t : TypeId} {x : Operand} {g o : Nat} {e : TypeId} {cs : List Value} {agg : Bool} {n : Nat} {v : Value} (ht : tyAgg P t = some agg) (hn : tySize P t = some n) (h : sx P N w0 Wr ops rest ((d, v) :: fr) H Z) (hx : ev fr x = some (ptr g o) := by exact rfl) (hH : H[i]? = some (.own g e cs) := by exact rfl) (hv : rdV agg n cs o = some v := by exact rfl) (hN : bN d N := by exact rfl) : sx P N w0 Wr ops (⟨some d, .load t x, ty, pos, after, none⟩ :: rest) fr H Z := sL i hx hH ht hn hv hN h
theorem sLA (i : Nat) {t : TypeId} {x : Operand} {g o : Nat} {e : TypeId} {cs cs' : List Value} {n : Nat} (hx : ev fr x = some (ptr g o)) (hH : H[i]? = some (.own g e cs)) (ht : tyAgg P t = some true) (hn : tySize P t = some n) (hle : Nat.ble (o + n) cs.length = true) (hv : (cs.drop o).take n = cs') (hN : bN d N)
  (h : sx P N w0 Wr ops rest ((d, .agg cs'.toArray) :: fr) H Z) : sx P N w0 Wr ops (⟨some d, .load t x, ty, pos, after, none⟩ :: rest) fr H Z :=
 sL i hx hH ht hn (by subst hv; simp [rdV, hle]) hN h
theorem sLA0 (i : Nat) {t : TypeId} {x : Operand} {g o : Nat} {e : TypeId} {cs cs' : List Value} {n : Nat} (ht : tyAgg P t = some true) (hn : tySize P t = some n) (h : sx P N w0 Wr ops rest ((d, .agg cs'.toArray) :: fr) H Z) (hx : ev fr x = some (ptr g o) := by exact rfl) (hH : H[i]? = some (.own g e cs) := by exact rfl) (hle : Nat.ble (o + n) cs.length = true := by first | (simp only [qS, Nat.reduceAdd]; first | done | rfl) | rfl) (hv : (cs.drop o).take n = cs' := by first | (simp only [qS, Value.cells]; first | done | rfl) | rfl) (hN : bN d N := by exact rfl) : sx P N w0 Wr ops (⟨some d, .load t x, ty, pos, after, none⟩ :: rest) fr H Z := sLA i hx hH ht hn hle hv hN h
theorem kD4 (i : Nat) {t : TypeId} {x : Operand} {g o o' : Nat} {cs : List Value} {agg : Bool} {n : Nat} {v : Value} (hx : ev fr x = some (ptr g o)) (hH : H[i]? = some (.ro g o' cs)) (k : Nat) (ho : o = o' + k) (ht : tyAgg P t = some agg) (hn : tySize P t = some n) (hv : rdV agg n cs k = some v) : ∀ a w, FrOk N fr a → Sat w0 Wr H w → (execOp a.eval ⟨some d, .load t x, ty, pos, after, none⟩).run P w = .ok (.value v) w := fun a w ha hw => by
  subst ho
  have hc := (hw.mem hH).2
  simp only [execOp, Instr.loadAt, ha.eval hx, ptr, Instr.sureAddr, lJ, l7, lR]
  have : (loadVar t ⟨g, o' + k, none⟩).run P w = .ok v w := by
   unfold loadVar
   simp only [lJ, kA0 ht, lR]
   cases agg with
   | false => simp [load, Sem.run, hc k v hv]
   | true =>
    simp only [rdV, cond_true] at hv
    cases hb : Nat.ble (k + n) cs.length with
    | false => rw [hb] at hv; cases hv
    | true =>
     rw [hb] at hv
     obtain rfl := lV hv
     have hle := zR hb
     simp only [if_true, lJ, jC5 hn, lR, loadCells]
     rw [jO3 (P := P) ⟨g, o' + k, none⟩ n 0 #[] ((cs.drop k).take n) (by simp; omega) (fun j u hu => by
      have e : Addr.add ⟨g, o' + k, none⟩ (0 + j) = ⟨g, o' + (k + j), none⟩ := by unfold Addr.add; split <;> simp_all <;> omega
      rw [e]
      refine hc _ _ ?_
      rw [zS] at hu
      split at hu
      ·rw [← hu, zJ]
      ·cases hu)]
     simp
  rw [this]
  rfl
theorem jE0 (i : Nat) {t : TypeId} {x : Operand} {g o o' : Nat} {cs : List Value} {agg : Bool} {n : Nat} {v : Value} (hx : ev fr x = some (ptr g o)) (hH : H[i]? = some (.ro g o' cs)) (k : Nat) (ho : o = o' + k) (ht : tyAgg P t = some agg) (hn : tySize P t = some n) (hv : rdV agg n cs k = some v) (hN : bN d N)
  (h : sx P N w0 Wr ops rest ((d, v) :: fr) H Z) : sx P N w0 Wr ops (⟨some d, .load t x, ty, pos, after, none⟩ :: rest) fr H Z := jE4 v hN (kD4 i hx hH k ho ht hn hv) h
def wrV (cs : List Value) (o : Nat) (vs : List Value) : List Value := cs.take o ++ vs ++ cs.drop (o + vs.length)
theorem sS (i : Nat) {t : TypeId} {x y : Operand} {g o : Nat} {e : TypeId} {cs cs' vs : List Value} {n : Nat} {v : Value} (hx : ev fr x = some (ptr g o)) (hy : ev fr y = some v) (hH : H[i]? = some (.own g e cs)) (hn : tySize P t = some n) (hvs : v.cells.toList = vs) (h1 : vs.all Value.oneCell' = true) (hl : vs.length = n)
  (hlen : Nat.ble (o + n) cs.length = true) (hcs : wrV cs o vs = cs') {H2 : Heap} (hs : H.set i (.own g e cs') = H2)
  (h : sx P N w0 Wr ops rest fr H2 Z) : sx P N w0 Wr ops (⟨none, .store t x y, ty, pos, after, none⟩ :: rest) fr H Z :=
 wD7 (fun a w ha hw => by
  have hm := hw.mem hH
  subst hs
  subst hcs
  subst hl
  obtain ⟨w', h2, h3, h4⟩ := jM7 (P := P) vs g o 0 cs w hm (by have := zR hlen; omega) (fun u hu => List.all_eq_true.1 h1 u hu)
  refine ⟨w', ?_, hw.turn hH rfl rfl h3 (by simpa [wrV] using h4)⟩
  have hsz : v.cells.size = vs.length := by rw [← hvs]; simp
  simp only [execOp, Instr.storeAt, ha.eval hx, ha.eval hy, ptr, Instr.sureAddr, lJ, l7, lR, storeVar, jC5 hn, hsz, hvs]
  simp [h2]) h
theorem sS0 (i : Nat) {t : TypeId} {x y : Operand} {g o : Nat} {e : TypeId} {cs cs' vs : List Value} {n : Nat} {v : Value} (hn : tySize P t = some n) {H2 : Heap} (h : sx P N w0 Wr ops rest fr H2 Z) (hx : ev fr x = some (ptr g o) := by exact rfl) (hy : ev fr y = some v := by exact rfl) (hH : H[i]? = some (.own g e cs) := by exact rfl) (hvs : v.cells.toList = vs := by first | (simp only [Value.cells]; first | done | rfl) | rfl) (h1 : vs.all Value.oneCell' = true := by exact rfl) (hl : vs.length = n := by exact rfl) (hlen : Nat.ble (o + n) cs.length = true := by first | (simp only [qS, Nat.reduceAdd]; first | done | rfl) | rfl) (hcs : wrV cs o vs = cs' := by first | (simp only [qS, Nat.reduceAdd, wrV, Value.cells]; first | done | rfl) | rfl) (hs : H.set i (.own g e cs') = H2 := by first | (simp only [qS]; first | done | rfl) | rfl) : sx P N w0 Wr ops (⟨none, .store t x y, ty, pos, after, none⟩ :: rest) fr H Z := sS i hx hy hH hn hvs h1 hl hlen hcs hs h
theorem sS1 (i : Nat) {t : TypeId} {x y : Operand} {g o : Nat} {e : TypeId} {cs cs' : List Value} {v : Value} (hx : ev fr x = some (ptr g o)) (hy : ev fr y = some v) (hH : H[i]? = some (.own g e cs)) (hn : tySize P t = some 1) (h1 : v.oneCell' = true)
  (hlen : Nat.ble (o + 1) cs.length = true) (hcs : cs.set o v = cs') {H2 : Heap} (hs : H.set i (.own g e cs') = H2)
  (h : sx P N w0 Wr ops rest fr H2 Z) : sx P N w0 Wr ops (⟨none, .store t x y, ty, pos, after, none⟩ :: rest) fr H Z := by
 have hc : v.cells.toList = [v] := by cases v <;> first | rfl | (simp [Value.oneCell'] at h1)
 have hl := zR hlen
 refine sS i hx hy hH hn hc (by simp [h1]) rfl hlen ?_ hs h
 rw [← hcs, List.set_eq_take_append_cons_drop, if_pos (by omega)]
 simp [wrV]
theorem sS10 (i : Nat) {t : TypeId} {x y : Operand} {g o : Nat} {e : TypeId} {cs cs' : List Value} {v : Value} (hn : tySize P t = some 1) {H2 : Heap} (h : sx P N w0 Wr ops rest fr H2 Z) (hx : ev fr x = some (ptr g o) := by exact rfl) (hy : ev fr y = some v := by exact rfl) (hH : H[i]? = some (.own g e cs) := by exact rfl) (h1 : v.oneCell' = true := by exact rfl) (hlen : Nat.ble (o + 1) cs.length = true := by first | (simp only [qS, Nat.reduceAdd]; first | done | rfl) | rfl) (hcs : cs.set o v = cs' := by first | (simp only [qS]; first | done | rfl) | rfl) (hs : H.set i (.own g e cs') = H2 := by first | (simp only [qS]; first | done | rfl) | rfl) : sx P N w0 Wr ops (⟨none, .store t x y, ty, pos, after, none⟩ :: rest) fr H Z := sS1 i hx hy hH hn h1 hlen hcs hs h
theorem sFAc {s i : Nat} {x : Operand} {g o off n o' : Nat} {b : Bool} (hx : ev fr x = some (ptr g o)) (hf : tyF P s i = some (off, n, b)) (ho : o + off = o') : ∀ a w, FrOk N fr a → (execOp a.eval ⟨some d, .fieldAddr s x i, ty, pos, after, none⟩).run P w = .ok (.value (ptr g o')) w := fun a w ha => by
  subst ho
  unfold tyF at hf
  cases hu : P.underlying s with
  | none => simp [hu] at hf
  | some dd =>
   cases dd <;> simp only [hu] at hf <;> try cases hf
   rename_i fs
   cases hi : fs[i]? with
   | none => simp [hi] at hf
   | some f =>
    simp only [hi, zD] at hf
    cases hs : tySize P f.type with
    | none => simp [hs] at hf
    | some m =>
     cases hb : tyAgg P f.type with
     | none => simp [hs, hb] at hf
     | some bb =>
      simp only [hs, hb, zD] at hf
      split at hf
      ·cases hf
      ·rename_i hm
       simp only [qD, Prod.mk.injEq] at hf
       obtain ⟨rfl, rfl, rfl⟩ := hf
       have e : Addr.add ⟨g, o, none⟩ f.offset = ⟨g, o + f.offset, none⟩ := by unfold Addr.add; split <;> simp_all
       simp only [execOp, Instr.fieldAt, ha.eval hx, ptr, lJ, run_underlying hu, lR, hi, Instr.sureAddr, l7, fieldPlace, jC5 hs, hm, if_false, e]
theorem sFA {s i : Nat} {x : Operand} {g o off n o' : Nat} {b : Bool} (hx : ev fr x = some (ptr g o)) (hf : tyF P s i = some (off, n, b)) (ho : o + off = o') (hN : bN d N)
  (h : sx P N w0 Wr ops rest ((d, ptr g o') :: fr) H Z) : sx P N w0 Wr ops (⟨some d, .fieldAddr s x i, ty, pos, after, none⟩ :: rest) fr H Z := jE4 _ hN (fun a w q _ => sFAc hx hf ho a w q) h
theorem sFA0 {s i : Nat} {x : Operand} {g o off n o' : Nat} {b : Bool} (hf : tyF P s i = some (off, n, b)) (h : sx P N w0 Wr ops rest ((d, ptr g o') :: fr) H Z) (hx : ev fr x = some (ptr g o) := by exact rfl) (ho : o + off = o' := by first | (simp only [qS, Nat.reduceAdd]; first | done | rfl) | rfl) (hN : bN d N := by exact rfl) : sx P N w0 Wr ops (⟨some d, .fieldAddr s x i, ty, pos, after, none⟩ :: rest) fr H Z := sFA hx hf ho hN h
end
end
section
open Go.RowKit
def QN (Q : Exit → Act → World → Prop) : Exit → Act → World → Prop := fun e a w => e = .normal ∧ Q .normal a w
theorem jV3 {Q : Exit → Act → World → Prop} : ¬ LetsOut (QN Q) := fun ⟨_, _, h⟩ => by cases h.1
def Frm.fence (N : Frm) : Fence := { Fence.wide with round := N.R }
def jS1 (o : Oper) : Bool := match o.op with | .defer _ => false | _ => true
def jH9 : Code → Bool
 | .region _ ops _ => ops.toList.all jS1
 | .seq x y => jH9 x && jH9 y
 | .cond _ x y => jH9 x && jH9 y
 | .block _ x => jH9 x
 | .loop x => jH9 x
 | .scope x => jH9 x
 | .rangeFunc _ _ x y => jH9 x && jH9 y
 | _ => true
def wq (P : Program) (N : Frm) (c : Code) (Q : Exit → Act → World → Prop) (a : Act) (w : World) : Prop := (N.R.isSome = true → jH9 c = true) → c.wpIn N.fence 0 P Q a w
section
variable {P : Program} {N : Frm} {Q Q' : Exit → Act → World → Prop} {a : Act} {w w0 : World} {Wr : List Nat} {K : Act → World → Prop}
theorem kS8 {n : Nat} {ds : List Mk} {c : Code} (h : wq P ⟨n, none, ds⟩ c Q a w) : c.wp P Q a w := wpIn_wide.1 (h (fun e => by cases e))
theorem kS9 {c : Code} (hq : ∀ e a w, Q e a w → Q' e a w) (h : wq P N c Q a w) : wq P N c Q' a w := fun hp => Go.wpIn_mono (h hp) hq
theorem zC9 {x y : Code} (h : wq P N x (Exit.then (wq P N y Q) Q) a w) : wq P N (.seq x y) Q a w := fun hp => by
 have hp' : N.R.isSome = true → jH9 x = true ∧ jH9 y = true := fun e => by simpa [jH9] using hp e
 exact wpIn_seq (Go.wpIn_mono (h fun e => (hp' e).1) fun e a w q => by
  cases e <;> first | exact q | exact q (fun e => (hp' e).2))
theorem kT0 {c : Operand} {x y : Code} {t : Bool} (hc : a.eval c = .bool t) (ht : t = true → wq P N x Q a w) (hf : t = false → wq P N y Q a w) : wq P N (.cond c x y) Q a w := fun hp => by
 have hp' : N.R.isSome = true → jH9 x = true ∧ jH9 y = true := fun e => by simpa [jH9] using hp e
 exact wpIn_cond_split hc (fun h => ht h fun e => (hp' e).1) (fun h => hf h fun e => (hp' e).2)
theorem wW4 {id : Nat} {c : Code} (h : wq P N c (Exit.inBlock id Q) a w) : wq P N (.block id c) Q a w := fun hp => wpIn_block (h fun e => by simpa [jH9] using hp e)
theorem yO1 {id : Nat} (h : Q (.exit id) a w) : wq P N (.exit id) Q a w := fun _ => wpIn_exit h
theorem zD0 (h : Q .ret a w) : wq P N .ret Q a w := fun _ => wpIn_ret h
theorem yN9 (h : Q .normal a w) : wq P N .skip Q a w := fun _ => wpIn_skip h
theorem yO0 {body : Code} {ι : Type} (NN : ι → Frm) (F : ι → Fr) (HH : ι → Heap) (I : ι → Prop) (μ : ι → Nat) (i0 : ι) (h0 : I i0)
  (round : ∀ i, I i → ∀ a w, FrOk (NN i) (F i) a → Sat w0 Wr (HH i) w → wq P N body (Exit.then (fun a w => ∃ j, I j ∧ μ j < μ i ∧ FrOk (NN j) (F j) a ∧ Sat w0 Wr (HH j) w) Q) a w)
  (ha : FrOk (NN i0) (F i0) a) (hw : Sat w0 Wr (HH i0) w) : wq P N (.loop body) Q a w := fun hp => by
 have hp' : N.R.isSome = true → jH9 body = true := fun e => by simpa [jH9] using hp e
 intro b k cs hro hb hr
 have key : ∀ n i a w, μ i = n → I i → FrOk (NN i) (F i) a → Sat w0 Wr (HH i) w →
   ∃ e a' w', Q e a' w' ∧ ArrivesIn (Machine.fenced P N.fence) P (lone (b.atR a (.code body :: .inLoop body :: k)) cs w) b k cs e a' w' := by
  intro n
  induction n using Nat.strongRecOn with
  | _ n ih =>
   intro i a w hn hI ha hw
   obtain ⟨e, a₁, w₁, hq, harr⟩ := round i hI a w ha hw hp' b (.inLoop body :: k) cs hro hb hr
   cases e with
   | normal =>
    obtain ⟨j, hj, hlt, hfj, hsj⟩ := hq
    obtain ⟨e₂, a₂, w₂, hq₂, harr₂⟩ := ih (μ j) (hn ▸ hlt) j a₁ w₁ rfl hj hfj hsj
    exact ⟨e₂, a₂, w₂, hq₂, .of_steps (StepsIn.trans harr (.one (fenced_calm hb hr rfl) stepR_inLoop)) harr₂⟩
   | exit id => exact ⟨_, a₁, w₁, hq, .pass (x := .inLoop body) rfl (fun _ _ => .inl (by simp)) harr⟩
   | goto l => exact ⟨_, a₁, w₁, hq, .pass (x := .inLoop body) rfl (fun _ _ => .inl (by simp)) harr⟩
   | ret => exact ⟨_, a₁, w₁, hq, .pass (x := .inLoop body) rfl (fun _ _ => .inl (by simp)) harr⟩
   | panic ch => exact ⟨_, a₁, w₁, hq, .pass (x := .inLoop body) rfl (fun _ _ => .inl (by simp)) harr⟩
   | outgrown => exact ⟨_, a₁, w₁, hq, .pass (x := .inLoop body) rfl (fun _ _ => .inl (by simp)) harr⟩
 obtain ⟨e, a', w', hq, harr⟩ := key _ i0 a w rfl h0 ha hw
 exact ⟨e, a', w', hq, .of_steps (.one (fenced_calm hb hr rfl) stepR_loop) harr⟩
theorem vU3 {f : FuncId} {args : Array Value} {R : Ending → World → Prop} {n : Nat} (h : Calls P f args w R) : CallsIn N.fence n P f args w R := callsIn_wide.2 h
theorem yS8 {row : String} {args : Array Value} {R : Value → World → Prop} {n : Nat} (h : Rows P row args w R) : RowsIn N.fence n P row args w R := fun c cs _ => by
 obtain ⟨v, w', hR, hs⟩ := h c cs
 exact ⟨v, w', hR, stepsIn_wide.2 hs⟩
theorem yU4 {o : Oper} (hp : N.R.isSome = true → jS1 o = true) (h : o.wp P a w K (QN Q)) : o.wpIn N.fence 0 P a w K (QN Q) := by
 have hs : o.semAt N.fence.round a.eval = execOp a.eval o := by
  cases hr : N.R with
  | none => rw [show N.fence.round = none from hr]; rfl
  | some l => rw [show N.fence.round = some l from hr]; exact Oper.semAt_some l _ _ (fun c hc => by have := hp (by rw [hr]; rfl); simp [jS1, hc] at this)
 unfold Oper.wpIn
 refine ⟨fun _ _ => trivial, ?_⟩
 rw [hs]
 unfold Oper.wp at h
 generalize (execOp a.eval o).run P w = r at h ⊢
 cases r with
 | ok n w' =>
  cases n <;> simp only [Oper.upon, Oper.uponIn] at h ⊢ <;> first | exact h | exact h.elim | exact ⟨(fun e => by cases e), vU3 h⟩ | exact ⟨(fun e => by cases e), yS8 h⟩
 | halt x w' => cases x <;> simp only [Oper.upon, Oper.uponIn] at h ⊢ <;> first | exact h | exact h.elim
theorem wK6 {ops : Array Oper} : ∀ (l : List Oper) (a : Act) (w : World), (N.R.isSome = true → l.all jS1 = true) → wpList P ops (QN Q) l a w → wpListIn N.fence 0 P ops (QN Q) l a w
 | [], _, _, _, h => h
 | o :: r, a, w, hp, h => by
  have hp' : N.R.isSome = true → jS1 o = true ∧ r.all jS1 = true := fun e => by simpa using hp e
  have ih := fun a w => wK6 (ops := ops) r a w (fun e => (hp' e).2)
  simp only [wpList, wpListIn] at h ⊢
  split
  ·rename_i hw
   rw [if_pos hw] at h
   exact Oper.wpIn_mono (fun a w hh => ih a w hh) (yU4 (fun e => (hp' e).1) (h.resolve_right fun h => jV3 h.2))
  ·rename_i hw
   rw [if_neg hw] at h
   exact ⟨fun _ _ => trivial, ih _ _ h⟩
theorem yI3 {id : Nat} {l : List Oper} (h : wpList P l.toArray (QN Q) l a w) : wq P N (.region id l.toArray false) Q a w := fun hp =>
 Go.wpIn_mono (wpIn_region_lit (wK6 l a w (fun e => by simpa [jH9] using hp e) h)) (fun e a w hq => by obtain ⟨rfl, hq⟩ := hq; exact hq)
theorem vV0 {ops : Array Oper} (hp : N.R.isSome = true → ops.toList.all jS1 = true) : ∀ (n : Nat) (listed : Array Bool) (a : Act) (w : World), wpAny P .any ops (QN Q) n listed a w → wpAnyIn N.fence 0 P .any ops (QN Q) n listed a w
 | 0, _, _, _, h => h
 | n + 1, _, a, w, h => ⟨h.1, fun i hi => by
   have h2 := h.2 i hi
   unfold wpOp at h2
   unfold wpOpIn
   cases ho : ops[i]? with
   | none => simp only [ho] at h2 ⊢; exact vV0 hp n _ _ _ h2
   | some o =>
    simp only [ho] at h2 ⊢
    have hm : o ∈ ops.toList := by
     rw [Array.mem_toList_iff]
     exact Array.mem_of_getElem? ho
    split
    ·rename_i hw
     rw [if_pos hw] at h2
     exact Oper.wpIn_mono (fun a w hh => vV0 hp n _ a w hh) (yU4 (fun e => List.all_eq_true.1 (hp e) o hm) (h2.resolve_right fun h => jV3 h.2))
    ·rename_i hw
     rw [if_neg hw] at h2
     exact ⟨fun _ _ => trivial, vV0 hp n _ _ _ h2⟩⟩
theorem kJ0 {id : Nat} {ops : Array Oper} (hm : P.follows .mixedOrders = true) (h : wpAny P .any ops (QN Q) ops.size (Array.replicate ops.size false) a w.drew) : wq P N (.region id ops true) Q a w := fun hp =>
 Go.wpIn_mono (wpIn_region_any hm (vV0 (fun e => by simpa [jH9] using hp e) _ _ _ _ h)) (fun e a w hq => by obtain ⟨rfl, hq⟩ := hq; exact hq)
end
end
section
open Go.RowKit
def wrs (H : Heap) : List Nat := (H.filter Ent.wr).map Ent.g
def Enters (P : Program) (f : FuncId) : Prop := ∃ fn, P.funcs[f]? = some fn ∧ (fn.name == "runtime.NumGoroutine") = false ∧ fn.body.isNone = false
def Fn (P : Program) (f : FuncId) (args : List Value) (H : Heap) (R : Value → Heap → Prop) : Prop :=
 Enters P f ∧ ∀ w, Sat w (wrs H) H w → Calls P f args.toArray w fun e w' => ∃ v H', e = .returned v ∧ R v H' ∧ Sat w (wrs H) H' w'
def awp (P : Program) (N : Frm) (w0 : World) (Wr : List Nat) (c : Code) (fr : Fr) (H : Heap) (Q : Exit → Act → World → Prop) : Prop :=
 ∀ a w, FrOk N fr a → Sat w0 Wr H w → wq P N c Q a w
def nx (N : Frm) (w0 : World) (Wr : List Nat) (fr : Fr) (H : Heap) (Q : Exit → Act → World → Prop) (e : Exit) : Prop :=
 ∀ a w, FrOk N fr a → Sat w0 Wr H w → Q e a w
def pick (idxs : List Nat) (H : Heap) : Heap := idxs.filterMap (H[·]?)
def HLe (H' H : Heap) : Prop := ∀ w0 Wr w, Sat w0 Wr H w → Sat w0 Wr H' w
theorem HLe.refl (H : Heap) : HLe H H := fun _ _ _ h => h
abbrev hV := @HLe.refl
theorem kA4 {idxs : List Nat} {H : Heap} {e : Ent} (h : e ∈ pick idxs H) : ∃ i ∈ idxs, H[i]? = some e := by
 simpa [pick, List.mem_filterMap] using h
theorem Sep.at_ {H : Heap} (h : Sep H) {i j : Nat} {a b : Ent} (hij : i ≠ j) (hi : H[i]? = some a) (hj : H[j]? = some b) : a.apart b := by
 obtain ⟨hi1, hi2⟩ := List.getElem?_eq_some_iff.1 hi
 obtain ⟨hj1, hj2⟩ := List.getElem?_eq_some_iff.1 hj
 rcases Nat.lt_or_gt_of_ne hij with hlt | hlt
 ·have := List.pairwise_iff_getElem.1 h i j hi1 hj1 hlt
  rwa [hi2, hj2] at this
 ·have := List.pairwise_iff_getElem.1 h j i hj1 hi1 hlt
  rw [hi2, hj2] at this
  exact fun hb => (this (by rw [Bool.or_comm]; exact hb)).symm
theorem kV9 {H : Heap} (h : Sep H) : ∀ {idxs : List Nat}, idxs.Nodup → Sep (pick idxs H)
 | [], _ => qR
 | i :: r, hn => by
  have hn' := List.nodup_cons.1 hn
  have ih := kV9 h hn'.2
  unfold pick at ih ⊢
  rw [l8]
  cases hi : H[i]? with
  | none => exact ih
  | some e =>
   refine zP (fun x hx => ?_) ih
   obtain ⟨j, hj, hjx⟩ := kA4 hx
   exact h.at_ (fun e => hn'.1 (by subst e; exact hj)) hi hjx
theorem Sat.pick {w0 w : World} {Wr : List Nat} {H : Heap} (h : Sat w0 Wr H w) (idxs : List Nat) (hn : idxs.Nodup) : Sat w0 Wr (pick idxs H) w :=
 ⟨h.only, fun e he => by obtain ⟨i, _, hi⟩ := kA4 he; exact h.ents e (xN hi), kV9 h.sep hn⟩
theorem HLe.pick {H H' : Heap} (idxs : List Nat) (hn : idxs.Nodup) (he : pick idxs H = H') : HLe H' H := fun _ _ _ h => he ▸ h.pick idxs hn
theorem pH {H H' : Heap} (l : List Nat) (he : pick l H = H') (hn : l.Nodup := by simp) : HLe H' H := HLe.pick l hn he
theorem mem_wrs {H : Heap} {g : Nat} : g ∈ wrs H ↔ ∃ e ∈ H, e.wr = true ∧ e.g = g := by
 simp [wrs, zT, and_assoc]
def jQ8 (idxs : List Nat) (H : Heap) : Heap := (H.zipIdx.filter fun p => !p.1.wr || !idxs.contains p.2).map Prod.fst
theorem yD1 {idxs : List Nat} {H : Heap} {e : Ent} (h : e ∈ jQ8 idxs H) : ∃ i, H[i]? = some e ∧ (e.wr = true → i ∉ idxs) := by
 simp only [jQ8, xG, zT] at h
 obtain ⟨⟨x, i⟩, ⟨hx, hc⟩, rfl⟩ := h
 refine ⟨i, List.mem_zipIdx_iff_getElem?.1 hx, fun hw => ?_⟩
 simp only [hw, Bool.not_true, Bool.false_or, Bool.not_eq_true', List.contains_eq_mem, decide_eq_false_iff_not] at hc
 exact hc
theorem vR9 (idxs : List Nat) (H : Heap) : (jQ8 idxs H).Sublist H := by
 have : ((H.zipIdx.filter fun p => !p.1.wr || !idxs.contains p.2).map Prod.fst).Sublist (H.zipIdx.map Prod.fst) := List.Sublist.map _ List.filter_sublist
 simpa [jQ8, List.zipIdx_map_fst] using this
theorem Sat.call {w0 w w' : World} {Wr : List Nat} {H H' : Heap} {idxs : List Nat} (h : Sat w0 Wr H w) (hn : idxs.Nodup) (h' : Sat w (wrs (Go.Proofs.YteofkgedfjffcaaGreatDoor.pick idxs H)) H' w') :
  Sat w0 Wr (H'.filter Ent.wr ++ jQ8 idxs H) w' := by
 have hin : ∀ i ∈ wrs (Go.Proofs.YteofkgedfjffcaaGreatDoor.pick idxs H), i ∈ Wr ∨ w0.heap.size ≤ i := fun i hi => by
  obtain ⟨e, he, hw, rfl⟩ := mem_wrs.1 hi
  obtain ⟨j, _, hj⟩ := kA4 he
  exact (h.ents e (xN hj)).2 hw
 have hout : ∀ x ∈ jQ8 idxs H, x.g ∉ wrs (Go.Proofs.YteofkgedfjffcaaGreatDoor.pick idxs H) := fun x hx hm => by
  obtain ⟨e, he, hw, hg⟩ := mem_wrs.1 hm
  obtain ⟨j, hj, hje⟩ := kA4 he
  obtain ⟨i, hi, hiw⟩ := yD1 hx
  by_cases hij : j = i
  ·subst hij
   have : e = x := lV (hje.symm.trans hi)
   subst this
   exact hiw hw hj
  ·exact h.sep.at_ hij hje hi (by simp [hw]) hg
 have hk : ∀ x ∈ jQ8 idxs H, x ∈ H := fun x hx => (vR9 idxs H).subset hx
 refine ⟨h.only.trans h'.only hin, ?_, ?_⟩
 ·intro e he
  rcases List.mem_append.1 he with he | he
  ·have hm := h'.ents e (List.mem_filter.1 he).1
   refine ⟨hm.1, fun hw => ?_⟩
   rcases hm.2 hw with h1 | h1
   ·exact hin _ h1
   ·exact .inr (uI h.only.size h1)
  ·have hm := h.ents e (hk e he)
   exact ⟨Ent.keep hm.1 h'.only.size (h'.only.block _ (Ent.lt hm.1) (hout e he)), hm.2⟩
 ·refine List.pairwise_append.2 ⟨h'.sep.sublist List.filter_sublist, h.sep.sublist (vR9 idxs H), fun e he x hx _ => ?_⟩
  obtain ⟨he1, he2⟩ := List.mem_filter.1 he
  rcases (h'.ents e he1).2 he2 with h1 | h1
  ·exact fun hg => hout x hx (hg ▸ h1)
  ·have := Ent.lt (h.ents x (hk x hx)).1
   omega
def evs (fr : Fr) : List Operand → Option (List Value)
 | [] => some []
 | x :: r => (ev fr x).bind fun v => (evs fr r).bind fun vs => some (v :: vs)
theorem FrOk.evals {N : Frm} {fr : Fr} {a : Act} (h : FrOk N fr a) : ∀ {xs : List Operand} {vs : List Value}, evs fr xs = some vs → xs.map a.eval = vs
 | [], vs, hx => by obtain rfl := lV hx; rfl
 | x :: r, vs, hx => by
  simp only [evs] at hx
  cases h1 : ev fr x with
  | none => simp [h1] at hx
  | some v =>
   cases h2 : evs fr r with
   | none => simp [h1, h2] at hx
   | some us =>
    simp only [h1, h2, zD, qD] at hx
    subst hx
    simp [h.eval h1, h.evals h2]
section
variable {P : Program} {N : Frm} {w0 : World} {Wr : List Nat} {ops : Array Oper} {rest : List Oper} {fr : Fr} {H : Heap} {Z : Fr → Heap → Prop} {Q : Exit → Act → World → Prop}
variable {d ty : Nat} {pos : String} {after : Array Edge}
theorem vQ2 {f : FuncId} {vs : List Value} (hE : Enters P f) {xs : List Operand} {ts : Array TypeId} {ρ : Operand → Value} (hx : xs.map ρ = vs) (hf : ρ (.func f) = .func (.func f) #[] #[]) {dst : Option Nat} {w : World} :
  (execOp ρ ⟨dst, .call { callee := .value (.func f), args := xs.toArray, argTypes := ts }, ty, pos, after, none⟩).run P w = .ok (.enter f vs.toArray) w := by
 obtain ⟨fn, h1, h2, h3⟩ := hE
 subst hx
 have h2' : ¬ (fn.name = "runtime.NumGoroutine") := by simpa using h2
 have h3' : ¬ (fn.body = none) := by intro e; rw [e] at h3; cases h3
 simp [execOp, resolve, hf, Deferred.ofValue, invoke, callFunc, h1, h2', h3', program, lJ, l7, Sem.run]
def dstB (N : Frm) : Option Nat → Bool
 | some d => Nat.ble (d + 1) N.n
 | none => true
theorem jN9 {f : FuncId} {xs : List Operand} {vs : List Value} {ts : Array TypeId} {dst : Option Nat} {R : Value → Heap → Prop} (hE : Enters P f) (hx : evs fr xs = some vs) (hN : dstB N dst = true)
  (hc : ∀ w, Sat w0 Wr H w → Calls P f vs.toArray w fun e w' => ∃ v H', e = .returned v ∧ R v H' ∧ Sat w0 Wr H' w')
  (h : ∀ v H', R v H' → sx P N w0 Wr ops rest (match dst with | some d => (d, v) :: fr | none => fr) H' Z) :
  sx P N w0 Wr ops (⟨dst, .call { callee := .value (.func f), args := xs.toArray, argTypes := ts }, ty, pos, after, none⟩ :: rest) fr H Z :=
 vB3 rfl fun a w K Q ha hw hK => by
  unfold Oper.wp
  rw [vQ2 hE (ha.evals hx) rfl]
  refine (hc w hw).mono fun e w' he => ?_
  obtain ⟨v, H', rfl, hR, hS⟩ := he
  cases dst with
  | none => exact hK v w' fr H' (h v H' hR) (ha.skip _) hS
  | some d => exact hK v w' _ H' (h v H' hR) (ha.put hN v) hS
theorem wY6 {f : FuncId} {xs : List Operand} {vs : List Value} {ts : Array TypeId} {v : Value} (hE : Enters P f) (hx : evs fr xs = some vs) (hN : bN d N)
  (hc : ∀ w, Sat w0 Wr H w → Calls P f vs.toArray w fun e w' => e = .returned v ∧ Bel w w')
  (h : sx P N w0 Wr ops rest ((d, v) :: fr) H Z) :
  sx P N w0 Wr ops (⟨some d, .call { callee := .value (.func f), args := xs.toArray, argTypes := ts }, ty, pos, after, none⟩ :: rest) fr H Z :=
 jN9 (R := fun u H' => u = v ∧ H' = H) hE hx hN (fun w hw => (hc w hw).mono fun e w' he => ⟨v, H, he.1, ⟨rfl, rfl⟩, hw.bel he.2⟩) (fun u H' hR => by obtain ⟨rfl, rfl⟩ := hR; exact h)
theorem yQ6 {f : FuncId} {xs : List Operand} {vs : List Value} {ts : Array TypeId} {dst : Option Nat} {Hc : Heap} {R : Value → Heap → Prop} (idxs : List Nat) (hc : Fn P f vs Hc R) (hx : evs fr xs = some vs) (hp : pick idxs H = Hc) (hn : idxs.Nodup) (hN : dstB N dst = true)
  (h : ∀ v H', R v H' → sx P N w0 Wr ops rest (match dst with | some d => (d, v) :: fr | none => fr) (H'.filter Ent.wr ++ jQ8 idxs H) Z) :
  sx P N w0 Wr ops (⟨dst, .call { callee := .value (.func f), args := xs.toArray, argTypes := ts }, ty, pos, after, none⟩ :: rest) fr H Z :=
 jN9 (R := fun v H2 => ∃ H', R v H' ∧ H2 = H'.filter Ent.wr ++ jQ8 idxs H) hc.1 hx hN (fun w hw => by
  subst hp
  have hw' := hw.pick idxs hn
  have hpre : Sat w (wrs (pick idxs H)) (pick idxs H) w := ⟨Only.refl _ _, fun e he => ⟨(hw'.ents e he).1, fun h => .inl (mem_wrs.2 ⟨e, he, h, rfl⟩)⟩, hw'.sep⟩
  exact (hc.2 w hpre).mono fun e w' he => by
   obtain ⟨v, H', h1, h2, h3⟩ := he
   exact ⟨v, _, h1, ⟨H', h2, rfl⟩, hw.call hn h3⟩) (fun v H2 hR => by obtain ⟨H', hR, rfl⟩ := hR; exact h v H' hR)
theorem Sat.callK {w w' : World} {H' : Heap} {idxs ks : List Nat} (h : Sat w0 Wr H w) (hn : (idxs ++ ks).Nodup) (h' : Sat w (wrs (Go.Proofs.YteofkgedfjffcaaGreatDoor.pick idxs H)) H' w') :
  Sat w0 Wr (H'.filter Ent.wr ++ Go.Proofs.YteofkgedfjffcaaGreatDoor.pick ks H) w' := by
 have hn' := List.nodup_append.1 hn
 have hc := h.call hn'.1 h'
 have hin : ∀ x ∈ Go.Proofs.YteofkgedfjffcaaGreatDoor.pick ks H, x ∈ jQ8 idxs H := fun x hx => by
  obtain ⟨i, hi, hix⟩ := kA4 hx
  simp only [jQ8, xG, zT]
  refine ⟨(x, i), ⟨List.mem_zipIdx_iff_getElem?.2 hix, ?_⟩, rfl⟩
  have : i ∉ idxs := fun hm => hn'.2.2 i hm i hi rfl
  simp [this]
 have hp := List.pairwise_append.1 hc.sep
 refine ⟨hc.only, fun e he => ?_, List.pairwise_append.2 ⟨hp.1, kV9 h.sep hn'.2.1, fun a ha b hb => hp.2.2 a ha b (hin b hb)⟩⟩
 rcases List.mem_append.1 he with he | he
 ·exact hc.ents e (xI _ he)
 ·exact hc.ents e (x7 _ (hin e he))
theorem jD2 {f : FuncId} {xs : List Operand} {vs : List Value} {ts : Array TypeId} {dst : Option Nat} {Hc : Heap} {R : Value → Heap → Prop} (idxs ks : List Nat) (hc : Fn P f vs Hc R) (hx : evs fr xs = some vs) (hp : pick idxs H = Hc) (hn : (idxs ++ ks).Nodup) (hN : dstB N dst = true)
  (h : ∀ v H', R v H' → sx P N w0 Wr ops rest (match dst with | some d => (d, v) :: fr | none => fr) (H'.filter Ent.wr ++ pick ks H) Z) :
  sx P N w0 Wr ops (⟨dst, .call { callee := .value (.func f), args := xs.toArray, argTypes := ts }, ty, pos, after, none⟩ :: rest) fr H Z :=
 jN9 (R := fun v H2 => ∃ H', R v H' ∧ H2 = H'.filter Ent.wr ++ pick ks H) hc.1 hx hN (fun w hw => by
  subst hp
  have hw' := hw.pick idxs (List.nodup_append.1 hn).1
  have hpre : Sat w (wrs (pick idxs H)) (pick idxs H) w := ⟨Only.refl _ _, fun e he => ⟨(hw'.ents e he).1, fun h => .inl (mem_wrs.2 ⟨e, he, h, rfl⟩)⟩, hw'.sep⟩
  exact (hc.2 w hpre).mono fun e w' he => by
   obtain ⟨v, H', h1, h2, h3⟩ := he
   exact ⟨v, _, h1, ⟨H', h2, rfl⟩, hw.callK hn h3⟩) (fun v H2 hR => by obtain ⟨H', hR, rfl⟩ := hR; exact h v H' hR)
theorem yQ4 {l : List Oper} {H' : Heap} (e : H = H') (h : sx P N w0 Wr ops l fr H' Z) : sx P N w0 Wr ops l fr H Z := e ▸ h
theorem jD1 {l : List Oper} {H' : Heap} (h : sx P N w0 Wr ops l fr H' Z) (e : H = H' := by first | (simp only [qS, xL, xQ, Ent.wr, if_true, pick, l8]; first | done | rfl) | rfl) : sx P N w0 Wr ops l fr H Z := yQ4 e h
theorem yD0 (H : Heap) : jQ8 [] H = H := by
 have : (H.zipIdx.filter fun p => !p.1.wr || !([] : List Nat).contains p.2) = H.zipIdx := List.filter_eq_self.2 (fun p _ => by simp)
 unfold jQ8
 rw [this, List.zipIdx_map_fst]
theorem sCP {f : FuncId} {xs : List Operand} {vs : List Value} {ts : Array TypeId} {v : Value} (hc : Fn P f vs [] fun u _ => u = v) (hx : evs fr xs = some vs) (hN : bN d N)
  (h : sx P N w0 Wr ops rest ((d, v) :: fr) H Z) :
  sx P N w0 Wr ops (⟨some d, .call { callee := .value (.func f), args := xs.toArray, argTypes := ts }, ty, pos, after, none⟩ :: rest) fr H Z :=
 yQ6 [] hc hx rfl List.nodup_nil hN fun u H' hu => by
  subst hu
  rw [yD0]
  exact yQ5 H (lX _ _) h
theorem sCP0 {f : FuncId} {xs : List Operand} {vs : List Value} {ts : Array TypeId} {v : Value} (hc : Fn P f vs [] fun u _ => u = v) (h : sx P N w0 Wr ops rest ((d, v) :: fr) H Z) (hx : evs fr xs = some vs := by exact rfl) (hN : bN d N := by exact rfl) :
  sx P N w0 Wr ops (⟨some d, .call { callee := .value (.func f), args := xs.toArray, argTypes := ts }, ty, pos, after, none⟩ :: rest) fr H Z := sCP hc hx hN h
end
section
variable {P : Program} {N : Frm} {w0 : World} {Wr : List Nat} {fr : Fr} {H : Heap} {Q : Exit → Act → World → Prop}
theorem aG {id : Nat} {l : List Oper} (h : ∀ Z : Fr → Heap → Prop, (∀ fr H, nx N w0 Wr fr H Q .normal → Z fr H) → sx P N w0 Wr l.toArray l fr H Z) : awp P N w0 Wr (.region id l.toArray false) fr H Q :=
 fun a w ha hw => yI3 (h (fun fr H => nx N w0 Wr fr H Q .normal) (fun _ _ h => h) (QN Q) (fun fr' H' a w hz hf hs => ⟨rfl, hz a w hf hs⟩) a w ha hw)
theorem aS {x y : Code} (h : awp P N w0 Wr x fr H (Exit.then (wq P N y Q) Q)) : awp P N w0 Wr (.seq x y) fr H Q := fun a w ha hw => zC9 (h a w ha hw)
theorem aR {id : Nat} {l : List Oper} {y : Code} (h : ∀ Z : Fr → Heap → Prop, (∀ fr H, awp P N w0 Wr y fr H Q → Z fr H) → sx P N w0 Wr l.toArray l fr H Z) : awp P N w0 Wr (.seq (.region id l.toArray false) y) fr H Q :=
 aS (aG fun Z hZ => h Z fun fr H hy => hZ fr H hy)
theorem aC {c : Operand} {x y : Code} {b : Bool} (hc : ev fr c = some (.bool b)) (ht : b = true → awp P N w0 Wr x fr H Q) (hf : b = false → awp P N w0 Wr y fr H Q) : awp P N w0 Wr (.cond c x y) fr H Q :=
 fun a w ha hw => kT0 (ha.eval hc) (fun h => ht h a w ha hw) (fun h => hf h a w ha hw)
theorem aC0 {c : Operand} {x y : Code} {b : Bool} (ht : b = true → awp P N w0 Wr x fr H Q) (hf : b = false → awp P N w0 Wr y fr H Q) (hc : ev fr c = some (.bool b) := by exact rfl) : awp P N w0 Wr (.cond c x y) fr H Q := aC hc ht hf
theorem aB {id : Nat} {c : Code} (h : awp P N w0 Wr c fr H (Exit.inBlock id Q)) : awp P N w0 Wr (.block id c) fr H Q := fun a w ha hw => wW4 (h a w ha hw)
theorem jB5 {id : Nat} (h : nx N w0 Wr fr H Q (.exit id)) : awp P N w0 Wr (.exit id) fr H Q := fun a w ha hw => yO1 (h a w ha hw)
theorem aE (h : nx N w0 Wr fr H Q .ret) : awp P N w0 Wr .ret fr H Q := fun a w ha hw => zD0 (h a w ha hw)
theorem aK (h : nx N w0 Wr fr H Q .normal) : awp P N w0 Wr .skip fr H Q := fun a w ha hw => yN9 (h a w ha hw)
theorem aF {c : Code} (fr' : Fr) (hk : Kn fr' fr) (h : awp P N w0 Wr c fr' H Q) : awp P N w0 Wr c fr H Q := fun a w ha hw => h a w (ha.kn hk) hw
theorem f1K (i0 : Nat) {v0 : Value} {c : Code} (h : [lk fr i0] = [some v0]) (k : awp P N w0 Wr c [(i0, v0)] H Q) : awp P N w0 Wr c fr H Q := aF [(i0, v0)] (kR h) k
theorem f2K (i0 i1 : Nat) {v0 v1 : Value} {c : Code} (h : [lk fr i0, lk fr i1] = [some v0, some v1]) (k : awp P N w0 Wr c [(i0, v0), (i1, v1)] H Q) : awp P N w0 Wr c fr H Q := aF [(i0, v0), (i1, v1)] (kR h) k
theorem f3K (i0 i1 i2 : Nat) {v0 v1 v2 : Value} {c : Code} (h : [lk fr i0, lk fr i1, lk fr i2] = [some v0, some v1, some v2]) (k : awp P N w0 Wr c [(i0, v0), (i1, v1), (i2, v2)] H Q) : awp P N w0 Wr c fr H Q := aF [(i0, v0), (i1, v1), (i2, v2)] (kR h) k
theorem f4K (i0 i1 i2 i3 : Nat) {v0 v1 v2 v3 : Value} {c : Code} (h : [lk fr i0, lk fr i1, lk fr i2, lk fr i3] = [some v0, some v1, some v2, some v3]) (k : awp P N w0 Wr c [(i0, v0), (i1, v1), (i2, v2), (i3, v3)] H Q) : awp P N w0 Wr c fr H Q := aF [(i0, v0), (i1, v1), (i2, v2), (i3, v3)] (kR h) k
theorem f5K (i0 i1 i2 i3 i4 : Nat) {v0 v1 v2 v3 v4 : Value} {c : Code} (h : [lk fr i0, lk fr i1, lk fr i2, lk fr i3, lk fr i4] = [some v0, some v1, some v2, some v3, some v4]) (k : awp P N w0 Wr c [(i0, v0), (i1, v1), (i2, v2), (i3, v3), (i4, v4)] H Q) : awp P N w0 Wr c fr H Q := aF [(i0, v0), (i1, v1), (i2, v2), (i3, v3), (i4, v4)] (kR h) k
theorem f6K (i0 i1 i2 i3 i4 i5 : Nat) {v0 v1 v2 v3 v4 v5 : Value} {c : Code} (h : [lk fr i0, lk fr i1, lk fr i2, lk fr i3, lk fr i4, lk fr i5] = [some v0, some v1, some v2, some v3, some v4, some v5]) (k : awp P N w0 Wr c [(i0, v0), (i1, v1), (i2, v2), (i3, v3), (i4, v4), (i5, v5)] H Q) : awp P N w0 Wr c fr H Q := aF [(i0, v0), (i1, v1), (i2, v2), (i3, v3), (i4, v4), (i5, v5)] (kR h) k
theorem f7K (i0 i1 i2 i3 i4 i5 i6 : Nat) {v0 v1 v2 v3 v4 v5 v6 : Value} {c : Code} (h : [lk fr i0, lk fr i1, lk fr i2, lk fr i3, lk fr i4, lk fr i5, lk fr i6] = [some v0, some v1, some v2, some v3, some v4, some v5, some v6]) (k : awp P N w0 Wr c [(i0, v0), (i1, v1), (i2, v2), (i3, v3), (i4, v4), (i5, v5), (i6, v6)] H Q) : awp P N w0 Wr c fr H Q := aF [(i0, v0), (i1, v1), (i2, v2), (i3, v3), (i4, v4), (i5, v5), (i6, v6)] (kR h) k
theorem f8K (i0 i1 i2 i3 i4 i5 i6 i7 : Nat) {v0 v1 v2 v3 v4 v5 v6 v7 : Value} {c : Code} (h : [lk fr i0, lk fr i1, lk fr i2, lk fr i3, lk fr i4, lk fr i5, lk fr i6, lk fr i7] = [some v0, some v1, some v2, some v3, some v4, some v5, some v6, some v7]) (k : awp P N w0 Wr c [(i0, v0), (i1, v1), (i2, v2), (i3, v3), (i4, v4), (i5, v5), (i6, v6), (i7, v7)] H Q) : awp P N w0 Wr c fr H Q := aF [(i0, v0), (i1, v1), (i2, v2), (i3, v3), (i4, v4), (i5, v5), (i6, v6), (i7, v7)] (kR h) k
theorem f9K (i0 i1 i2 i3 i4 i5 i6 i7 i8 : Nat) {v0 v1 v2 v3 v4 v5 v6 v7 v8 : Value} {c : Code} (h : [lk fr i0, lk fr i1, lk fr i2, lk fr i3, lk fr i4, lk fr i5, lk fr i6, lk fr i7, lk fr i8] = [some v0, some v1, some v2, some v3, some v4, some v5, some v6, some v7, some v8]) (k : awp P N w0 Wr c [(i0, v0), (i1, v1), (i2, v2), (i3, v3), (i4, v4), (i5, v5), (i6, v6), (i7, v7), (i8, v8)] H Q) : awp P N w0 Wr c fr H Q := aF [(i0, v0), (i1, v1), (i2, v2), (i3, v3), (i4, v4), (i5, v5), (i6, v6), (i7, v7), (i8, v8)] (kR h) k
theorem f10K (i0 i1 i2 i3 i4 i5 i6 i7 i8 i9 : Nat) {v0 v1 v2 v3 v4 v5 v6 v7 v8 v9 : Value} {c : Code} (h : [lk fr i0, lk fr i1, lk fr i2, lk fr i3, lk fr i4, lk fr i5, lk fr i6, lk fr i7, lk fr i8, lk fr i9] = [some v0, some v1, some v2, some v3, some v4, some v5, some v6, some v7, some v8, some v9]) (k : awp P N w0 Wr c [(i0, v0), (i1, v1), (i2, v2), (i3, v3), (i4, v4), (i5, v5), (i6, v6), (i7, v7), (i8, v8), (i9, v9)] H Q) : awp P N w0 Wr c fr H Q := aF [(i0, v0), (i1, v1), (i2, v2), (i3, v3), (i4, v4), (i5, v5), (i6, v6), (i7, v7), (i8, v8), (i9, v9)] (kR h) k
theorem f11K (i0 i1 i2 i3 i4 i5 i6 i7 i8 i9 i10 : Nat) {v0 v1 v2 v3 v4 v5 v6 v7 v8 v9 v10 : Value} {c : Code} (h : [lk fr i0, lk fr i1, lk fr i2, lk fr i3, lk fr i4, lk fr i5, lk fr i6, lk fr i7, lk fr i8, lk fr i9, lk fr i10] = [some v0, some v1, some v2, some v3, some v4, some v5, some v6, some v7, some v8, some v9, some v10]) (k : awp P N w0 Wr c [(i0, v0), (i1, v1), (i2, v2), (i3, v3), (i4, v4), (i5, v5), (i6, v6), (i7, v7), (i8, v8), (i9, v9), (i10, v10)] H Q) : awp P N w0 Wr c fr H Q := aF [(i0, v0), (i1, v1), (i2, v2), (i3, v3), (i4, v4), (i5, v5), (i6, v6), (i7, v7), (i8, v8), (i9, v9), (i10, v10)] (kR h) k
theorem f12K (i0 i1 i2 i3 i4 i5 i6 i7 i8 i9 i10 i11 : Nat) {v0 v1 v2 v3 v4 v5 v6 v7 v8 v9 v10 v11 : Value} {c : Code} (h : [lk fr i0, lk fr i1, lk fr i2, lk fr i3, lk fr i4, lk fr i5, lk fr i6, lk fr i7, lk fr i8, lk fr i9, lk fr i10, lk fr i11] = [some v0, some v1, some v2, some v3, some v4, some v5, some v6, some v7, some v8, some v9, some v10, some v11]) (k : awp P N w0 Wr c [(i0, v0), (i1, v1), (i2, v2), (i3, v3), (i4, v4), (i5, v5), (i6, v6), (i7, v7), (i8, v8), (i9, v9), (i10, v10), (i11, v11)] H Q) : awp P N w0 Wr c fr H Q := aF [(i0, v0), (i1, v1), (i2, v2), (i3, v3), (i4, v4), (i5, v5), (i6, v6), (i7, v7), (i8, v8), (i9, v9), (i10, v10), (i11, v11)] (kR h) k
theorem jA7 {c : Code} (H' : Heap) (hk : HLe H' H) (h : awp P N w0 Wr c fr H' Q) : awp P N w0 Wr c fr H Q := fun a w ha hw => h a w ha (hk _ _ _ hw)
theorem nF {e : Exit} (fr' : Fr) (hk : Kn fr' fr) (h : nx N w0 Wr fr' H Q e) : nx N w0 Wr fr H Q e := fun a w ha hw => h a w (ha.kn hk) hw
theorem nN {y : Code} (h : awp P N w0 Wr y fr H Q) : nx N w0 Wr fr H (Exit.then (wq P N y Q) Q) .normal := h
theorem nTR {K : Act → World → Prop} (h : nx N w0 Wr fr H Q .ret) : nx N w0 Wr fr H (Exit.then K Q) .ret := h
theorem nTE {K : Act → World → Prop} {i : Nat} (h : nx N w0 Wr fr H Q (.exit i)) : nx N w0 Wr fr H (Exit.then K Q) (.exit i) := h
theorem nBR {id : Nat} (h : nx N w0 Wr fr H Q .ret) : nx N w0 Wr fr H (Exit.inBlock id Q) .ret := h
theorem nBN {id : Nat} (h : nx N w0 Wr fr H Q .normal) : nx N w0 Wr fr H (Exit.inBlock id Q) .normal := h
theorem nBE {id : Nat} (h : nx N w0 Wr fr H Q .normal) : nx N w0 Wr fr H (Exit.inBlock id Q) (.exit id) := fun a w ha hw => by
 simp only [Exit.inBlock, if_true]; exact h a w ha hw
theorem jI5 {id i : Nat} (hi : Nat.beq i id = false) (h : nx N w0 Wr fr H Q (.exit i)) : nx N w0 Wr fr H (Exit.inBlock id Q) (.exit i) := fun a w ha hw => by
 have hne : ¬ i = id := fun e => by subst e; rw [Nat.beq_refl] at hi; cases hi
 simp only [Exit.inBlock, hne, if_false]; exact h a w ha hw
theorem jC3 {body : Code} {ι : Type} (F : ι → Fr) (HH : ι → Heap) (I : ι → Prop) (μ : ι → Nat) (i0 : ι) (h0 : I i0) (hF : Kn (F i0) fr) (hH : HLe (HH i0) H)
  (round : ∀ i, I i → awp P N w0 Wr body (F i) (HH i) (Exit.then (fun a w => ∃ j, I j ∧ μ j < μ i ∧ FrOk N (F j) a ∧ Sat w0 Wr (HH j) w) Q)) : awp P N w0 Wr (.loop body) fr H Q :=
 fun a w ha hw => yO0 (fun _ => N) F HH I μ i0 h0 (fun i hI a w hf hs => round i hI a w hf hs) (ha.kn hF) (hH _ _ _ hw)
theorem jC2 {ι : Type} {F : ι → Fr} {HH : ι → Heap} {I : ι → Prop} {μ : ι → Nat} {i : ι} (j : ι) (hI : I j) (hμ : μ j < μ i) (hF : Kn (F j) fr) (hH : HLe (HH j) H) :
  nx N w0 Wr fr H (Exit.then (fun a w => ∃ j, I j ∧ μ j < μ i ∧ FrOk N (F j) a ∧ Sat w0 Wr (HH j) w) Q) .normal :=
 fun a w ha hw => ⟨j, hI, hμ, ha.kn hF, hH _ _ _ hw⟩
theorem kN5 {x y : Code} {ι : Type} (F : ι → Fr) (HH : ι → Heap) (I : ι → Prop)
  (hx : awp P N w0 Wr x fr H (Exit.then (fun a w => ∃ j, I j ∧ FrOk N (F j) a ∧ Sat w0 Wr (HH j) w) Q)) (hy : ∀ j, I j → awp P N w0 Wr y (F j) (HH j) Q) : awp P N w0 Wr (.seq x y) fr H Q :=
 aS fun a w ha hw => kS9 (fun e a w h => by
  cases e <;> first | exact h | (obtain ⟨j, hj, h1, h2⟩ := h; exact hy j hj a w h1 h2)) (hx a w ha hw)
theorem jJ9 {ι : Type} {F : ι → Fr} {HH : ι → Heap} {I : ι → Prop} (j : ι) (hI : I j) (hF : Kn (F j) fr) (hH : HLe (HH j) H) :
  nx N w0 Wr fr H (Exit.then (fun a w => ∃ j, I j ∧ FrOk N (F j) a ∧ Sat w0 Wr (HH j) w) Q) .normal :=
 fun a w ha hw => ⟨j, hI, ha.kn hF, hH _ _ _ hw⟩
def kN0 : Nat → List Value → Fr
 | _, [] => []
 | i, v :: r => (i, v) :: kN0 (i + 1) r
theorem kX8 : ∀ (vs : List Value) (i t : Nat) (v : Value), lk (kN0 i vs) t = some v → ∃ k, t = i + k ∧ vs[k]? = some v
 | [], _, _, _, h => by cases h
 | u :: r, i, t, v, h => by
  simp only [kN0, lk] at h
  cases hb : Nat.beq i t with
  | true => rw [hb] at h; exact ⟨0, (x6 hb).symm, h⟩
  | false =>
   rw [hb] at h
   obtain ⟨k, hk, hv⟩ := kX8 r (i + 1) t v h
   exact ⟨k + 1, by omega, by simpa using hv⟩
def jN7 (w0 : World) (Wr : List Nat) (R : Value → Heap → Prop) (e : Ending) (w' : World) : Prop := ∃ v H', e = .returned v ∧ R v H' ∧ Sat w0 Wr H' w'
theorem Fn.enter {N : Nat} {f : FuncId} {fn : Func} {c : Code} {args : List Value} {R : Value → Heap → Prop} (hf : P.funcs[f]? = some fn) (hb : fn.body = some c) (hn : (fn.name == "runtime.NumGoroutine") = false) (hN : args.length + (fn.ntmps - args.length) = N)
  (h : ∀ w0, awp P ⟨N, none, []⟩ w0 (wrs H) c (kN0 0 args) H (bodyPost P fn (jN7 w0 (wrs H) R))) : Fn P f args H R := by
 refine ⟨⟨fn, hf, hn, by simp [hb]⟩, fun w hw => calls_of_wp hf hb (kS8 (h w _ w ⟨?_, rfl, ?_⟩ hw))⟩
 ·simp [← hN]
 ·intro t v ht
  obtain ⟨k, rfl, hk⟩ := kX8 args 0 t v ht
  have hl : k < args.length := (List.getElem?_eq_some_iff.1 hk).1
  simp only [lA]
  rw [Array.getElem?_append_left (by simpa using hl)]
  simpa using hk
theorem fE (N : Nat) {f : FuncId} {fn : Func} {c : Code} {args : List Value} {R : Value → Heap → Prop} (hf : P.funcs[f]? = some fn) (hb : fn.body = some c) (h : ∀ w0, awp P ⟨N, none, []⟩ w0 (wrs H) c (kN0 0 args) H (bodyPost P fn (jN7 w0 (wrs H) R))) (hn : (fn.name == "runtime.NumGoroutine") = false := by kernel_rfl) (hN : args.length + (fn.ntmps - args.length) = N := by exact rfl) : Fn P f args H R := Fn.enter hf hb hn hN h
def ResOk (P : Program) (fr : Fr) (H : Heap) : ResultVar → Value → Prop
 | .tmp t, v => lk fr t = some v
 | .cell a t, v => ∃ (i g o : Nat) (e : TypeId) (cs : List Value) (agg : Bool) (n : Nat), lk fr a = some (ptr g o) ∧ H[i]? = some (Ent.own g e cs) ∧ tyAgg P t = some agg ∧ tySize P t = some n ∧ rdV agg n cs o = some v
theorem ResOk.cell {a t : Nat} (i : Nat) {g o : Nat} {e : TypeId} {cs : List Value} {agg : Bool} {n : Nat} {v : Value} (h1 : lk fr a = some (ptr g o)) (h2 : H[i]? = some (.own g e cs)) (h3 : tyAgg P t = some agg) (h4 : tySize P t = some n) (h5 : rdV agg n cs o = some v) : ResOk P fr H (.cell a t) v :=
 ⟨i, g, o, e, cs, agg, n, h1, h2, h3, h4, h5⟩
abbrev kH := @ResOk.cell
theorem ResOk.run {r : ResultVar} {v : Value} {a : Act} {w : World} (h : ResOk P fr H r v) (ha : FrOk N fr a) (hw : Sat w0 Wr H w) :
  (match r with | .tmp t => (pure (a.tmps.getD t undef) : Sem Value) | .cell b t => do loadVar t (← asAddr (a.tmps.getD b undef))).run P w = .ok v w := by
 cases r with
 | tmp t =>
  have := ha.at_ t v h
  simp [zC, this]
 | cell b t =>
  obtain ⟨i, g, o, e, cs, agg, n, h1, h2, h3, h4, h5⟩ := h
  have hb := ha.at_ b _ h1
  have hc := Ent.cell (hw.mem h2)
  simp only [zC, hb, Option.getD_some, ptr, asAddr, lJ, l7, lR]
  exact jP2 h3 h4 h5 (fun j u hu => (hc j).trans hu)
variable {n : Nat} {ro : Option Nat}
def yJ5 (tmps : Array Value) : ResultVar → Sem Value
 | .tmp t => pure (tmps.getD t undef)
 | .cell a t => do loadVar t (← asAddr (tmps.getD a undef))
theorem ResOk.run' {r : ResultVar} {v : Value} {a : Act} {w : World} (h : ResOk P fr H r v) (ha : FrOk N fr a) (hw : Sat w0 Wr H w) : (yJ5 a.tmps r).run P w = .ok v w := by
 have := h.run ha hw
 cases r <;> exact this
theorem jM1 (fn : Func) (tmps : Array Value) : results fn tmps = (do let vs ← fn.results.mapM (yJ5 tmps); pure (if h : vs.size = 1 then vs[0] else .tuple vs)) := by
 unfold results
 congr 1
theorem yU7 {fn : Func} {R : Value → Heap → Prop} (hr : fn.results = #[]) (hR : R (.tuple #[]) H) : nx ⟨n, ro, []⟩ w0 Wr fr H (bodyPost P fn (jN7 w0 Wr R)) .normal :=
 fun a w ha hw => ⟨ha.defers, _, results_none hr _ _ _, _, H, rfl, hR, hw⟩
theorem nR1 {fn : Func} {R : Value → Heap → Prop} {r : ResultVar} {v : Value} (hr : fn.results = #[r]) (h1 : ResOk P fr H r v) (hR : R v H) : nx ⟨n, ro, []⟩ w0 Wr fr H (bodyPost P fn (jN7 w0 Wr R)) .ret :=
 fun a w ha hw => ⟨ha.defers, v, by
  have := h1.run' ha hw
  rw [jM1]
  simp [hr, this], v, H, rfl, hR, hw⟩
theorem nR10 {fn : Func} {R : Value → Heap → Prop} {r : ResultVar} {v : Value} (hR : R v H) (hr : fn.results = #[r] := by exact rfl) (h1 : ResOk P fr H r v := by exact rfl) : nx ⟨n, ro, []⟩ w0 Wr fr H (bodyPost P fn (jN7 w0 Wr R)) .ret := nR1 hr h1 hR
theorem jF3 {fn : Func} {R : Value → Heap → Prop} {r s : ResultVar} {v u : Value} (hr : fn.results = #[r, s]) (h1 : ResOk P fr H r v) (h2 : ResOk P fr H s u) (hR : R (.tuple #[v, u]) H) : nx ⟨n, ro, []⟩ w0 Wr fr H (bodyPost P fn (jN7 w0 Wr R)) .ret :=
 fun a w ha hw => ⟨ha.defers, _, by
  have e1 := h1.run' ha hw
  have e2 := h2.run' ha hw
  rw [jM1]
  simp [hr, lJ, e1, e2], _, H, rfl, hR, hw⟩
theorem kA7 {fn : Func} {R : Value → Heap → Prop} (HH : Heap) (hr : fn.results = #[]) (hk : HLe HH H) (hR : R (.tuple #[]) HH) : nx ⟨n, ro, []⟩ w0 Wr fr H (bodyPost P fn (jN7 w0 Wr R)) .ret :=
 fun a w ha hw => ⟨ha.defers, _, results_none hr _ _ _, _, HH, rfl, hR, hk _ _ _ hw⟩
theorem jM8 {fn : Func} {R : Value → Heap → Prop} (HH : Heap) (hr : fn.results = #[]) (hk : HLe HH H) (hR : R (.tuple #[]) HH) : nx ⟨n, ro, []⟩ w0 Wr fr H (bodyPost P fn (jN7 w0 Wr R)) .normal :=
 fun a w ha hw => ⟨ha.defers, _, results_none hr _ _ _, _, HH, rfl, hR, hk _ _ _ hw⟩
theorem jD9 {fn : Func} {R : Value → Heap → Prop} {r : ResultVar} {v : Value} (HH : Heap) (hr : fn.results = #[r]) (h1 : ResOk P fr H r v) (hk : HLe HH H) (hR : R v HH) : nx ⟨n, ro, []⟩ w0 Wr fr H (bodyPost P fn (jN7 w0 Wr R)) .ret :=
 fun a w ha hw => ⟨ha.defers, v, by
  have := h1.run' ha hw
  rw [jM1]
  simp [hr, this], v, HH, rfl, hR, hk _ _ _ hw⟩
theorem jD8 {fn : Func} {R : Value → Heap → Prop} {r s : ResultVar} {v u : Value} (HH : Heap) (hr : fn.results = #[r, s]) (h1 : ResOk P fr H r v) (h2 : ResOk P fr H s u) (hk : HLe HH H) (hR : R (.tuple #[v, u]) HH) : nx ⟨n, ro, []⟩ w0 Wr fr H (bodyPost P fn (jN7 w0 Wr R)) .ret :=
 fun a w ha hw => ⟨ha.defers, _, by
  have e1 := h1.run' ha hw
  have e2 := h2.run' ha hw
  rw [jM1]
  simp [hr, lJ, e1, e2], _, HH, rfl, hR, hk _ _ _ hw⟩
theorem jN6 {fn : Func} {R : Value → Heap → Prop} {r s t : ResultVar} {v u x : Value} (hr : fn.results = #[r, s, t]) (h1 : ResOk P fr H r v) (h2 : ResOk P fr H s u) (h3 : ResOk P fr H t x) (hR : R (.tuple #[v, u, x]) H) : nx ⟨n, ro, []⟩ w0 Wr fr H (bodyPost P fn (jN7 w0 Wr R)) .ret :=
 fun a w ha hw => ⟨ha.defers, _, by
  have e1 := h1.run' ha hw
  have e2 := h2.run' ha hw
  have e3 := h3.run' ha hw
  rw [jM1]
  simp [hr, lJ, e1, e2, e3], _, H, rfl, hR, hw⟩
end
end
section
open Go.RowKit
def kE4 : (Nat → Option (Nat × Nat)) → List Value → List (Nat × List Value) → Option (List Value)
 | _, cells, [] => some cells
 | place, cells, (i, v) :: rest =>
  match place i with
  | none => none
  | some (off, size) => bif Nat.beq v.length size && Nat.ble (off + v.length) cells.length then kE4 place (wrV cells off v) rest else none
section
variable {P : Program} {N : Frm} {w0 : World} {Wr : List Nat} {ops : Array Oper} {rest : List Oper} {fr : Fr} {H : Heap} {Z : Fr → Heap → Prop}
variable {d ty : Nat} {pos : String} {after : Array Edge}
theorem jM0 {op : BinOp} {t t' : TypeId} {x y : Operand} {k : IntKind} {m n : Int} (v : Value) (hx : ev fr x = some (.int k m)) (hy : ev fr y = some (.int k n)) (hv : ∀ w, (binOp op t (.int k m) (.int k n)).run P w = .ok v w) (hN : bN d N)
  (h : sx P N w0 Wr ops rest ((d, v) :: fr) H Z) : sx P N w0 Wr ops (⟨some d, .binOp op t x y t', ty, pos, after, none⟩ :: rest) fr H Z :=
 jE4 v hN (fun a w ha _ => by
  have hg : (eqGuard op t x y (.int k m) (.int k n)).run P w = .ok () w := by
   unfold eqGuard
   split <;> rfl
  simp only [execOp, ha.eval hx, ha.eval hy, lJ, hg, lR, hv w]
  rfl) h
theorem jB7 {t t' : TypeId} {x y : Operand} {k : IntKind} {m n : Int} (hx : ev fr x = some (.int k m)) (hy : ev fr y = some (.int k n)) (r : Int) (hr : k.wrap (m + n) = r) (hN : bN d N)
  (h : sx P N w0 Wr ops rest ((d, .int k r) :: fr) H Z) : sx P N w0 Wr ops (⟨some d, .binOp .add t x y t', ty, pos, after, none⟩ :: rest) fr H Z :=
 jM0 _ hx hy (fun w => by subst hr; simp [binOp, Op.intArith]) hN h
theorem kD6 {t t' : TypeId} {x y : Operand} {k : IntKind} {m n : Int} (r : Int) (hr : k.wrap (m + n) = r) (h : sx P N w0 Wr ops rest ((d, .int k r) :: fr) H Z) (hx : ev fr x = some (.int k m) := by exact rfl) (hy : ev fr y = some (.int k n) := by exact rfl) (hN : bN d N := by exact rfl) : sx P N w0 Wr ops (⟨some d, .binOp .add t x y t', ty, pos, after, none⟩ :: rest) fr H Z := jB7 hx hy r hr hN h
theorem jN0 {t t' : TypeId} {x y : Operand} {k : IntKind} {m n : Int} (hx : ev fr x = some (.int k m)) (hy : ev fr y = some (.int k n)) (r : Int) (hr : k.wrap (m - n) = r) (hN : bN d N)
  (h : sx P N w0 Wr ops rest ((d, .int k r) :: fr) H Z) : sx P N w0 Wr ops (⟨some d, .binOp .sub t x y t', ty, pos, after, none⟩ :: rest) fr H Z :=
 jM0 _ hx hy (fun w => by subst hr; simp [binOp, Op.intArith]) hN h
theorem kK3 {t t' : TypeId} {x y : Operand} {k : IntKind} {m n : Int} (hx : ev fr x = some (.int k m)) (hy : ev fr y = some (.int k n)) (r : Int) (hr : k.wrap (m * n) = r) (hN : bN d N)
  (h : sx P N w0 Wr ops rest ((d, .int k r) :: fr) H Z) : sx P N w0 Wr ops (⟨some d, .binOp .mul t x y t', ty, pos, after, none⟩ :: rest) fr H Z :=
 jM0 _ hx hy (fun w => by subst hr; simp [binOp, Op.intArith]) hN h
theorem vB2 {t t' : TypeId} {x y : Operand} {k : IntKind} {m n : Int} (hx : ev fr x = some (.int k m)) (hy : ev fr y = some (.int k n)) (hn : n ≠ 0) (r : Int) (hr : k.wrap (m.tdiv n) = r) (hN : bN d N)
  (h : sx P N w0 Wr ops rest ((d, .int k r) :: fr) H Z) : sx P N w0 Wr ops (⟨some d, .binOp .quo t x y t', ty, pos, after, none⟩ :: rest) fr H Z :=
 jM0 _ hx hy (fun w => by subst hr; simp [binOp, Op.intDiv, hn]) hN h
theorem vP2 {t t' : TypeId} {x y : Operand} {k : IntKind} {m n : Int} (hx : ev fr x = some (.int k m)) (hy : ev fr y = some (.int k n)) (hn : n ≠ 0) (r : Int) (hr : m.tmod n = r) (hN : bN d N)
  (h : sx P N w0 Wr ops rest ((d, .int k r) :: fr) H Z) : sx P N w0 Wr ops (⟨some d, .binOp .rem t x y t', ty, pos, after, none⟩ :: rest) fr H Z :=
 jM0 _ hx hy (fun w => by subst hr; simp [binOp, Op.intDiv, hn]) hN h
theorem zE7 {t t' : TypeId} {x y : Operand} {k : IntKind} {m n : Int} (hx : ev fr x = some (.int k m)) (hy : ev fr y = some (.int k n)) (hN : bN d N)
  (h : sx P N w0 Wr ops rest ((d, .bool (decide (m < n))) :: fr) H Z) : sx P N w0 Wr ops (⟨some d, .binOp .lss t x y t', ty, pos, after, none⟩ :: rest) fr H Z :=
 jM0 _ hx hy (fun w => by simp [binOp, Op.intCmp]) hN h
theorem jB0 {t t' : TypeId} {x y : Operand} {k : IntKind} {m n : Int} (h : sx P N w0 Wr ops rest ((d, .bool (decide (m < n))) :: fr) H Z) (hx : ev fr x = some (.int k m) := by exact rfl) (hy : ev fr y = some (.int k n) := by exact rfl) (hN : bN d N := by exact rfl) : sx P N w0 Wr ops (⟨some d, .binOp .lss t x y t', ty, pos, after, none⟩ :: rest) fr H Z := zE7 hx hy hN h
theorem jI2 {t t' : TypeId} {x y : Operand} {k : IntKind} {m n : Int} (hx : ev fr x = some (.int k m)) (hy : ev fr y = some (.int k n)) (hN : bN d N)
  (h : sx P N w0 Wr ops rest ((d, .bool (decide (m ≤ n))) :: fr) H Z) : sx P N w0 Wr ops (⟨some d, .binOp .leq t x y t', ty, pos, after, none⟩ :: rest) fr H Z :=
 jM0 _ hx hy (fun w => by simp [binOp, Op.intCmp]) hN h
theorem zE8 {t t' : TypeId} {x y : Operand} {k : IntKind} {m n : Int} (hx : ev fr x = some (.int k m)) (hy : ev fr y = some (.int k n)) (hN : bN d N)
  (h : sx P N w0 Wr ops rest ((d, .bool (decide (n < m))) :: fr) H Z) : sx P N w0 Wr ops (⟨some d, .binOp .gtr t x y t', ty, pos, after, none⟩ :: rest) fr H Z :=
 jM0 _ hx hy (fun w => by simp [binOp, Op.intCmp]) hN h
theorem jC4 {t t' : TypeId} {x y : Operand} {k : IntKind} {m n : Int} (h : sx P N w0 Wr ops rest ((d, .bool (decide (n < m))) :: fr) H Z) (hx : ev fr x = some (.int k m) := by exact rfl) (hy : ev fr y = some (.int k n) := by exact rfl) (hN : bN d N := by exact rfl) : sx P N w0 Wr ops (⟨some d, .binOp .gtr t x y t', ty, pos, after, none⟩ :: rest) fr H Z := zE8 hx hy hN h
theorem jH7 {t t' : TypeId} {x y : Operand} {k : IntKind} {m n : Int} (hx : ev fr x = some (.int k m)) (hy : ev fr y = some (.int k n)) (hN : bN d N)
  (h : sx P N w0 Wr ops rest ((d, .bool (decide (n ≤ m))) :: fr) H Z) : sx P N w0 Wr ops (⟨some d, .binOp .geq t x y t', ty, pos, after, none⟩ :: rest) fr H Z :=
 jM0 _ hx hy (fun w => by simp [binOp, Op.intCmp]) hN h
theorem zE9 {t t' : TypeId} {x y : Operand} {k : IntKind} {m n : Int} (hx : ev fr x = some (.int k m)) (hy : ev fr y = some (.int k n)) (hN : bN d N)
  (h : sx P N w0 Wr ops rest ((d, .bool (m == n)) :: fr) H Z) : sx P N w0 Wr ops (⟨some d, .binOp .eql t x y t', ty, pos, after, none⟩ :: rest) fr H Z :=
 jM0 _ hx hy (fun w => by simp [binOp, Op.intCmp]) hN h
theorem jB1 {t t' : TypeId} {x y : Operand} {k : IntKind} {m n : Int} (h : sx P N w0 Wr ops rest ((d, .bool (m == n)) :: fr) H Z) (hx : ev fr x = some (.int k m) := by exact rfl) (hy : ev fr y = some (.int k n) := by exact rfl) (hN : bN d N := by exact rfl) : sx P N w0 Wr ops (⟨some d, .binOp .eql t x y t', ty, pos, after, none⟩ :: rest) fr H Z := zE9 hx hy hN h
theorem zE5 {t t' : TypeId} {x y : Operand} {k : IntKind} {m n : Int} (hx : ev fr x = some (.int k m)) (hy : ev fr y = some (.int k n)) (hN : bN d N)
  (h : sx P N w0 Wr ops rest ((d, .bool (m != n)) :: fr) H Z) : sx P N w0 Wr ops (⟨some d, .binOp .neq t x y t', ty, pos, after, none⟩ :: rest) fr H Z :=
 jM0 _ hx hy (fun w => by simp [binOp, Op.intCmp]) hN h
theorem jA6 {t t' : TypeId} {x y : Operand} {k : IntKind} {m n : Int} (h : sx P N w0 Wr ops rest ((d, .bool (m != n)) :: fr) H Z) (hx : ev fr x = some (.int k m) := by exact rfl) (hy : ev fr y = some (.int k n) := by exact rfl) (hN : bN d N := by exact rfl) : sx P N w0 Wr ops (⟨some d, .binOp .neq t x y t', ty, pos, after, none⟩ :: rest) fr H Z := zE5 hx hy hN h
def vZ2 (op : BinOp) (k : IntKind) (m n : Int) : Int :=
 let a := BitVec.ofInt k.bits m
 let b := BitVec.ofInt k.bits n
 match op with
 | .and => k.wrap (a &&& b).toNat
 | .or => k.wrap (a ||| b).toNat
 | .xor => k.wrap (a ^^^ b).toNat
 | _ => k.wrap (a &&& ~~~b).toNat
theorem kV1 {op : BinOp} (hop : op = .and ∨ op = .or ∨ op = .xor ∨ op = .andNot) {t t' : TypeId} {x y : Operand} {k : IntKind} {m n : Int} (hx : ev fr x = some (.int k m)) (hy : ev fr y = some (.int k n)) (r : Int) (hr : vZ2 op k m n = r) (hN : bN d N)
  (h : sx P N w0 Wr ops rest ((d, .int k r) :: fr) H Z) : sx P N w0 Wr ops (⟨some d, .binOp op t x y t', ty, pos, after, none⟩ :: rest) fr H Z :=
 jM0 _ hx hy (fun w => by subst hr; rcases hop with rfl | rfl | rfl | rfl <;> simp [binOp, Op.intBits, vZ2]) hN h
theorem yI7 {t t' : TypeId} {x y : Operand} {k k' : IntKind} {m n : Int} (hx : ev fr x = some (.int k m)) (hy : ev fr y = some (.int k' n)) (hn : 0 ≤ n) (r : Int) (hr : k.wrap (m * 2 ^ (min n.toNat k.bits)) = r) (hN : bN d N)
  (h : sx P N w0 Wr ops rest ((d, .int k r) :: fr) H Z) : sx P N w0 Wr ops (⟨some d, .binOp .shl t x y t', ty, pos, after, none⟩ :: rest) fr H Z :=
 jE4 (.int k r) hN (fun a w ha _ => by
  subst hr
  have : ¬ n < 0 := by omega
  simp [execOp, ha.eval hx, ha.eval hy, eqGuard, binOp, Op.shift, this]) h
theorem yI6 {t t' : TypeId} {x y : Operand} {k k' : IntKind} {m n : Int} (hx : ev fr x = some (.int k m)) (hy : ev fr y = some (.int k' n)) (hn : 0 ≤ n) (r : Int) (hr : m.fdiv (2 ^ (min n.toNat k.bits)) = r) (hN : bN d N)
  (h : sx P N w0 Wr ops rest ((d, .int k r) :: fr) H Z) : sx P N w0 Wr ops (⟨some d, .binOp .shr t x y t', ty, pos, after, none⟩ :: rest) fr H Z :=
 jE4 (.int k r) hN (fun a w ha _ => by
  subst hr
  have : ¬ n < 0 := by omega
  simp [execOp, ha.eval hx, ha.eval hy, eqGuard, binOp, Op.shift, this]) h
theorem vI3 {op : BinOp} {t t' : TypeId} {x y : Operand} {l m : List UInt8} (v : Value) (hx : ev fr x = some (.string (str l))) (hy : ev fr y = some (.string (str m))) (hv : ∀ w, (binOp op t (.string (str l)) (.string (str m))).run P w = .ok v w) (hN : bN d N)
  (h : sx P N w0 Wr ops rest ((d, v) :: fr) H Z) : sx P N w0 Wr ops (⟨some d, .binOp op t x y t', ty, pos, after, none⟩ :: rest) fr H Z :=
 jE4 v hN (fun a w ha _ => by
  have hg : (eqGuard op t x y (.string (str l)) (.string (str m))).run P w = .ok () w := by
   unfold eqGuard
   split <;> rfl
  simp only [execOp, ha.eval hx, ha.eval hy, lJ, hg, lR, hv w]
  rfl) h
theorem vJ0 (l : List UInt8) : (str l).toList = l := by rw [ByteArray.toList_eq]; rfl
theorem wE8 (a b : List UInt8) : str a ++ str b = str (a ++ b) := by
 have h : (str a ++ str b).data.toList = a ++ b := by
  rw [ByteArray.data_append]
  simp [str]
 obtain ⟨l, e⟩ := vC3 (str a ++ str b)
 rw [e, jZ8] at h
 rw [e, h]
theorem wE7 (l : List UInt8) (i j : Nat) : (str l).extract i j = str ((l.drop i).take (j - i)) := by
 have h : ((str l).extract i j).data.toList = (l.drop i).take (j - i) := by
  rw [ByteArray.data_extract]
  simp [str]
 obtain ⟨m, e⟩ := vC3 ((str l).extract i j)
 rw [e, jZ8] at h
 rw [e, h]
theorem jN3 {t t' : TypeId} {x y : Operand} {l m : List UInt8} (hx : ev fr x = some (.string (str l))) (hy : ev fr y = some (.string (str m))) (hl : l.length + m.length ≤ 9223372036854775807) (hN : bN d N)
  (h : sx P N w0 Wr ops rest ((d, .string (str (l ++ m))) :: fr) H Z) : sx P N w0 Wr ops (⟨some d, .binOp .add t x y t', ty, pos, after, none⟩ :: rest) fr H Z :=
 vI3 _ hx hy (fun w => by
  have : ¬ (((str l).size + (str m).size : Nat) : Int) > IntKind.i64.max := by
   rw [str_size, str_size]; show ¬ (_ : Int) > 9223372036854775807; omega
  simp only [binOp, Op.stringOp, this, if_false, wE8]
  rfl) hN h
theorem jQ1 {t t' : TypeId} {x y : Operand} {l m : List UInt8} (hx : ev fr x = some (.string (str l))) (hy : ev fr y = some (.string (str m))) (hN : bN d N)
  (h : sx P N w0 Wr ops rest ((d, .bool (l == m)) :: fr) H Z) : sx P N w0 Wr ops (⟨some d, .binOp .eql t x y t', ty, pos, after, none⟩ :: rest) fr H Z :=
 vI3 _ hx hy (fun w => by simp [binOp, Op.stringOp, vJ0]) hN h
theorem jT9 {t t' : TypeId} {x y : Operand} {l m : List UInt8} (hx : ev fr x = some (.string (str l))) (hy : ev fr y = some (.string (str m))) (hN : bN d N)
  (h : sx P N w0 Wr ops rest ((d, .bool (l != m)) :: fr) H Z) : sx P N w0 Wr ops (⟨some d, .binOp .neq t x y t', ty, pos, after, none⟩ :: rest) fr H Z :=
 vI3 _ hx hy (fun w => by simp [binOp, Op.stringOp, vJ0, bne]) hN h
theorem jE8 {t : TypeId} {x : Operand} {b : Bool} (hx : ev fr x = some (.bool b)) (hN : bN d N)
  (h : sx P N w0 Wr ops rest ((d, .bool (!b)) :: fr) H Z) : sx P N w0 Wr ops (⟨some d, .unOp .not t x, ty, pos, after, none⟩ :: rest) fr H Z :=
 jE4 _ hN (fun a w ha _ => by simp only [execOp, ha.eval hx]; rfl) h
theorem jD0 {s t : TypeId} {x : Operand} {k k' : IntKind} {ds : TypeDesc} {m : Int} (hs : P.underlying s = some ds) (ht : P.underlying t = some (.int k')) (hx : ev fr x = some (.int k m)) (r : Int) (hr : k'.wrap m = r) (hN : bN d N)
  (h : sx P N w0 Wr ops rest ((d, .int k' r) :: fr) H Z) : sx P N w0 Wr ops (⟨some d, .convert s t x, ty, pos, after, none⟩ :: rest) fr H Z :=
 jE4 (.int k' r) hN (fun a w ha _ => by
  subst hr
  simp only [execOp, ha.eval hx, convert, lJ, run_underlying hs, run_underlying ht, lR]
  cases ds <;> rfl) h
theorem sX {x : Operand} {i : Nat} {vs : List Value} {v : Value} (hx : ev fr x = some (.tuple vs.toArray)) (hv : vs[i]? = some v) (hN : bN d N)
  (h : sx P N w0 Wr ops rest ((d, v) :: fr) H Z) : sx P N w0 Wr ops (⟨some d, .extract x i, ty, pos, after, none⟩ :: rest) fr H Z :=
 jE4 v hN (fun a w ha _ => by
  have : vs.toArray[i]? = some v := by simpa using hv
  simp only [execOp, ha.eval hx, Instr.extract, this]; rfl) h
theorem jE5 {x : Operand} {t e : TypeId} {A : Option Addr} {n c : Nat} (ht : P.underlying t = some (.slice e)) (hx : ev fr x = some (.slice A n c)) (hN : bN d N)
  (h : sx P N w0 Wr ops rest ((d, .int .i64 n) :: fr) H Z) : sx P N w0 Wr ops (⟨some d, .call { callee := .builtin .len, args := #[x], argTypes := #[t] }, ty, pos, after, none⟩ :: rest) fr H Z :=
 jE4 _ hN (fun a w ha _ => by
  have := ha.eval hx
  simp [execOp, resolve, invoke, builtin, this, lJ, Builtin.len_, run_underlying ht, goInt]) h
theorem jC8 {x : Operand} {t : TypeId} {l : List UInt8} (ht : P.underlying t = some .string) (hx : ev fr x = some (.string (str l))) (hN : bN d N)
  (h : sx P N w0 Wr ops rest ((d, .int .i64 (l.length : Int)) :: fr) H Z) : sx P N w0 Wr ops (⟨some d, .call { callee := .builtin .len, args := #[x], argTypes := #[t] }, ty, pos, after, none⟩ :: rest) fr H Z :=
 jE4 _ hN (fun a w ha _ => by
  have := ha.eval hx
  simp [execOp, resolve, invoke, builtin, this, lJ, Builtin.len_, run_underlying ht, goInt, str_size]) h
end
end
section
open Go.RowKit
def bnd (fr : Fr) (dflt : Int) : Option Operand → Option Int
 | none => some dflt
 | some x => match ev fr x with
  | some (.int _ i) => some i
  | _ => none
def tyPlaces (P : Program) (t : TypeId) : Option (List (Nat × Nat)) :=
 match P.underlying t with
 | some (.struct fs) => fs.toList.mapM fun f => (tySize P f.type).map fun n => (f.offset, n)
 | _ => none
def jM3 (fr : Fr) : List (Nat × Operand) → Option (List (Nat × Value))
 | [] => some []
 | (i, x) :: r => (ev fr x).bind fun v => (jM3 fr r).bind fun vs => some ((i, v) :: vs)
def jS8 (l : List (Nat × Value)) : List (Nat × List Value) := l.map fun p => (p.1, p.2.cells.toList)
def zrep (m : Nat) (z : List Value) : List Value := (List.range m).map fun i => z.toArray[i % z.length]!
theorem FrOk.parts {N : Frm} {fr : Fr} {a : Act} (h : FrOk N fr a) : ∀ {xs : List (Nat × Operand)} {vs : List (Nat × Value)}, jM3 fr xs = some vs → xs.map (fun p => (p.1, a.eval p.2)) = vs
 | [], vs, hx => by obtain rfl := lV hx; rfl
 | (i, x) :: r, vs, hx => by
  simp only [jM3] at hx
  cases h1 : ev fr x with
  | none => simp [h1] at hx
  | some v =>
   cases h2 : jM3 fr r with
   | none => simp [h1, h2] at hx
   | some us =>
    simp only [h1, h2, zD, qD] at hx
    subst hx
    simp [h.eval h1, h.parts h2]
theorem vF3 : ∀ (v : List Value) (cells : Array Value) (off i : Nat), off + i + v.length ≤ cells.size →
  (((v.zipIdx i).foldl (fun cs (p : Value × Nat) => cs.setIfInBounds (off + p.2) p.1) cells).toList = wrV cells.toList (off + i) v)
 | [], cells, off, i, _ => by simp [wrV]
 | x :: v, cells, off, i, h => by
  simp only [lD] at h
  simp only [List.zipIdx_cons, zU]
  rw [vF3 v (cells.setIfInBounds (off + i) x) off (i + 1) (by simp; omega)]
  simp only [wrV, Array.toList_setIfInBounds, lD]
  have hl : off + i < cells.toList.length := by simp; omega
  rw [← qP, qC (by simpa using hl), List.take_set_of_le (xP _), List.drop_set_of_lt (by omega)]
  simp [qP, Nat.add_comm 1]
theorem kM9 (place : Nat → Option (Nat × Nat)) : ∀ (ps : List (Nat × Value)) (cells : Array Value) (r : List Value), kE4 place cells.toList (jS8 ps) = some r → Instr.fill place cells ps = some r.toArray
 | [], cells, r, h => by
  simp only [jS8, qT, kE4, qD] at h
  subst h
  simp [Instr.fill]
 | (i, v) :: ps, cells, r, h => by
  simp only [jS8, xR, kE4] at h
  unfold Instr.fill
  cases hp : place i with
  | none => simp [hp] at h
  | some q =>
   obtain ⟨off, size⟩ := q
   simp only [hp] at h ⊢
   cases hb : Nat.beq v.cells.toList.length size && Nat.ble (off + v.cells.toList.length) cells.toList.length with
   | false => rw [hb] at h; cases h
   | true =>
    rw [hb] at h
    simp only [cond_true] at h
    simp only [xM] at hb
    have h1 : v.cells.size = size := by simpa using x6 hb.1
    have h2 : off + v.cells.size ≤ cells.size := by simpa using zR hb.2
    have h3 : ¬ ((decide (v.cells.size ≠ size) || decide (off + v.cells.size > cells.size)) = true) := by
     simp only [zB, decide_eq_true_eq]; omega
    rw [if_neg h3]
    refine kM9 place ps _ r ?_
    have e := vF3 v.cells.toList cells off 0 (by simpa using h2)
    have e2 : (v.cells.zipIdx.foldl (fun cs (p : Value × Nat) => cs.setIfInBounds (off + p.2) p.1) cells).toList = wrV cells.toList off v.cells.toList := by
     rw [← Array.foldl_toList]
     simpa using e
    have e3 : (Array.foldl (fun cs x => match x with | (c, j) => cs.setIfInBounds (off + j) c) cells v.cells.zipIdx).toList = wrV cells.toList off v.cells.toList := e2
    rw [e3]
    exact h
theorem vN6 (n : Nat) (x : Value) : zrep n [x] = List.replicate n x := by
 unfold zrep
 rw [List.eq_replicate_iff]
 refine ⟨by simp, fun b hb => ?_⟩
 simp [Nat.mod_one] at hb
 exact hb.2.symm
section
variable {P : Program} {N : Frm} {w0 : World} {Wr : List Nat} {ops : Array Oper} {rest : List Oper} {fr : Fr} {H : Heap} {Z : Fr → Heap → Prop}
variable {d ty : Nat} {pos : String} {after : Array Edge}
theorem kW2 {t : TypeId} {b : Bool} {n off : Nat} {cs : List Value} {v : Value} {w : World} (ha : tyAgg P t = some b) (hs : tySize P t = some n) (hv : rdV b n cs off = some v) : (part t cs.toArray off).run P w = .ok v w := by
 unfold part
 simp only [lJ, kA0 ha, lR]
 cases b with
 | false =>
  have : cs.toArray[off]? = some v := by simpa [rdV] using hv
  simp [this]
 | true =>
  simp only [rdV, cond_true] at hv
  cases hb : Nat.ble (off + n) cs.length with
  | false => rw [hb] at hv; cases hv
  | true =>
   rw [hb] at hv
   obtain rfl := lV hv
   simp only [if_true, lJ, jC5 hs, lR]
   simp [List.extract]
theorem kT7 {s i off n : Nat} {b : Bool} (hf : tyF P s i = some (off, n, b)) : ∃ fs f, P.underlying s = some (.struct fs) ∧ fs[i]? = some f ∧ f.offset = off ∧ tySize P f.type = some n ∧ tyAgg P f.type = some b := by
 unfold tyF at hf
 cases hu : P.underlying s with
 | none => simp [hu] at hf
 | some dd =>
  cases dd <;> simp only [hu] at hf <;> try cases hf
  rename_i fs
  cases hi : fs[i]? with
  | none => simp [hi] at hf
  | some f =>
   simp only [hi, zD] at hf
   cases hs : tySize P f.type with
   | none => simp [hs] at hf
   | some m =>
    cases hb : tyAgg P f.type with
    | none => simp [hs, hb] at hf
    | some bb =>
     simp only [hs, hb, zD] at hf
     split at hf
     ·cases hf
     ·simp only [qD, Prod.mk.injEq] at hf
      obtain ⟨rfl, rfl, rfl⟩ := hf
      exact ⟨fs, f, rfl, hi, rfl, hs, hb⟩
theorem jU1 {t e len n : Nat} {b : Bool} {x y : Operand} {cs : List Value} {k : IntKind} {i : Int} {v : Value} (ht : P.underlying t = some (.array len e)) (ha' : tyAgg P e = some b) (hs : tySize P e = some n) (hx : ev fr x = some (.agg cs.toArray)) (hy : ev fr y = some (.int k i)) (hi : 0 ≤ i ∧ i < len) (hv : rdV b n cs (i.toNat * n) = some v) (hN : bN d N)
  (h : sx P N w0 Wr ops rest ((d, v) :: fr) H Z) : sx P N w0 Wr ops (⟨some d, .index t x y, ty, pos, after, none⟩ :: rest) fr H Z :=
 jE4 v hN (fun a w ha _ => by
  simp only [execOp, Instr.index, ha.eval hx, ha.eval hy, asIntOf, lJ, l7, run_underlying ht, lR, if_pos hi, jC5 hs, kW2 ha' hs hv]) h
theorem kD5 {t : Nat} {x y : Operand} {l : List UInt8} {k : IntKind} {i : Int} {c : UInt8} (ht : P.underlying t = some .string) (hx : ev fr x = some (.string (str l))) (hy : ev fr y = some (.int k i)) (hi : 0 ≤ i) (hv : l[i.toNat]? = some c) : ∀ a w, FrOk N fr a → Sat w0 Wr H w → (execOp a.eval ⟨some d, .index t x y, ty, pos, after, none⟩).run P w = .ok (.value (.int .u8 (c.toNat : Int))) w := fun a w ha _ => by
  have : (str l)[i.toNat]? = some c := by
   have hl := (List.getElem?_eq_some_iff.1 hv)
   obtain ⟨h1, h2⟩ := hl
   have h3 : i.toNat < (str l).size := by rw [str_size]; exact h1
   rw [getElem?_pos (str l) i.toNat h3]
   congr 1
  simp only [execOp, Instr.index, ha.eval hx, ha.eval hy, asIntOf, lJ, l7, run_underlying ht, lR, if_pos hi, this]
theorem jE6 {t : Nat} {x y : Operand} {l : List UInt8} {k : IntKind} {i : Int} {c : UInt8} (ht : P.underlying t = some .string) (hx : ev fr x = some (.string (str l))) (hy : ev fr y = some (.int k i)) (hi : 0 ≤ i) (hv : l[i.toNat]? = some c) (hN : bN d N)
  (h : sx P N w0 Wr ops rest ((d, .int .u8 (c.toNat : Int)) :: fr) H Z) : sx P N w0 Wr ops (⟨some d, .index t x y, ty, pos, after, none⟩ :: rest) fr H Z := jE4 _ hN (kD5 ht hx hy hi hv) h
theorem jG5 (g o n : Nat) : Addr.add ⟨g, o, none⟩ n = ⟨g, o + n, none⟩ := by unfold Addr.add; split <;> simp_all
theorem jA8 {t e n g o len c : Nat} {x y : Operand} {k : IntKind} {i : Int} (o' : Nat) (ht : P.underlying t = some (.slice e)) (hs : tySize P e = some n) (hx : ev fr x = some (.slice (some ⟨g, o, none⟩) len c)) (hy : ev fr y = some (.int k i)) (hi : 0 ≤ i ∧ i < len) (ho : o + i.toNat * n = o') (hN : bN d N)
  (h : sx P N w0 Wr ops rest ((d, ptr g o') :: fr) H Z) : sx P N w0 Wr ops (⟨some d, .indexAddr t x y, ty, pos, after, none⟩ :: rest) fr H Z :=
 jE4 _ hN (fun a w ha _ => by
  subst ho
  simp only [execOp, Instr.indexAt, ha.eval hx, ha.eval hy, asIntOf, lJ, l7, run_underlying ht, lR, if_pos hi, jC5 hs, jG5]
  rfl) h
theorem jH3 {t e n g o len : Nat} {x y : Operand} {k : IntKind} {i : Int} (o' : Nat) (ht : P.underlying t = some (.array len e)) (hs : tySize P e = some n) (hx : ev fr x = some (ptr g o)) (hy : ev fr y = some (.int k i)) (hi : 0 ≤ i ∧ i < len) (ho : o + i.toNat * n = o') (hN : bN d N)
  (h : sx P N w0 Wr ops rest ((d, ptr g o') :: fr) H Z) : sx P N w0 Wr ops (⟨some d, .indexAddr t x y, ty, pos, after, none⟩ :: rest) fr H Z :=
 jE4 _ hN (fun a w ha _ => by
  subst ho
  simp only [execOp, Instr.indexAt, ha.eval hx, ha.eval hy, asIntOf, lJ, l7, run_underlying ht, lR, ptr, Instr.sureAddr, if_pos hi, jC5 hs, jG5]) h
theorem jG6 {k : IntKind} {i : Int} {y : Nat} {code : BoundsCode} {w : World} (hi : 0 ≤ i ∧ i ≤ y) : (Instr.sliceBound (.int k i) y code).run P w = .ok i.toNat w := by
 simp only [Instr.sliceBound, asIntOf, lJ, l7, lR, if_pos hi]
theorem kZ7 {dflt i : Int} {x : Operand} (h : bnd fr dflt (some x) = some i) : ∃ k, ev fr x = some (.int k i) := by
 simp only [bnd] at h
 split at h
 ·rename_i k j he
  obtain rfl := lV h
  exact ⟨k, he⟩
 ·cases h
theorem jH5 {isS : Bool} {len cap : Nat} {lo hi : Option Operand} {l h : Int} {a : Act} {w : World} (ha : FrOk N fr a) (hl : bnd fr 0 lo = some l) (hh : bnd fr len hi = some h) (h0 : 0 ≤ l) (h1 : l ≤ h) (h2 : h ≤ cap) :
  (Instr.sliceBounds isS len cap (lo.map a.eval) (hi.map a.eval) none).run P w = .ok (l.toNat, h.toNat, cap) w := by
 have hh' : (0:Int) ≤ h ∧ h ≤ cap := ⟨by omega, h2⟩
 have hl' : (0:Int) ≤ l ∧ l ≤ h.toNat := ⟨h0, by omega⟩
 cases hi with
 | none =>
  obtain rfl := lV hh
  cases lo with
  | none =>
   obtain rfl := lV hl
   simp [Instr.sliceBounds]
  | some x =>
   obtain ⟨k, hx⟩ := kZ7 hl
   have := jG6 (P := P) (k := k) (i := l) (y := len) (code := .sliceB) (w := w) ⟨h0, h1⟩
   simp [Instr.sliceBounds, ha.eval hx, this]
 | some y =>
  obtain ⟨k', hy⟩ := kZ7 hh
  have hs : ∀ code, (Instr.sliceBound (.int k' h) cap code).run P w = .ok h.toNat w := fun code => jG6 hh'
  cases lo with
  | none =>
   obtain rfl := lV hl
   simp [Instr.sliceBounds, ha.eval hy, hs]
  | some x =>
   obtain ⟨k, hx⟩ := kZ7 hl
   have := jG6 (P := P) (k := k) (i := l) (y := h.toNat) (code := .sliceB) (w := w) hl'
   simp [Instr.sliceBounds, lJ, ha.eval hx, ha.eval hy, hs, this]
theorem kD3 {t : TypeId} {x : Operand} {lo hi : Option Operand} {l : List UInt8} {i j : Int} (m : List UInt8) (ht : P.underlying t = some .string) (hx : ev fr x = some (.string (str l))) (hl : bnd fr 0 lo = some i) (hh : bnd fr (l.length : Int) hi = some j) (h0 : 0 ≤ i) (h1 : i ≤ j) (h2 : j ≤ l.length) (hm : (l.drop i.toNat).take (j.toNat - i.toNat) = m) : ∀ a w, FrOk N fr a → Sat w0 Wr H w → (execOp a.eval ⟨some d, .slice t x lo hi none, ty, pos, after, none⟩).run P w = .ok (.value (.string (str m))) w := fun a w ha _ => by
  subst hm
  have hb := jH5 (P := P) (isS := false) (len := (str l).size) (cap := (str l).size) (w := w) ha hl (by rw [str_size]; exact hh) h0 h1 (by rw [str_size]; exact h2)
  simp only [execOp, Instr.sliceAt, Instr.slice, ha.eval hx, lJ, run_underlying ht, lR, zK, Option.isSome_none, zV, if_false, hb, l7, wE7]
theorem jF7 {t : TypeId} {x : Operand} {lo hi : Option Operand} {l : List UInt8} {i j : Int} (m : List UInt8) (ht : P.underlying t = some .string) (hx : ev fr x = some (.string (str l))) (hl : bnd fr 0 lo = some i) (hh : bnd fr (l.length : Int) hi = some j) (h0 : 0 ≤ i) (h1 : i ≤ j) (h2 : j ≤ l.length) (hm : (l.drop i.toNat).take (j.toNat - i.toNat) = m) (hN : bN d N)
  (h : sx P N w0 Wr ops rest ((d, .string (str m)) :: fr) H Z) : sx P N w0 Wr ops (⟨some d, .slice t x lo hi none, ty, pos, after, none⟩ :: rest) fr H Z := jE4 _ hN (kD3 m ht hx hl hh h0 h1 h2 hm) h
theorem jR6 {t e n g o len c : Nat} {x : Operand} {lo hi : Option Operand} {i j : Int} (ht : P.underlying t = some (.slice e)) (hs : tySize P e = some n) (hx : ev fr x = some (.slice (some ⟨g, o, none⟩) len c)) (hl : bnd fr 0 lo = some i) (hh : bnd fr (len : Int) hi = some j) (h0 : 0 ≤ i) (h1 : i ≤ j) (h2 : j ≤ c) (hN : bN d N)
  (h : ∀ o', (i < j → o' = o + i.toNat * n) → sx P N w0 Wr ops rest ((d, .slice (some ⟨g, o', none⟩) (j.toNat - i.toNat) (c - i.toNat)) :: fr) H Z) : sx P N w0 Wr ops (⟨some d, .slice t x lo hi none, ty, pos, after, none⟩ :: rest) fr H Z :=
 jE4 (.slice (some ⟨g, (if c = i.toNat then o else o + i.toNat * n), none⟩) (j.toNat - i.toNat) (c - i.toNat)) hN (fun a w ha _ => by
  have hb := jH5 (P := P) (isS := true) (len := len) (cap := c) (w := w) ha hl hh h0 h1 h2
  simp only [execOp, Instr.sliceAt, Instr.slice, ha.eval hx, lJ, run_underlying ht, lR, zK, hb, l7, jC5 hs, qG, jG5]
  by_cases hc : c = i.toNat <;> simp [hc]) (h _ (fun hlt => by rw [if_neg (by omega)]))
theorem vE1 : ∀ (fs : List Field) (ps : List (Nat × Nat)) (w : World), (fs.mapM fun f => (tySize P f.type).map fun n => (f.offset, n)) = some ps →
  (fs.mapM (m := Sem) fun f => do pure (f.offset, ← sizeOf f.type)).run P w = .ok ps w
 | [], ps, w, h => by
  simp only [List.mapM_nil, Option.pure_def, qD] at h
  subst h
  simp
 | f :: fs, ps, w, h => by
  simp only [List.mapM_cons] at h
  cases h1 : tySize P f.type with
  | none => simp [h1] at h
  | some n =>
   cases h2 : fs.mapM fun f => (tySize P f.type).map fun n => (f.offset, n) with
   | none => simp [h1, h2] at h
   | some qs =>
    simp only [h1, h2, qG] at h
    obtain rfl : (f.offset, n) :: qs = ps := lV h
    simp only [List.mapM_cons, lJ, jC5 h1, lR, l7, vE1 fs qs w h2]
theorem kK8 {t : TypeId} {parts : List (Nat × Operand)} {pv : List (Nat × Value)} {z cs cs' : List Value} {pl : List (Nat × Nat)} (hz : tyZero P t = some z) (hp : tyPlaces P t = some pl) (hx : jM3 fr parts = some pv) (hf : kE4 (pl[·]?) z (jS8 pv) = some cs) (hn : cs = cs') : ∀ a w, FrOk N fr a → Sat w0 Wr H w → (execOp a.eval ⟨some d, .build t parts.toArray, ty, pos, after, none⟩).run P w = .ok (.value (.agg cs'.toArray)) w := fun a w ha _ => by
  subst hn
  obtain ⟨v, h1, h2⟩ := jV9 (w := w) hz
  unfold tyPlaces at hp
  cases hu : P.underlying t with
  | none => simp [hu] at hp
  | some dd =>
   cases dd <;> simp only [hu] at hp <;> try cases hp
   rename_i fs
   have hpl := vE1 (P := P) fs.toList pl w hp
   have hpl' : (fs.mapM (m := Sem) fun f => do pure (f.offset, ← sizeOf f.type)).run P w = .ok pl.toArray w := by
    rw [← Array.toArray_toList (xs := fs), List.mapM_toArray]
    rw [Sem.run_map, hpl]
    rfl
   have hfl : Instr.fill (fun i => pl.toArray[i]?) v.cells pv = some cs.toArray := kM9 _ pv v.cells cs (by rw [h2]; simpa using hf)
   have hpv := ha.parts hx
   have hpv' : (parts.toArray.map fun (p : Nat × Operand) => (p.1, a.eval p.2)).toList = pv := by simpa using hpv
   simp only [execOp, Instr.build, lJ, h1, lR, run_underlying hu, hpl', hpv', hfl]
   rfl
theorem vP4 {t : TypeId} {parts : List (Nat × Operand)} {pv : List (Nat × Value)} {z cs cs' : List Value} {pl : List (Nat × Nat)} (hz : tyZero P t = some z) (hp : tyPlaces P t = some pl) (hx : jM3 fr parts = some pv) (hf : kE4 (pl[·]?) z (jS8 pv) = some cs) (hn : cs = cs') (hN : bN d N)
  (h : sx P N w0 Wr ops rest ((d, .agg cs'.toArray) :: fr) H Z) : sx P N w0 Wr ops (⟨some d, .build t parts.toArray, ty, pos, after, none⟩ :: rest) fr H Z := jE4 _ hN (kK8 hz hp hx hf hn) h
theorem jB6 {t : TypeId} {parts : List (Nat × Operand)} {pv : List (Nat × Value)} {z cs cs' : List Value} {pl : List (Nat × Nat)} (hz : tyZero P t = some z) (hp : tyPlaces P t = some pl) (h : sx P N w0 Wr ops rest ((d, .agg cs'.toArray) :: fr) H Z) (hx : jM3 fr parts = some pv := by exact rfl) (hf : kE4 (pl[·]?) z (jS8 pv) = some cs := by exact rfl) (hn : cs = cs' := by first | (simp only [qS, Nat.reduceAdd, Value.cells, wrV]; first | done | rfl) | rfl) (hN : bN d N := by exact rfl) : sx P N w0 Wr ops (⟨some d, .build t parts.toArray, ty, pos, after, none⟩ :: rest) fr H Z := vP4 hz hp hx hf hn hN h
theorem jU2 {t e len n : TypeId} {parts : List (Nat × Operand)} {pv : List (Nat × Value)} {z cs cs' : List Value} (hz : tyZero P t = some z) (ht : P.underlying t = some (.array len e)) (hs : tySize P e = some n) (hx : jM3 fr parts = some pv) (hf : kE4 (fun i => some (i * n, n)) z (jS8 pv) = some cs) (hn : cs = cs') (hN : bN d N)
  (h : sx P N w0 Wr ops rest ((d, .agg cs'.toArray) :: fr) H Z) : sx P N w0 Wr ops (⟨some d, .build t parts.toArray, ty, pos, after, none⟩ :: rest) fr H Z :=
 jE4 _ hN (fun a w ha _ => by
  subst hn
  obtain ⟨v, h1, h2⟩ := jV9 (w := w) hz
  have hfl : Instr.fill (fun i => some (i * n, n)) v.cells pv = some cs.toArray := kM9 _ pv v.cells cs (by rw [h2]; simpa using hf)
  have hpv := ha.parts hx
  have hpv' : (parts.toArray.map fun (p : Nat × Operand) => (p.1, a.eval p.2)).toList = pv := by simpa using hpv
  simp only [execOp, Instr.build, lJ, h1, lR, run_underlying ht, jC5 hs, hpv', hfl]
  rfl) h
theorem sBS {t e len n : Nat} {parts : List (Nat × Operand)} {pv : List (Nat × Value)} {z cs cs' : List Value} (ht : P.underlying t = some (.slice e)) (hs : tySize P e = some n) (hz : tyZero P e = some z) (hx : jM3 fr parts = some pv) (hm : Nat.ble (len * n) 16777216 = true) (hm0 : Nat.beq (len * n) 0 = false) (hf : kE4 (fun i => some (i * n, n)) (zrep (len * n) z) (jS8 pv) = some cs) (hn : cs = cs') (hN : bN d N)
  (h : ∀ g, sx P N w0 Wr ops rest ((d, .slice (some ⟨g, 0, none⟩) len len) :: fr) (.own g e cs' :: H) Z) : sx P N w0 Wr ops (⟨some d, .buildSlice t len parts.toArray, ty, pos, after, none⟩ :: rest) fr H Z := by
 subst hn
 refine jI7 (R := fun v H' => ∃ g, v = .slice (some ⟨g, 0, none⟩) len len ∧ H' = .own g e cs :: H) hN (fun a w ha hw => ?_) (fun v H' hR => by obtain ⟨g, rfl, rfl⟩ := hR; exact h g)
 obtain ⟨v, h1, h2⟩ := jV9 (w := w) hz
 refine ⟨_, w.alloc (.cells cs.toArray e), _, ?_, ⟨w.heap.size, rfl, rfl⟩, hw.alloc cs e⟩
 have hm' : ¬ len * n > 2 ^ 24 := by have := zR hm; omega
 have hm1 : ¬ len * n = 0 := fun e => by rw [e] at hm0; cases hm0
 have e0 : ((Array.range (len * n)).map (v.cells[· % v.cells.size]!)).toList = zrep (len * n) z := by
  rw [h2]; simp [zrep, Array.toList_range]
 have hfl : Instr.fill (fun i => some (i * n, n)) ((Array.range (len * n)).map (v.cells[· % v.cells.size]!)) pv = some cs.toArray := kM9 _ pv _ cs (by rw [e0]; exact hf)
 have hpv := ha.parts hx
 have hpv' : (parts.toArray.map fun (p : Nat × Operand) => (p.1, a.eval p.2)).toList = pv := by simpa using hpv
 simp only [execOp, Instr.buildSlice, lJ, run_underlying ht, lR, jC5 hs, hm', hm1, if_false, h1, l7, hpv', hfl, newRow, newObj]
 rfl
theorem sBS0 {t e len n : Nat} {parts : List (Nat × Operand)} {pv : List (Nat × Value)} {z cs cs' : List Value} (ht : P.underlying t = some (.slice e)) (hs : tySize P e = some n) (hz : tyZero P e = some z) (h : ∀ g, sx P N w0 Wr ops rest ((d, .slice (some ⟨g, 0, none⟩) len len) :: fr) (.own g e cs' :: H) Z) (hx : jM3 fr parts = some pv := by exact rfl) (hm : Nat.ble (len * n) 16777216 = true := by exact rfl) (hm0 : Nat.beq (len * n) 0 = false := by exact rfl) (hf : kE4 (fun i => some (i * n, n)) (zrep (len * n) z) (jS8 pv) = some cs := by exact rfl) (hn : cs = cs' := by first | (simp only [qS, Value.cells, wrV, vN6, x8, x9, Nat.reduceMul, xH, Nat.reduceAdd]; first | done | rfl) | rfl) (hN : bN d N := by exact rfl) : sx P N w0 Wr ops (⟨some d, .buildSlice t len parts.toArray, ty, pos, after, none⟩ :: rest) fr H Z := sBS ht hs hz hx hm hm0 hf hn hN h
theorem sP {c x y : Operand} {b : Bool} {v : Value} (hc : ev fr c = some (.bool b)) (hx : ev fr (bif b then x else y) = some v) (hN : bN d N)
  (h : sx P N w0 Wr ops rest ((d, v) :: fr) H Z) : sx P N w0 Wr ops (⟨some d, .pick c x y, ty, pos, after, none⟩ :: rest) fr H Z :=
 jE4 v hN (fun a w ha _ => by
  cases b <;> simp only [cond_true, cond_false] at hx <;> simp [execOp, ha.eval hc, ha.eval hx, asBool]) h
theorem sP0 {c x y : Operand} {b : Bool} {v : Value} (h : sx P N w0 Wr ops rest ((d, v) :: fr) H Z) (hc : ev fr c = some (.bool b) := by exact rfl) (hx : ev fr (bif b then x else y) = some v := by exact rfl) (hN : bN d N := by exact rfl) : sx P N w0 Wr ops (⟨some d, .pick c x y, ty, pos, after, none⟩ :: rest) fr H Z := sP hc hx hN h
theorem sOn {dst : Option Nat} {op : Op} {j t : Nat} {b : Bool} {oj : Oper} (hj : ops[j]? = some oj) (ht : oj.dst = some t) (hb : lk fr t = some (.bool b))
  (h : sx P N w0 Wr ops (⟨dst, op, ty, pos, after, none⟩ :: rest) fr H Z) : sx P N w0 Wr ops (⟨dst, op, ty, pos, after, some (j, b)⟩ :: rest) fr H Z :=
 fun Q hQ a w ha hw => by
  have hk := h Q hQ a w ha hw
  have hy : yielded ops a.tmps j = some b := by
   have := ha.at_ t _ hb
   simp [yielded, hj, ht, this]
  unfold wpList at hk ⊢
  have h1 : Region.wanted (⟨dst, op, ty, pos, after, none⟩ : Oper) (yielded ops a.tmps) = true := rfl
  have h2 : Region.wanted (⟨dst, op, ty, pos, after, some (j, b)⟩ : Oper) (yielded ops a.tmps) = true := by simp [Region.wanted, hy]
  rw [if_pos h1] at hk
  rw [if_pos h2]
  exact hk
theorem sOn0 {dst : Option Nat} {op : Op} {j t : Nat} {b : Bool} {oj : Oper} (h : sx P N w0 Wr ops (⟨dst, op, ty, pos, after, none⟩ :: rest) fr H Z) (hj : ops[j]? = some oj := by exact rfl) (ht : oj.dst = some t := by exact rfl) (hb : lk fr t = some (.bool b) := by exact rfl) : sx P N w0 Wr ops (⟨dst, op, ty, pos, after, some (j, b)⟩ :: rest) fr H Z := sOn hj ht hb h
theorem sO {op : Op} {j t : Nat} {b b' : Bool} {oj : Oper} (hj : ops[j]? = some oj) (ht : oj.dst = some t) (hb : lk fr t = some (.bool b)) (hne : (b == b') = false) (hN : bN d N)
  (h : sx P N w0 Wr ops rest ((d, undef) :: fr) H Z) : sx P N w0 Wr ops (⟨some d, op, ty, pos, after, some (j, b')⟩ :: rest) fr H Z :=
 fun Q hQ a w ha hw => by
  have hy : yielded ops a.tmps j = some b := by
   have := ha.at_ t _ hb
   simp [yielded, hj, ht, this]
  unfold wpList
  have h2 : Region.wanted (⟨some d, op, ty, pos, after, some (j, b')⟩ : Oper) (yielded ops a.tmps) = false := by simp [Region.wanted, hy]; simpa using hne
  rw [if_neg (by simp [h2])]
  exact h Q hQ _ w (ha.put hN undef) hw
theorem sO0 {op : Op} {j t : Nat} {b b' : Bool} {oj : Oper} (h : sx P N w0 Wr ops rest ((d, undef) :: fr) H Z) (hj : ops[j]? = some oj := by exact rfl) (ht : oj.dst = some t := by exact rfl) (hb : lk fr t = some (.bool b) := by exact rfl) (hne : (b == b') = false := by exact rfl) (hN : bN d N := by exact rfl) : sx P N w0 Wr ops (⟨some d, op, ty, pos, after, some (j, b')⟩ :: rest) fr H Z := sO hj ht hb hne hN h
theorem jB3 {l : List Oper} (t : Nat) {b : Bool} (hb : lk fr t = some (.bool b)) (h1 : b = true → sx P N w0 Wr ops l ((t, .bool true) :: fr) H Z) (h2 : b = false → sx P N w0 Wr ops l ((t, .bool false) :: fr) H Z) : sx P N w0 Wr ops l fr H Z := by
 have key : ∀ c, b = c → sx P N w0 Wr ops l ((t, .bool c) :: fr) H Z → sx P N w0 Wr ops l fr H Z := fun c hc h Q hQ a w ha hw => by
  refine h Q hQ a w ⟨ha.size, ha.defers, fun k v hv => ?_⟩ hw
  simp only [lk] at hv
  cases hbq : Nat.beq t k with
  | true =>
   rw [hbq] at hv
   obtain rfl := x6 hbq
   simp only [cond_true] at hv
   rw [← hv, ← hc]
   exact ha.at_ t _ hb
  | false => rw [hbq] at hv; exact ha.at_ k v hv
 cases hbb : b with
 | true => exact key true hbb (h1 hbb)
 | false => exact key false hbb (h2 hbb)
end
section
variable {P : Program} {N : Frm} {w0 : World} {Wr : List Nat} {fr : Fr} {H : Heap} {Q : Exit → Act → World → Prop}
theorem jA0 {id : Nat} {l : List Oper} {y : Code} (F : Fr) (HH : Heap) (h : ∀ Z : Fr → Heap → Prop, (∀ fr H, Kn F fr → HLe HH H → Z fr H) → sx P N w0 Wr l.toArray l fr H Z) (hy : awp P N w0 Wr y F HH Q) : awp P N w0 Wr (.seq (.region id l.toArray false) y) fr H Q :=
 aR fun Z hZ => h Z fun fr H hk hh => hZ fr H fun a w ha hw => hy a w (ha.kn hk) (hh _ _ _ hw)
end
end
section
open Go.RowKit
def EqV (P : Program) (d : Nat) (t : TypeId) (x y : Value) (b : Bool) : Prop := ∀ w, (Op.equalIn d t x y).run P w = .ok b w
inductive EqF (P : Program) (d : Nat) (xs ys : List Value) : List Field → Bool → Prop
 | nil : EqF P d xs ys [] true
 | cons {f : Field} {r : List Field} {x y : Value} {b c : Bool} {n : Nat} {ag : Bool} (hn : (f.name == "_") = false) (ha : tyAgg P f.type = some ag) (hs : tySize P f.type = some n) (hx : rdV ag n xs f.offset = some x) (hy : rdV ag n ys f.offset = some y)
   (h : EqV P d f.type x y b) (k : EqF P d xs ys r c) : EqF P d xs ys (f :: r) (b && c)
theorem wO4 {P : Program} {d : Nat} {xs ys : List Value} {w : World} : ∀ {fs : List Field} {b : Bool}, EqF P d xs ys fs b →
  (forIn (m := Sem) fs ((none : Option Bool), ()) fun f __s =>
   if f.name ≠ "_" then do
    let l ← part f.type xs.toArray f.offset
    let l1 ← part f.type ys.toArray f.offset
    let l2 ← Op.equalIn d f.type l l1
    if (!l2) = true then pure (ForInStep.done (some false, ())) else pure (ForInStep.yield (none, ()))
   else pure (ForInStep.yield (none, ()))).run P w = .ok (if b then (none, ()) else (some false, ())) w
 | [], _, .nil => by simp
 | f :: r, _, .cons (b := b) (c := c) hn ha hs hx hy h k => by
  have hn' : f.name ≠ "_" := by simpa using hn
  rw [List.forIn_cons]
  simp only [hn', ne_eq, not_false_eq_true, if_true, lJ, kW2 ha hs hx, kW2 ha hs hy, lR, h w]
  cases b with
  | false => simp
  | true => simpa using wO4 k
theorem EqV.struct {P : Program} {d : Nat} {t : TypeId} {fs : List Field} {xs ys : List Value} {b : Bool} (ht : P.underlying t = some (.struct fs.toArray)) (hs : P.stoodInHeld t = false) (h : EqF P d xs ys fs b) : EqV P (d + 1) t (.agg xs.toArray) (.agg ys.toArray) b := fun w => by
 unfold Op.equalIn
 simp only [lJ, run_underlying ht, lR, program, Sem.run, hs, zV, if_false]
 rw [← Array.forIn_toList]
 have := wO4 (P := P) (w := w) h
 simp only []
 rw [this]
 cases b <;> simp
theorem EqV.int {P : Program} {d : Nat} {t : TypeId} {k k' : IntKind} {m n : Int} (ht : P.underlying t = some (.int k')) : EqV P (d + 1) t (.int k m) (.int k n) (m == n) := fun w => by
 unfold Op.equalIn
 simp [lJ, run_underlying ht]
section
variable {P : Program} {N : Frm} {w0 : World} {Wr : List Nat} {ops : Array Oper} {rest : List Oper} {fr : Fr} {H : Heap} {Z : Fr → Heap → Prop}
variable {d ty : Nat} {pos : String} {after : Array Edge}
theorem yQ7 {t t' : TypeId} {x y : Operand} {xs ys : List Value} {b : Bool} (hE : EqV P 10000 t (.agg xs.toArray) (.agg ys.toArray) b) (hG : P.eqGuardType P.depth t = false) (hx : ev fr x = some (.agg xs.toArray)) (hy : ev fr y = some (.agg ys.toArray)) (hN : bN d N)
  (h : sx P N w0 Wr ops rest ((d, .bool (!b)) :: fr) H Z) : sx P N w0 Wr ops (⟨some d, .binOp .neq t x y t', ty, pos, after, none⟩ :: rest) fr H Z :=
 jE4 _ hN (fun a w ha _ => by
  have hg : (eqGuard .neq t x y (.agg xs.toArray) (.agg ys.toArray)).run P w = .ok () w := by
   simp [eqGuard, program, lJ, Sem.run, hG]
  have he : (Op.equal t (.agg xs.toArray) (.agg ys.toArray)).run P w = .ok b w := hE w
  simp only [execOp, ha.eval hx, ha.eval hy, lJ, hg, lR, binOp, he, l7]) h
theorem jB9 {l : List Oper} (t : Nat) {b : Bool} (hb : lk fr t = some (.bool b)) (c : Bool) (e : b = c) (h : sx P N w0 Wr ops l ((t, .bool c) :: fr) H Z) : sx P N w0 Wr ops l fr H Z := by
 subst e
 cases b
 ·exact jB3 t hb (fun hh => by cases hh) (fun _ => h)
 ·exact jB3 t hb (fun _ => h) (fun hh => by cases hh)
end
theorem sAN {P : Program} {N : Frm} {w0 : World} {Wr : List Nat} {ops : Array Oper} {fr : Fr} {H : Heap} {d ty : Nat} {pos : String} {after : Array Edge} {x : Operand} {v : Value} {Z K : Fr → Heap → Prop} (hZ : ∀ fr H, K fr H → Z fr H) (hx : ev fr x = some v) (hN : bN d N) (k : K ((d, v) :: fr) H) : sx P N w0 Wr ops [⟨some d, .assign x, ty, pos, after, none⟩] fr H Z := sA hx hN (sN (hZ _ _ k))
theorem sMN {P : Program} {N : Frm} {w0 : World} {Wr : List Nat} {ops : Array Oper} {fr : Fr} {H : Heap} {d ty : Nat} {pos : String} {after : Array Edge} {x : Operand} {v : Value} {Z K : Fr → Heap → Prop} (hZ : ∀ fr H, K fr H → Z fr H) (hx : ev fr x = some v) (hN : bN d N) (k : K ((d, v) :: fr) H) : sx P N w0 Wr ops [⟨some d, .move x, ty, pos, after, none⟩] fr H Z := sM hx hN (sN (hZ _ _ k))
theorem aA {P : Program} {N : Frm} {w0 : World} {Wr : List Nat} {fr : Fr} {H : Heap} {d ty : Nat} {pos : String} {after : Array Edge} {x : Operand} {v : Value} {id : Nat} {y : Code} {Q : Exit → Act → World → Prop} (hx : ev fr x = some v) (hN : bN d N) (k : awp P N w0 Wr y ((d, v) :: fr) H Q) : awp P N w0 Wr (.seq (.region id [(⟨some d, .assign x, ty, pos, after, none⟩ : Oper)].toArray false) y) fr H Q := aR fun _ hZ => sA hx hN (sN (hZ _ _ k))
end
end Go.Proofs.YteofkgedfjffcaaGreatDoor
