/- Walks and plain laws for this claim (texts Gva1, joined). Each theorem states its own conditions. -/
import Derived.Test.YtkojkeabelckjaaGreatDoorJ05
import Derived.Test.YtkojkeabelckjaaGreatDoorJ07
import Derived.Test.YtkojkeabelckjaaGreatDoorJ04
import Derived.Shelf.Strconv.Itoa0

set_option linter.all false
namespace Go.Proofs.YtkojkeabelckjaaGreatDoor.V
open Go.RowKit
def vb (x : Nat) : List UInt8 := if x < 128 then [UInt8.ofNat x] else UInt8.ofNat (x % 128 + 128) :: vb (x / 128)
theorem vb_lt {x : Nat} (h : x < 128) : vb x = [UInt8.ofNat x] := by rw [vb, if_pos h]
theorem vb_ge {x : Nat} (h : 128 ≤ x) : vb x = UInt8.ofNat (x % 128 + 128) :: vb (x / 128) := by rw [vb, if_neg (by omega)]
theorem vb_pos (x : Nat) : 0 < (vb x).length := by
 rw [vb]; split <;> simp
theorem vb_len_le : ∀ (k x : Nat), x < 128 ^ (k + 1) → (vb x).length ≤ k + 1
 | 0, x, h => by rw [vb_lt (by simpa using h)]; simp
 | k + 1, x, h => by
  rcases Nat.lt_or_ge x 128 with h1 | h1
  ·rw [vb_lt h1]; simp
  ·rw [vb_ge h1, List.length_cons]
   have := vb_len_le k (x / 128) (by rw [Nat.div_lt_iff_lt_mul (by omega)]; rw [Nat.pow_succ] at h; exact h)
   omega
theorem vb_len10 {x : Nat} (h : x < 18446744073709551616) : (vb x).length ≤ 10 := vb_len_le 9 x (by omega)
theorem or128 : ∀ m : Nat, m < 256 → bitsV .or .u8 (m : Int) 128 = ((m % 128 + 128 : Nat) : Int) := by decide +kernel
theorem elemU8v : ElemOk Tryz.prog 132 5 1 1 := ElemOk.mk_ (z := .int .u8 0) Tryz.underlying132 (by kernel_rfl) rfl (by omega)
theorem bv_one1 (b : List UInt8) : (bv b).all Value.oneCell' = true := List.all_eq_true.2 (bv_one b)
theorem u8_wrap (x : Nat) : IntKind.u8.wrap (x : Int) = ((x % 256 : Nat) : Int) := by simp [IntKind.wrap, IntKind.bits, IntKind.signed]
theorem or_y (y : Nat) : bitsV .or .u8 (IntKind.u8.wrap (y : Int)) 128 = ((y % 128 + 128 : Nat) : Int) := by
 rw [u8_wrap, or128 _ (by omega), Nat.mod_mod_of_dvd y (by decide : 128 ∣ 256)]
theorem fdiv7 (y : Nat) : (y : Int).fdiv (2 ^ (min (7 : Int).toNat IntKind.u64.bits)) = ((y / 128 : Nat) : Int) := by
 show (y : Int).fdiv 128 = _
 rw [Int.fdiv_eq_ediv_of_nonneg _ (by omega)]
 omega
theorem lay_fn (v : Value) (b : List UInt8) (x : Nat) (hv : RowOk v b.length) (hx : x < 18446744073709551616) (hb : b.length ≤ 1000000) :
  Fn Tryz.prog 99 [v, uq x] (rowE v 5 1 (bv b)) fun u H' => RowOk u (b ++ vb x).length ∧ H' = rowE u 5 1 (bv (b ++ vb x)) := by
 refine Fn.enter (N := 20) Tryz.func99 rfl (by kernel_rfl) rfl (fun w0 => ?_)
 refine aR fun Z hZ => sA rfl rfl <| sN (hZ _ _ ?_)
 refine aF [(0, _), (1, _)] (kR rfl) ?_
 refine aS (aB ?_)
 refine jB6 (ι := Value × List UInt8 × Nat) (fun i => [(0, i.1), (1, uq i.2.2)]) (fun i => rowE i.1 5 1 (bv i.2.1))
  (fun i => RowOk i.1 i.2.1.length ∧ i.2.2 < 18446744073709551616 ∧ i.2.1 ++ vb i.2.2 = b ++ vb x) (fun i => i.2.2) (v, b, x) ⟨hv, hx, rfl⟩ (kR rfl) (HLe.refl _) ?_
 rintro ⟨u, c, y⟩ ⟨hu, hy, hc⟩
 simp only at hu hy hc
 have hcl : c.length ≤ 1000010 := by
  have h1 := congrArg List.length hc
  have h2 := vb_len10 hx
  simp at h1
  omega
 refine aS ?_
 refine aR fun Z hZ => sM rfl rfl ?_
 refine jF3 rfl rfl rfl ?_
 refine sN (hZ _ _ ?_)
 refine aF [(0, _), (1, _), (6, _)] (kR rfl) ?_
 refine aC rfl (fun h => ?_) (fun h => ?_)
 ·have hge : 128 ≤ y := by simp at h; omega
  refine aK ?_
  with_reducible refine nN ?_
  refine aB ?_
  refine aR fun Z hZ => sM rfl rfl <| sM rfl rfl ?_
  refine jC2 Tryz.underlying45 Tryz.underlying5 rfl _ rfl rfl ?_
  refine sx_bits (.inr (.inl rfl)) rfl rfl ((y % 128 + 128 : Nat) : Int) (or_y y) rfl ?_
  refine sBS Tryz.underlying132 tyS5 tyZ5 rfl rfl rfl rfl (by simp only [qS, Value.cells, wrV, jG9, List.replicate_succ, List.replicate_zero, Nat.reduceMul, Nat.zero_mul]; rfl) rfl (fun g1 => ?_)
  refine jD2 [_] elemU8v rfl hu (by simp [bv_length]) rfl (fun w hw => rd_own (i := 0) (xs := bv [UInt8.ofNat (y % 128 + 128)]) (by show some (Ent.own _ _ [Value.int .u8 _]) = some (Ent.own _ _ [Value.int .u8 _]); rw [show (UInt8.ofNat (y % 128 + 128)).toNat = y % 128 + 128 by simp; omega]) (by rw [bv_length]; rfl) hw) (bv_one1 _) (by show _ ≤ 9223372036854775807; omega) (by omega) (HLe.refl _) rfl (fun v2 hv2 => ?_)
  rw [← bv_append]
  refine sA rfl rfl <| sN (hZ _ _ ?_)
  refine aF [(0, _), (1, _)] (kR rfl) ?_
  refine aG (fun Z hZ => ?_)
  refine sM rfl rfl ?_
  refine sx_shr rfl rfl (by decide) ((y / 128 : Nat) : Int) (fdiv7 y) rfl ?_
  refine sA rfl rfl <| sN (hZ _ _ ?_)
  refine nF [(0, _), (1, _)] (kR rfl) ?_
  repeat (with_reducible refine nBN ?_)
  refine jB5 (v2, c ++ [UInt8.ofNat (y % 128 + 128)], y / 128) ⟨by simpa using hv2, by show y / 128 < _; omega, ?_⟩ (by simp; omega) (kR rfl) (HLe.sub (List.sublist_append_right _ _))
  rw [← hc, vb_ge hge]; simp
 ·refine jB1 ?_
  repeat (with_reducible refine nTE ?_)
  with_reducible refine nBE ?_
  with_reducible refine nN ?_
  have hlt : y < 128 := by simp at h; omega
  rw [vb_lt hlt] at hc
  refine aR fun Z hZ => sM rfl rfl <| sM rfl rfl ?_
  refine jC2 Tryz.underlying45 Tryz.underlying5 rfl _ rfl rfl ?_
  refine sBS Tryz.underlying132 tyS5 tyZ5 rfl rfl rfl rfl (by simp only [qS, Value.cells, wrV, jG9, List.replicate_succ, List.replicate_zero, Nat.reduceMul, Nat.zero_mul]; rfl) rfl (fun g2 => ?_)
  refine jD2 [_] elemU8v rfl hu (by simp [bv_length]) rfl (fun w hw => rd_own (i := 0) (xs := bv [UInt8.ofNat y]) (by show some (Ent.own _ _ [Value.int .u8 _]) = some (Ent.own _ _ [Value.int .u8 _]); rw [show (UInt8.ofNat y).toNat = y % 256 by simp, u8_wrap]) (by rw [bv_length]; rfl) hw) (bv_one1 _) (by show _ ≤ 9223372036854775807; omega) (by omega) (HLe.refl _) rfl (fun v2 hv2 => ?_)
  rw [← bv_append, hc]
  refine sA rfl rfl <| sN (hZ _ _ ?_)
  refine aF [(4, _)] (Kn.cons rfl (Kn.nil)) ?_
  refine aE ?_
  refine jD4 _ rfl rfl (HLe.sub (List.sublist_append_right _ _)) ⟨by rw [← hc]; simpa using hv2, rfl⟩
end Go.Proofs.YtkojkeabelckjaaGreatDoor.V
namespace Go.Proofs.YtkojkeabelckjaaGreatDoor.V
open Go.RowKit
def len_rho : Go.Shelf.Ren := ⟨fun n => match n with | 0 => 0 | 1 => 1 | 2 => 2 | 99 => 152 | 103 => 173 | 119 => 225 | 120 => 224 | 125 => 81 | 128 => 129 | 129 => 130 | 137 => 131 | 150 => 175 | 151 => 211 | 152 => 213 | 153 => 203 | 156 => 62 | 160 => 174 | 161 => 172 | 165 => 104 | 166 => 105 | 168 => 190 | 169 => 106 | 171 => 230 | 172 => 176 | 197 => 191 | 205 => 229 | 206 => 184 | 210 => 199 | 217 => 164 | 224 => 226 | 225 => 227 | 226 => 214 | 227 => 196 | 228 => 210 | 231 => 195 | 232 => 200 | 233 => 197 | 234 => 201 | 235 => 198 | 236 => 202 | 240 => 149 | 241 => 150 | 242 => 208 | 243 => 234 | 244 => 204 | 245 => 205 | 246 => 235 | 247 => 215 | 260 => 209 | 266 => 188 | 271 => 212 | 276 => 182 | 277 => 183 | 278 => 223 | 279 => 216 | 280 => 217 | 281 => 218 | 282 => 219 | 283 => 236 | 284 => 237 | 285 => 238 | 286 => 239 | 287 => 228 | 316 => 141 | 317 => 240 | 318 => 241 | 319 => 242 | 320 => 243 | 321 => 232 | 322 => 233 | 329 => 160 | 330 => 161 | 337 => 244 | 338 => 245 | 347 => 246 | 348 => 247 | 349 => 248 | 350 => 249 | 351 => 250 | 352 => 251 | 353 => 252 | 354 => 253 | 355 => 254 | 356 => 255 | 357 => 256 | 358 => 257 | 359 => 258 | 360 => 259 | 361 => 260 | 362 => 265 | 363 => 269 | 364 => 267 | 365 => 268 | 366 => 270 | 367 => 280 | _ => 0, fun n => match n with | 0 => 0 | 1 => 1 | 2 => 2 | 3 => 3 | 4 => 4 | 5 => 5 | 6 => 6 | 7 => 7 | 8 => 8 | 9 => 9 | 10 => 10 | 11 => 11 | 12 => 12 | 13 => 13 | 14 => 14 | 15 => 15 | 16 => 16 | 17 => 17 | 18 => 18 | 19 => 19 | 20 => 20 | 21 => 21 | 22 => 256 | 23 => 283 | 24 => 103 | 25 => 284 | 27 => 312 | 28 => 247 | 31 => 147 | 37 => 132 | 40 => 332 | 41 => 282 | 46 => 48 | 47 => 172 | 51 => 112 | 52 => 243 | 53 => 45 | 54 => 193 | 55 => 244 | 63 => 317 | 64 => 318 | 67 => 146 | 69 => 190 | 70 => 203 | 71 => 204 | 72 => 205 | 73 => 206 | 74 => 207 | 75 => 208 | 76 => 209 | 77 => 210 | 79 => 301 | 80 => 126 | 81 => 148 | 83 => 338 | 84 => 346 | 85 => 320 | 86 => 321 | 99 => 288 | 104 => 342 | 105 => 302 | 106 => 303 | 108 => 337 | 111 => 289 | 114 => 164 | 115 => 306 | 116 => 307 | 117 => 308 | 118 => 309 | 119 => 328 | 122 => 305 | 123 => 310 | 124 => 311 | 126 => 316 | 127 => 254 | 128 => 313 | 131 => 101 | 137 => 329 | 138 => 330 | 139 => 331 | 143 => 343 | 144 => 344 | 145 => 345 | 148 => 232 | 164 => 290 | 165 => 291 | 166 => 292 | 167 => 319 | 168 => 322 | 169 => 323 | 170 => 324 | 171 => 347 | 172 => 348 | 173 => 349 | 174 => 350 | 175 => 333 | 176 => 334 | 182 => 237 | 183 => 238 | 203 => 339 | 209 => 335 | 210 => 336 | 211 => 351 | 212 => 352 | 213 => 353 | 214 => 341 | 218 => 268 | 219 => 269 | 220 => 218 | 222 => 271 | 228 => 296 | 229 => 297 | 232 => 354 | 233 => 355 | 238 => 356 | 239 => 357 | 240 => 358 | 241 => 359 | 242 => 360 | 243 => 361 | 244 => 362 | 245 => 363 | 246 => 364 | 247 => 365 | 248 => 366 | 249 => 367 | _ => 0, fun n => match n with | 1 => 0 | 3 => 1 | 4 => 2 | 15 => 3 | 16 => 4 | 17 => 5 | 18 => 6 | 19 => 7 | _ => 0⟩
theorem len0 : Lays.n129 Tryz.prog len_rho where
 mixed := by kernel_rfl
 f129 := by kernel_rfl
 t3 := by kernel_rfl
 a3 := fun w => by kernel_rfl
 z3 := fun w => by kernel_rfl
 v3 := fun w => by kernel_rfl
 t4 := by kernel_rfl
 a4 := fun w => by kernel_rfl
 z4 := fun w => by kernel_rfl
 v4 := fun w => by kernel_rfl
 t5 := by kernel_rfl
 a5 := fun w => by kernel_rfl
 z5 := fun w => by kernel_rfl
 v5 := fun w => by kernel_rfl
 t9 := by kernel_rfl
 a9 := fun w => by kernel_rfl
 z9 := fun w => by kernel_rfl
 v9 := fun w => by kernel_rfl
 t46 := by kernel_rfl
 a46 := fun w => by kernel_rfl
 z46 := fun w => by kernel_rfl
 v46 := fun w => by kernel_rfl
 t53 := by kernel_rfl
 a53 := fun w => by kernel_rfl
 z53 := fun w => by kernel_rfl
 v53 := fun w => by kernel_rfl
theorem enter_len64 : Enters Tryz.prog 130 := Enters.mk Tryz.func130 (by kernel_rfl) (by kernel_rfl)
theorem len64_fn (x : Nat) (hx : x < 18446744073709551616) : Fn Tryz.prog 130 [uq x] [] fun v _ => v = iq (Lib.bitLen x : Nat) :=
 Fn.of_same enter_len64 fun w => (Any.bits_Len64 len0 (x : Int) w (by omega) (by omega)).mono fun e w' ⟨he, hw⟩ => ⟨by rw [he]; rfl, hw.symm⟩
theorem bl_pos {x : Nat} (h0 : x ≠ 0) (h : x < 2 ^ 64) : 1 ≤ Lib.bitLen x := by rw [Lib.bitLen_half x h0 h]; omega
theorem size_eq (x : Nat) : x < 18446744073709551616 → max 1 ((Lib.bitLen x + 6) / 7) = (vb x).length := by
 induction x using Nat.strongRecOn with
 | _ x ih =>
  intro hx
  rcases Nat.lt_or_ge x 128 with h | h
  ·rw [vb_lt h]
   have := Lib.bitLen_le x 7 (by omega) (by omega)
   simp only [List.length_singleton]
   omega
  ·rw [vb_ge h, List.length_cons, ← ih (x / 128) (by omega) (by omega), Lib.bitLen_shift 7 x (by omega) (by omega)]
   have := bl_pos (x := x / 128) (by omega) (by omega)
   rw [show (2 : Nat) ^ 7 = 128 from rfl]
   omega
theorem vsize_fn (x : Nat) (hx : x < 18446744073709551616) : Fn Tryz.prog 95 [uq x] [] fun v _ => v = iq ((vb x).length : Nat) := by
 have hb := Lib.bitLen_le x 64 (by omega) (by omega)
 refine Fn.enter (N := 8) Tryz.func95 rfl (by kernel_rfl) rfl (fun w0 => ?_)
 refine aR fun Z hZ => sA rfl rfl <| sN (hZ _ _ ?_)
 refine aF [(0, _)] (Kn.cons rfl (Kn.nil)) ?_
 refine aR fun Z hZ => sM rfl rfl ?_
 refine sCP (len64_fn x hx) rfl rfl ?_
 refine jB8 rfl rfl ((Lib.bitLen x + 6 : Nat) : Int) (by rw [IntWalk.i64_in _ (by omega)]; omega) rfl ?_
 refine sx_quo rfl rfl (by decide) (((Lib.bitLen x + 6) / 7 : Nat) : Int) (by rw [Int.tdiv_eq_ediv_of_nonneg (by omega), IntWalk.i64_in _ (by omega)]; omega) rfl ?_
 refine sx_max rfl rfl (((vb x).length : Nat) : Int) (by rw [← size_eq x hx]; omega) rfl ?_
 refine sA rfl rfl <| sN (hZ _ _ ?_)
 refine aF [(2, _)] (Kn.cons rfl (Kn.nil)) ?_
 refine aE ?_
 exact nR1 rfl rfl rfl
def allB (xs : List Nat) : List UInt8 := xs.flatMap vb
theorem allB_len {xs : List Nat} (h : ∀ x ∈ xs, x < 18446744073709551616) : (allB xs).length ≤ 10 * xs.length := by
 induction xs with
 | nil => simp [allB]
 | cons x r ih =>
  have h1 := vb_len10 (h x List.mem_cons_self)
  have h2 := ih fun y hy => h y (List.mem_cons_of_mem _ hy)
  simp only [allB, List.flatMap_cons, List.length_append, List.length_cons] at h2 ⊢
  omega
theorem allB_take {xs : List Nat} {k : Nat} (h : k < xs.length) : allB (xs.take (k + 1)) = allB (xs.take k) ++ vb xs[k] := by
 simp only [allB]
 rw [List.take_succ_eq_append_getElem h, List.flatMap_append]
 simp only [List.flatMap_cons, List.flatMap_nil, List.append_nil]
abbrev uqL (l : List Nat) : List Value := l.map uq
theorem all_fn (g c : Nat) (xs : List Nat) (hx : ∀ x ∈ xs, x < 18446744073709551616) (hl : xs.length ≤ 50000) :
  Fn Tryz.prog 58 [.slice (some ⟨g, 0, none⟩) xs.length c] [.ob g (RowP 45 1 xs.length c (uqL xs))] fun u H' => RowOk u (allB xs).length ∧ H' = rowE u 5 1 (bv (allB xs)) := by
 refine Fn.enter (N := 17) Tryz.func58 rfl (by kernel_rfl) rfl (fun w0 => ?_)
 refine aR fun Z hZ => sA rfl rfl <| sN (hZ _ _ ?_)
 refine aF [(0, _)] (Kn.cons rfl (Kn.nil)) ?_
 refine aR fun Z hZ => sA rfl rfl <| sN (hZ _ _ ?_)
 refine aF [(0, _), (3, _)] (kR rfl) ?_
 refine aS ?_
 refine aR fun Z hZ => sM rfl rfl ?_
 refine jD9 Tryz.underlying135 rfl rfl ?_
 refine sM rfl rfl <| sN (hZ _ _ ?_)
 refine aF [(3, _), (6, _), (7, _), (8, _)] (kR rfl) ?_
 refine aB ?_
 refine jB6 (ι := Nat × Value) (fun i => [(3, i.2), (6, .slice (some ⟨g, 0, none⟩) xs.length c), (7, iq (xs.length : Nat)), (8, iq (i.1 : Nat))]) (fun i => .ob g (RowP 45 1 xs.length c (uqL xs)) :: rowE i.2 5 1 (bv (allB (xs.take i.1))))
  (fun i => i.1 ≤ xs.length ∧ RowOk i.2 (allB (xs.take i.1)).length) (fun i => xs.length - i.1) (0, .slice none 0 0) ⟨by simp, RowOk.nil⟩ (kR rfl) (HLe.refl _) ?_
 rintro ⟨k, u⟩ ⟨hk, hu⟩
 simp only at hk hu
 have hlen := allB_len (xs := xs.take k) fun x h => hx x (List.mem_of_mem_take h)
 rw [List.length_take, Nat.min_eq_left hk] at hlen
 refine aR (fun Z hZ => ?_)
 refine jC4 rfl rfl rfl ?_
 refine sN (hZ _ _ ?_)
 refine aF [(3, _), (6, _), (7, _), (8, _), (9, _)] (kR rfl) ?_
 refine aS (aC rfl (fun h => ?_) (fun h => ?_))
 ·have hlt : k < xs.length := by simpa using h
  have hxk : xs[k] < 18446744073709551616 := hx _ (List.getElem_mem _)
  have hrd : rdV false 1 (uqL xs) k = some (uq xs[k]) := by show (uqL xs)[k]? = _; simp [hlt]
  refine aK ?_
  with_reducible refine nN ?_
  refine aS (aB ?_)
  refine aR (fun Z hZ => ?_)
  refine jA6 (k * 1) Tryz.underlying135 tyS45 rfl rfl (by omega) (by simp) rfl ?_
  refine sx_loadRd (o := 0) k rfl (by omega) (fun w hw => rd_row (i := 0) rfl hw) (by omega) tyA45 tyS45 hrd rfl ?_
  refine sA rfl rfl <| sN (hZ _ _ ?_)
  refine aF [(3, _), (5, _), (6, _), (7, _), (8, _)] (kR rfl) ?_
  refine aG (fun Z hZ => ?_)
  refine sM rfl rfl <| sM rfl rfl ?_
  refine jD3 (rowE u 5 1 (bv (allB (xs.take k)))) [_] (lay_fn u (allB (xs.take k)) xs[k] hu hxk (by omega)) rfl (HLe.swap [_] _) rfl ?_
  rintro u2 H' ⟨hu2, rfl⟩
  rw [jE4, ← allB_take hlt]
  rw [← allB_take hlt] at hu2
  refine sA rfl rfl <| sN (hZ _ _ ?_)
  refine nF [(3, _), (6, _), (7, _), (8, _)] (kR rfl) ?_
  repeat (with_reducible refine nBN ?_)
  with_reducible refine nN ?_
  refine aG (fun Z hZ => ?_)
  refine jB8 rfl rfl ((k + 1 : Nat) : Int) (by rw [IntWalk.i64_in _ (by omega)]; omega) rfl ?_
  refine sM rfl rfl <| sN (hZ _ _ ?_)
  refine nF [(3, _), (6, _), (7, _), (8, _)] (kR rfl) ?_
  exact jB5 (k + 1, u2) ⟨by show k + 1 ≤ _; omega, hu2⟩ (by simp; omega) (kR rfl) (HLe.swap _ [_])
 ·refine jB1 ?_
  repeat (with_reducible refine nTE ?_)
  with_reducible refine nBE ?_
  with_reducible refine nN ?_
  have hke : k = xs.length := by simp at h; omega
  subst hke
  rw [List.take_length] at hu ⊢
  refine aR fun Z hZ => sM rfl rfl <| sA rfl rfl <| sN (hZ _ _ ?_)
  refine aF [(2, _)] (Kn.cons rfl (Kn.nil)) ?_
  refine aE ?_
  exact jD4 _ rfl rfl (HLe.sub (List.sublist_cons_self _ _)) ⟨hu, rfl⟩
end Go.Proofs.YtkojkeabelckjaaGreatDoor.V
namespace Go.Proofs.YtkojkeabelckjaaGreatDoor.V
open Go.RowKit
def dat (t : List UInt8) (i : Nat) : Nat := (t.getD i 0).toNat
def valL : List UInt8 → Nat
 | [] => 0
 | b :: r => b.toNat % 128 + 128 * valL r
def cnt : Nat → List UInt8 → Nat
 | 0, _ => 0
 | _ + 1, [] => 0
 | k + 1, b :: r => if 128 ≤ b.toNat then cnt k r + 1 else 0
theorem cnt_le : ∀ (k : Nat) (t : List UInt8), cnt k t ≤ k ∧ cnt k t ≤ t.length
 | 0, t => by simp [cnt]
 | k + 1, [] => by simp [cnt]
 | k + 1, b :: r => by
  have := cnt_le k r
  simp only [cnt, List.length_cons]
  split <;> omega
theorem dat_cons (b : UInt8) (r : List UInt8) (i : Nat) : dat (b :: r) (i + 1) = dat r i := by simp [dat]
theorem cnt_in : ∀ (k : Nat) (t : List UInt8) (i : Nat), i < cnt k t → 128 ≤ dat t i
 | 0, t, i, h => by simp [cnt] at h
 | k + 1, [], i, h => by simp [cnt] at h
 | k + 1, b :: r, i, h => by
  simp only [cnt] at h
  split at h
  ·cases i with
   | zero => simpa [dat] using ‹128 ≤ b.toNat›
   | succ i => rw [dat_cons]; exact cnt_in k r i (by omega)
  ·omega
theorem cnt_at : ∀ (k : Nat) (t : List UInt8), cnt k t < k → cnt k t < t.length → dat t (cnt k t) < 128
 | 0, t, h, _ => by omega
 | k + 1, [], _, h => by simp [cnt] at h
 | k + 1, b :: r, h1, h2 => by
  simp only [cnt] at h1 h2 ⊢
  split
  ·rename_i hb
   rw [if_pos hb] at h1 h2
   rw [dat_cons]
   exact cnt_at k r (by omega) (by simpa using h2)
  ·rename_i hb
   simpa [dat] using hb
def jC7 (t : List UInt8) : Nat × Nat :=
 if cnt 10 t = 10 then (11, 0) else if cnt 10 t = t.length then (3, 0) else if cnt 10 t = 9 ∧ 1 < dat t 9 then (11, 0) else if 0 < cnt 10 t ∧ dat t (cnt 10 t) = 0 then (4, 0) else (0, cnt 10 t + 1)
def getQ (s : List UInt8) (p : Nat) : Nat × Nat × Nat :=
 if (jC7 (s.drop p)).1 = 0 then (valL ((s.drop p).take (jC7 (s.drop p)).2), p + (jC7 (s.drop p)).2, 0) else (0, p, (jC7 (s.drop p)).1)
def scV (s : List UInt8) (p e : Nat) : Value := .agg #[.string (str s), iq p, iq e]
def getV (g : Nat × Nat × Nat) (s : List UInt8) : Value := .tuple #[uq g.1, scV s g.2.1 g.2.2]
theorem getD_at {t : List UInt8} {i : Nat} (h : i < t.length) : t[i]? = some (t.getD i 0) := by simp [h]
theorem vbad_fn (s : List UInt8) (p e0 e : Nat) : Fn Tryz.prog 156 [scV s p e0, iq e] [] fun v _ => v = .tuple #[uq 0, scV s p e] := by
 refine Fn.enter (N := 9) Tryz.func156 rfl (by kernel_rfl) rfl (fun w0 => ?_)
 refine aR (fun Z hZ => ?_)
 refine jC3 rfl rfl rfl (fun g1 => ?_)
 refine sA rfl rfl ?_
 refine sAl tyZ220 rfl (fun g2 => ?_)
 refine sN (hZ _ _ ?_)
 refine aF [(1, _), (2, _), (5, _)] (kR rfl) ?_
 refine aR fun Z hZ => sM rfl rfl ?_
 refine sFA rfl tyF220_2 (by simp only [Nat.zero_add]; rfl) rfl ?_
 refine sS1 1 rfl rfl rfl tyS32 rfl rfl rfl (by simp only [qS]; rfl) ?_
 refine sN (hZ _ _ ?_)
 refine aF [(2, _), (5, _)] (kR rfl) ?_
 refine awd_seq_region [0, 1, 2] mixed (by kernel_rfl) rfl (fun Z hZ => ?_)
 refine sLA 1 rfl rfl tyA220 tyS220 rfl (by simp only [List.drop_zero, Value.cells]; rfl) rfl ?_
 refine sA rfl rfl ?_
 refine sS 0 rfl rfl rfl tyS220 (by simp only [Value.cells]; rfl) rfl rfl rfl (by simp only [qS, wrV]; rfl) (by simp only [List.set_cons_zero]; rfl) ?_
 refine sN (hZ _ _ ?_)
 refine aF [(4, _), (5, _)] (kR rfl) ?_
 refine aE ?_
 exact jF9 rfl rfl (ResOk.cell 0 rfl rfl tyA220 tyS220 rfl) rfl
theorem valL_lt : ∀ l : List UInt8, valL l < 128 ^ l.length
 | [] => by simp [valL]
 | b :: r => by
  have := valL_lt r
  rw [List.length_cons, Nat.pow_succ]
  simp only [valL]
  omega
theorem valL_snoc : ∀ (l : List UInt8) (b : UInt8), valL (l ++ [b]) = valL l + b.toNat % 128 * 128 ^ l.length
 | [], b => by simp [valL]
 | a :: r, b => by
  rw [List.cons_append, valL, valL, valL_snoc r b, List.length_cons, Nat.pow_succ, Nat.mul_add, Nat.add_assoc]
  congr 2
  rw [Nat.mul_comm 128, Nat.mul_assoc]
theorem valL_take {t : List UInt8} {i : Nat} (h : i < t.length) : valL (t.take (i + 1)) = valL (t.take i) + dat t i % 128 * 128 ^ i := by
 rw [List.take_succ_eq_append_getElem h, valL_snoc, List.length_take, Nat.min_eq_left (by omega)]
 simp [dat, h]
theorem and127 : ∀ m : Nat, m < 256 → bitsV .and .u8 (m : Int) 127 = ((m % 128 : Nat) : Int) := by decide +kernel
theorem pow7 (i : Nat) : 128 ^ i = 2 ^ (7 * i) := by rw [Nat.pow_mul]
theorem sh_or {x b i : Nat} (hi : i ≤ 9) (hx : x < 128 ^ i) : bitsV .or .u64 (x : Int) (IntKind.u64.wrap ((b : Int) * 2 ^ (min ((7 * i : Nat) : Int).toNat IntKind.u64.bits))) = (((x + b * 128 ^ i) % 18446744073709551616 : Nat) : Int) := by
 have h1 : (min ((7 * i : Nat) : Int).toNat IntKind.u64.bits) = 7 * i := by
  show min (7 * i) 64 = 7 * i
  omega
 have h2 : ((b : Int) * 2 ^ (7 * i)) = ((b * 2 ^ (7 * i) : Nat) : Int) := by push_cast; rfl
 have h64 : (18446744073709551616 : Nat) = 2 ^ (64 - 7 * i) * 2 ^ (7 * i) := by rw [← Nat.pow_add, show 64 - 7 * i + 7 * i = 64 by omega]
 have h3 : b * 2 ^ (7 * i) % 18446744073709551616 = (b % 2 ^ (64 - 7 * i)) * 2 ^ (7 * i) := by
  conv => lhs; rw [h64]
  rw [Nat.mul_mod_mul_right]
 have hw : ∀ m : Nat, IntKind.u64.wrap (m : Int) = ((m % 18446744073709551616 : Nat) : Int) := fun m => by simp [IntKind.wrap, IntKind.bits, IntKind.signed]
 have hb : ∀ m : Nat, m < 18446744073709551616 → (BitVec.ofInt IntKind.u64.bits (m : Int)).toNat = m := fun m hm => by
  show (BitVec.ofInt 64 (m : Int)).toNat = m
  rw [BitVec.toNat_ofInt]
  omega
 rw [pow7] at hx ⊢
 have hxs : x < 18446744073709551616 := Nat.lt_of_lt_of_le hx (by rw [show (18446744073709551616 : Nat) = 2 ^ 64 from rfl]; exact Nat.pow_le_pow_right (by omega) (by omega))
 have hq : b % 2 ^ (64 - 7 * i) < 2 ^ (64 - 7 * i) := Nat.mod_lt _ (Nat.pow_pos (by omega))
 have hsum : b % 2 ^ (64 - 7 * i) * 2 ^ (7 * i) + x < 18446744073709551616 := by
  rw [h64]
  calc b % 2 ^ (64 - 7 * i) * 2 ^ (7 * i) + x < b % 2 ^ (64 - 7 * i) * 2 ^ (7 * i) + 2 ^ (7 * i) := by omega
   _ = (b % 2 ^ (64 - 7 * i) + 1) * 2 ^ (7 * i) := by rw [Nat.add_mul, Nat.one_mul]
   _ ≤ 2 ^ (64 - 7 * i) * 2 ^ (7 * i) := Nat.mul_le_mul_right _ hq
 rw [h1, h2, hw, h3]
 have hm : b % 2 ^ (64 - 7 * i) * 2 ^ (7 * i) < 18446744073709551616 := by omega
 show IntKind.u64.wrap (((BitVec.ofInt IntKind.u64.bits (x : Int)) ||| (BitVec.ofInt IntKind.u64.bits ((b % 2 ^ (64 - 7 * i) * 2 ^ (7 * i) : Nat) : Int))).toNat : Int) = _
 rw [BitVec.toNat_or, hb x hxs, hb _ hm, Nat.or_comm, ← Nat.shiftLeft_eq, ← Nat.shiftLeft_add_eq_or_of_lt hx, Nat.shiftLeft_eq, hw, Nat.mod_eq_of_lt hsum]
 rw [show x + b * 2 ^ (7 * i) = b * 2 ^ (7 * i) + x by omega, Nat.add_mod, h3, Nat.mod_eq_of_lt hxs, Nat.mod_eq_of_lt hsum]
end Go.Proofs.YtkojkeabelckjaaGreatDoor.V
namespace Go.Proofs.YtkojkeabelckjaaGreatDoor.V
open Go.RowKit
theorem dat_lt (t : List UInt8) (i : Nat) : dat t i < 256 := (t.getD i 0).toNat_lt
theorem add7 (i : Nat) (hi : i ≤ 9) : IntKind.i64.wrap ((7 : Int) * (i : Int)) = ((7 * i : Nat) : Int) := by rw [IntWalk.i64_in _ (by omega)]; omega
theorem valL9 {t : List UInt8} {i : Nat} (hi : i ≤ 9) : valL (t.take i) < 128 ^ i :=
 Nat.lt_of_lt_of_le (valL_lt _) (Nat.pow_le_pow_right (by omega) (by rw [List.length_take]; omega))
theorem valL_mod {t : List UInt8} {k : Nat} (hk : k ≤ 9) (hl : k < t.length) (h9 : k = 9 → dat t 9 ≤ 1) : valL (t.take (k + 1)) % 18446744073709551616 = valL (t.take (k + 1)) := by
 have hb := valL9 (t := t) (i := k) hk
 refine Nat.mod_eq_of_lt ?_
 rw [valL_take hl]
 have hp : (128 : Nat) ^ k ≤ 128 ^ 9 := Nat.pow_le_pow_right (by omega) hk
 by_cases h : k = 9
 ·subst h
  have := h9 rfl
  have : dat t 9 % 128 ≤ 1 := by omega
  omega
 ·have hp : (128 : Nat) ^ (k + 1) ≤ 128 ^ 9 := Nat.pow_le_pow_right (by omega) (by omega)
  rw [Nat.pow_succ] at hp
  have h2 : dat t k % 128 * 128 ^ k ≤ 127 * 128 ^ k := Nat.mul_le_mul_right _ (by omega)
  omega
theorem vget_fn (s : List UInt8) (p : Nat) (hp : p ≤ s.length) (hs : s.length ≤ 1000000) : Fn Tryz.prog 113 [scV s p 0] [] fun v _ => v = getV (getQ s p) s := by
 obtain ⟨t, ht⟩ : ∃ t, s.drop p = t := ⟨_, rfl⟩
 have htl : t.length + p = s.length := by rw [← ht, List.length_drop]; omega
 obtain ⟨hc10, hcl⟩ := cnt_le 10 t
 refine Fn.enter (N := 121) Tryz.func113 rfl (by kernel_rfl) rfl (fun w0 => ?_)
 refine aR (fun Z hZ => ?_)
 refine jC3 rfl rfl rfl (fun g1 => ?_)
 refine sA rfl rfl ?_
 refine sAl tyZ220 rfl (fun g2 => ?_)
 refine sN (hZ _ _ ?_)
 refine aF [(1, _), (3, _)] (kR rfl) ?_
 refine awp_scope ?_
 refine aS ?_
 refine aR (fun Z hZ => ?_)
 refine sFA rfl tyF220_2 (by simp only [Nat.zero_add]; rfl) rfl ?_
 refine sL 1 rfl rfl tyA32 tyS32 rfl rfl ?_
 refine jE5 rfl rfl rfl ?_
 refine sN (hZ _ _ ?_)
 refine aF [(1, _), (3, _), (12, _)] (kR rfl) ?_
 refine aC rfl (fun h => ?_) (fun h => ?_)
 ·cases h
 refine aK ?_
 with_reducible refine nN ?_
 refine aS ?_
 refine jA7 [(1, ptr g1 0), (3, ptr g2 0), (24, .bool false)] [.own g2 220 [.string (str []), iq 0, iq 0], .own g1 220 [.string (str s), iq p, iq 0]] (fun Z hZ => ?_) ?_
 ·refine sFA rfl tyF220_1 (by simp only [Nat.zero_add]; rfl) rfl ?_
  refine sL 1 rfl rfl tyA3 tyS3 rfl rfl ?_
  refine jC4 rfl rfl rfl ?_
  refine sM rfl rfl ?_
  refine jF8 17 rfl false (by simp) ?_
  refine sOn rfl rfl rfl ?_
  refine sFA rfl tyF220_1 (by simp only [Nat.zero_add]; rfl) rfl ?_
  refine sOn rfl rfl rfl ?_
  refine sL 1 rfl rfl tyA3 tyS3 rfl rfl ?_
  refine sOn rfl rfl rfl ?_
  refine sFA rfl tyF220_0 (by simp only [Nat.add_zero]; rfl) rfl ?_
  refine sOn rfl rfl rfl ?_
  refine sL 1 rfl rfl tyA9 tyS9 rfl rfl ?_
  refine sOn rfl rfl rfl ?_
  refine jF0 Tryz.underlying9 rfl rfl ?_
  refine sOn rfl rfl rfl ?_
  refine jF3 rfl rfl rfl ?_
  refine sP rfl rfl rfl ?_
  refine sN (hZ _ _ ?_ ?_)
  ·exact Kn.cons rfl (Kn.cons rfl (Kn.cons (congrArg some (congrArg Value.bool (by simp; omega))) Kn.nil))
  ·exact HLe.refl _
 refine aC rfl (fun h => ?_) (fun h => ?_)
 ·cases h
 refine aK ?_
 with_reducible refine nN ?_
 refine aR fun Z hZ => sA rfl rfl <| sA rfl rfl <| sA rfl rfl <| sN (hZ _ _ ?_)
 refine aF [(1, _), (3, _), (4, _), (5, _), (6, _)] (kR rfl) ?_
 refine aR (fun Z hZ => ?_)
 refine sFA rfl tyF220_0 (by simp only [Nat.add_zero]; rfl) rfl ?_
 refine sL 1 rfl rfl tyA9 tyS9 rfl rfl ?_
 refine sFA rfl tyF220_1 (by simp only [Nat.zero_add]; rfl) rfl ?_
 refine sL 1 rfl rfl tyA3 tyS3 rfl rfl ?_
 refine sx_sliceS t Tryz.underlying9 rfl rfl rfl (by omega) (by omega) (by omega) (by rw [← ht]; exact List.take_of_length_le (by rw [List.length_drop]; omega)) rfl ?_
 refine sA rfl rfl <| sN (hZ _ _ ?_)
 refine aF [(1, _), (3, _), (4, _), (5, _), (6, _), (7, _)] (kR rfl) ?_
 refine aS (awp_label ?_)
 with_reducible refine nN ?_
 refine aS ?_
 refine aR fun Z hZ => sM rfl rfl ?_
 refine jF0 Tryz.underlying9 rfl rfl ?_
 refine sM rfl rfl <| sN (hZ _ _ ?_)
 refine aF [(1, _), (3, _), (4, _), (5, _), (6, _), (7, _), (35, _), (36, _)] (kR rfl) ?_
 refine awp_meet (ι := Nat × Nat × Bool) (fun j => [(1, ptr g1 0), (3, ptr g2 0), (4, uq j.1), (5, iq j.2.1), (6, .bool j.2.2), (7, .string (str t))]) (fun _ => [.own g2 220 [.string (str []), iq 0, iq 0], .own g1 220 [.string (str s), iq p, iq 0]])
  (fun j => (j.2.2 = false ∧ j.2.1 = cnt 10 t ∧ (j.2.1 = 10 ∨ j.2.1 = t.length)) ∨ (j.2.2 = true ∧ j.2.1 = cnt 10 t + 1 ∧ cnt 10 t < 10 ∧ cnt 10 t < t.length ∧ j.1 = valL (t.take j.2.1) % 18446744073709551616)) ?_ ?_
 ·refine aB ?_
  refine jB6 (ι := Nat × Nat) (fun i => [(1, ptr g1 0), (3, ptr g2 0), (4, uq i.2), (5, iq (i.1 : Nat)), (6, .bool false), (7, .string (str t)), (35, iq (t.length : Nat)), (36, iq (i.1 : Nat))]) (fun _ => [.own g2 220 [.string (str []), iq 0, iq 0], .own g1 220 [.string (str s), iq p, iq 0]])
   (fun i => i.1 ≤ cnt 10 t ∧ (i.1 ≤ 9 → i.2 = valL (t.take i.1))) (fun i => t.length - i.1) (0, 0) ⟨by omega, fun _ => rfl⟩ (kR rfl) (HLe.refl _) ?_
  rintro ⟨i, x⟩ ⟨hi, hx⟩
  simp only at hi hx
  refine aR (fun Z hZ => ?_)
  refine jC4 rfl rfl rfl ?_
  refine sN (hZ _ _ ?_)
  refine aF [(1, _), (3, _), (4, _), (5, _), (6, _), (7, _), (35, _), (36, _), (37, _)] (kR rfl) ?_
  refine aS (aC rfl (fun h => ?_) (fun h => ?_))
  ·have hlt : i < t.length := by simpa using h
   have hd := getD_at hlt
   refine aK ?_
   with_reducible refine nN ?_
   refine aS (aB ?_)
   refine aR fun Z hZ => sM rfl rfl <| sA rfl rfl <| sN (hZ _ _ ?_)
   refine aF [(1, _), (3, _), (4, _), (5, _), (6, _), (7, _), (8, _), (35, _), (36, _)] (kR rfl) ?_
   refine aR fun Z hZ => sM rfl rfl <| sM rfl rfl ?_
   refine sx_indexS (l := t) (c := t.getD i 0) Tryz.underlying9 rfl rfl (by omega) hd rfl ?_
   refine sA rfl rfl <| sN (hZ _ _ ?_)
   refine aF [(1, _), (3, _), (4, _), (5, _), (6, _), (7, _), (8, _), (9, _), (35, _), (36, _)] (kR rfl) ?_
   refine aB ?_
   refine aR fun Z hZ => sM rfl rfl ?_
   refine jC8 rfl rfl rfl ?_
   refine sA rfl rfl <| sN (hZ _ _ ?_)
   refine aF [(1, _), (3, _), (4, _), (5, _), (6, _), (7, _), (8, _), (9, _), (35, _), (36, _), (52, _)] (kR rfl) ?_
   refine aC rfl (fun h2 => ?_) (fun h2 => ?_)
   ·have hi10 : i = 10 := by simp at h2; omega
    refine jB1 ?_
    repeat (with_reducible (first | refine nTE ?_ | refine nx_block_other (by decide) ?_))
    with_reducible refine nBE ?_
    exact jG2 (x, i, false) (.inl ⟨rfl, by show i = _; omega, .inl hi10⟩) (kR rfl) (HLe.refl _)
   have hi9 : i ≤ 9 := by simp at h2; omega
   have hx := hx hi9
   have hb := valL9 (t := t) (i := i) hi9
   have hdd : dat t i < 256 := dat_lt t i
   refine aR fun Z hZ => sM rfl rfl ?_
   refine jC4 rfl rfl rfl ?_
   refine sA rfl rfl <| sN (hZ _ _ ?_)
   refine aF [(1, _), (3, _), (4, _), (6, _), (7, _), (8, _), (9, _), (35, _), (36, _), (55, _)] (kR rfl) ?_
   refine aC rfl (fun h3 => ?_) (fun h3 => ?_)
   ·have hd1 : dat t i < 128 := by
     have : (((t.getD i 0).toNat : Int)) < 128 := by simpa using h3
     simp only [dat]
     omega
    have hic : i = cnt 10 t := by
     rcases Nat.lt_or_ge i (cnt 10 t) with h4 | h4
     ·have := cnt_in 10 t i h4
      omega
     ·omega
    refine aR fun Z hZ => sM rfl rfl <| sM rfl rfl ?_
    refine jC2 Tryz.underlying5 Tryz.underlying45 rfl ((dat t i : Nat) : Int) (by rw [IntWalk.u64_in _ (by have := (t.getD i 0).toNat_lt; omega)]; rfl) rfl ?_
    refine sM rfl rfl ?_
    refine sx_mul rfl rfl ((7 * i : Nat) : Int) (add7 i hi9) rfl ?_
    refine sx_shl rfl rfl (by omega) _ rfl rfl ?_
    refine sx_bits (.inr (.inl rfl)) rfl rfl ((valL (t.take (i + 1)) % 18446744073709551616 : Nat) : Int) (by rw [hx, sh_or hi9 hb, valL_take hlt, Nat.mod_eq_of_lt hd1]) rfl ?_
    refine sA rfl rfl <| sN (hZ _ _ ?_)
    refine aF [(1, _), (3, _), (4, _), (7, _), (8, _)] (kR rfl) ?_
    refine aR fun Z hZ => sM rfl rfl ?_
    refine jB8 rfl rfl ((i + 1 : Nat) : Int) (by rw [IntWalk.i64_in _ (by omega)]; omega) rfl ?_
    refine sA rfl rfl <| sA rfl rfl <| sN (hZ _ _ ?_)
    refine aF [(1, _), (3, _), (4, _), (5, _), (6, _), (7, _)] (kR rfl) ?_
    refine jB1 ?_
    repeat (with_reducible (first | refine nTE ?_ | refine nx_block_other (by decide) ?_))
    with_reducible refine nBE ?_
    exact jG2 (valL (t.take (i + 1)) % 18446744073709551616, i + 1, true) (.inr ⟨rfl, by show i + 1 = _; omega, by omega, by omega, rfl⟩) (kR rfl) (HLe.refl _)
   have hd1 : 128 ≤ dat t i := by
    have : ¬ (((t.getD i 0).toNat : Int)) < 128 := by simpa using h3
    simp only [dat]
    omega
   have hic : i < cnt 10 t := by
    rcases Nat.lt_or_ge i (cnt 10 t) with h4 | h4
    ·exact h4
    ·obtain rfl : i = cnt 10 t := by omega
     have := cnt_at 10 t (by omega) hlt
     omega
   refine aR fun Z hZ => sM rfl rfl <| sM rfl rfl ?_
   refine sx_bits (.inl rfl) rfl rfl ((dat t i % 128 : Nat) : Int) (and127 _ (t.getD i 0).toNat_lt) rfl ?_
   refine jC2 Tryz.underlying5 Tryz.underlying45 rfl ((dat t i % 128 : Nat) : Int) (by rw [IntWalk.u64_in _ (by omega)]) rfl ?_
   refine sM rfl rfl ?_
   refine sx_mul rfl rfl ((7 * i : Nat) : Int) (add7 i hi9) rfl ?_
   refine sx_shl rfl rfl (by omega) _ rfl rfl ?_
   refine sx_bits (.inr (.inl rfl)) rfl rfl ((valL (t.take (i + 1)) % 18446744073709551616 : Nat) : Int) (by rw [hx, sh_or hi9 hb, valL_take hlt]) rfl ?_
   refine sA rfl rfl <| sN (hZ _ _ ?_)
   refine aF [(1, _), (3, _), (4, _), (6, _), (7, _), (8, _), (35, _), (36, _)] (kR rfl) ?_
   refine aG (fun Z hZ => ?_)
   refine sM rfl rfl ?_
   refine jB8 rfl rfl ((i + 1 : Nat) : Int) (by rw [IntWalk.i64_in _ (by omega)]; omega) rfl ?_
   refine sA rfl rfl <| sN (hZ _ _ ?_)
   refine nF [(1, _), (3, _), (4, _), (5, _), (6, _), (7, _), (35, _), (36, _)] (kR rfl) ?_
   repeat (with_reducible refine nBN ?_)
   with_reducible refine nN ?_
   refine aG (fun Z hZ => ?_)
   refine jB8 rfl rfl ((i + 1 : Nat) : Int) (by rw [IntWalk.i64_in _ (by omega)]; omega) rfl ?_
   refine sM rfl rfl <| sN (hZ _ _ ?_)
   refine nF [(1, _), (3, _), (4, _), (5, _), (6, _), (7, _), (35, _), (36, _)] (kR rfl) ?_
   refine jB5 (i + 1, valL (t.take (i + 1)) % 18446744073709551616) ⟨by show i + 1 ≤ _; omega, fun h9 => ?_⟩ (by simp; omega) (kR rfl) (HLe.refl _)
   exact valL_mod (by omega) hlt (fun h => by simp at h9; omega)
  ·have hge : i = t.length := by simp at h; omega
   refine jB1 ?_
   repeat (with_reducible refine nTE ?_)
   with_reducible refine nBE ?_
   exact jG2 (x, i, false) (.inl ⟨rfl, by show i = _; omega, .inr hge⟩) (kR rfl) (HLe.refl _)
 rintro ⟨x, n, b⟩ hj
 simp only at hj
 with_reducible refine nN ?_
 show awp _ _ _ _ _ [(1, ptr g1 0), (3, ptr g2 0), (4, uq x), (5, iq n), (6, .bool b), (7, .string (str t))] _ _
 have done : ∀ e : Nat, jC7 t = (e, 0) → e ≠ 0 → getQ s p = (0, p, e) := fun e he h0 => by
  unfold getQ
  rw [ht, he, if_neg h0]
 refine aS (aB ?_)
 rcases hj with ⟨hb, hn, hor⟩ | ⟨hb, hn, h10, hcl2, hx⟩
 ·subst hb hn
  refine jA7 [(1, ptr g1 0), (3, ptr g2 0), (4, uq x), (5, iq (cnt 10 t : Nat)), (6, .bool false), (7, .string (str t)), (68, .bool (decide (cnt 10 t = 10)))] [.own g2 220 [.string (str []), iq 0, iq 0], .own g1 220 [.string (str s), iq p, iq 0]] (fun Z hZ => ?_) ?_
  ·refine sM rfl rfl ?_
   refine sx_not rfl rfl ?_
   refine sM rfl rfl ?_
   refine jF8 71 rfl true (by rfl) ?_
   refine sOn rfl rfl rfl ?_
   refine sM rfl rfl ?_
   refine sOn rfl rfl rfl ?_
   refine jC8 rfl rfl rfl ?_
   refine sP rfl rfl rfl <| sA rfl rfl ?_
   refine sN (hZ _ _ ?_ ?_)
   ·exact Kn.cons rfl (Kn.cons rfl (Kn.cons rfl (Kn.cons rfl (Kn.cons rfl (Kn.cons rfl (Kn.cons (congrArg some (congrArg Value.bool (by rw [Bool.eq_iff_iff]; simp; omega))) Kn.nil))))))
   ·exact HLe.refl _
  refine aC rfl (fun h => ?_) (fun h => ?_)
  ·have h10 : cnt 10 t = 10 := by simpa using h
   rw [done 11 (by unfold jC7; rw [if_pos h10]) (by decide)]
   refine aR (fun Z hZ => ?_)
   refine sLA 1 rfl rfl tyA220 tyS220 rfl (by simp only [qS]; rfl) rfl ?_
   refine sCP (vbad_fn s p 0 11) rfl rfl ?_
   refine sX rfl rfl rfl <| sX rfl rfl rfl <| sA rfl rfl ?_
   refine sS 0 rfl rfl rfl tyS220 (by simp only [Value.cells]; rfl) rfl rfl rfl (by simp only [qS, wrV]; rfl) (by simp only [List.set_cons_zero]; rfl) ?_
   refine sN (hZ _ _ ?_)
   refine aF [(2, _), (3, _)] (kR rfl) ?_
   refine aE ?_
   repeat (with_reducible (first | refine nTR ?_ | refine nBR ?_ | refine jE9 ?_))
   exact jF9 rfl rfl (ResOk.cell 0 rfl rfl tyA220 tyS220 rfl) rfl
  ·have h10 : cnt 10 t ≠ 10 := by simpa using h
   rw [done 3 (by unfold jC7; rw [if_neg h10, if_pos (hor.resolve_left h10)]) (by decide)]
   refine aR fun Z hZ => sM rfl rfl ?_
   refine sx_not rfl rfl ?_
   refine sA rfl rfl <| sN (hZ _ _ ?_)
   refine aF [(1, _), (3, _), (4, _), (5, _), (7, _), (79, _)] (kR rfl) ?_
   refine aC rfl (fun h2 => ?_) (fun h2 => ?_)
   ·refine aR (fun Z hZ => ?_)
    refine sLA 1 rfl rfl tyA220 tyS220 rfl (by simp only [qS]; rfl) rfl ?_
    refine sCP (vbad_fn s p 0 3) rfl rfl ?_
    refine sX rfl rfl rfl <| sX rfl rfl rfl <| sA rfl rfl ?_
    refine sS 0 rfl rfl rfl tyS220 (by simp only [Value.cells]; rfl) rfl rfl rfl (by simp only [qS, wrV]; rfl) (by simp only [List.set_cons_zero]; rfl) ?_
    refine sN (hZ _ _ ?_)
    refine aF [(2, _), (3, _)] (kR rfl) ?_
    refine aE ?_
    repeat (with_reducible (first | refine nTR ?_ | refine nBR ?_ | refine jE9 ?_))
    exact jF9 rfl rfl (ResOk.cell 0 rfl rfl tyA220 tyS220 rfl) rfl
   ·cases h2
 ·subst hb hn
  have hdk := cnt_at 10 t h10 hcl2
  have hdx := getD_at hcl2
  have hdd : (t.getD (cnt 10 t) 0).toNat = dat t (cnt 10 t) := rfl
  have e9 : cnt 10 t = 9 → dat t 9 = dat t (cnt 10 t) := fun h => by rw [h]
  refine jA7 [(1, ptr g1 0), (3, ptr g2 0), (4, uq x), (5, iq (cnt 10 t + 1 : Nat)), (6, .bool true), (7, .string (str t)), (68, .bool false)] [.own g2 220 [.string (str []), iq 0, iq 0], .own g1 220 [.string (str s), iq p, iq 0]] (fun Z hZ => ?_) ?_
  ·refine sM rfl rfl ?_
   refine sx_not rfl rfl ?_
   refine sM rfl rfl ?_
   refine jG0 71 rfl (fun hb2 => ?_) (fun hb2 => ?_)
   ·refine sOn rfl rfl rfl ?_
    refine sM rfl rfl ?_
    refine sOn rfl rfl rfl ?_
    refine jC8 rfl rfl rfl ?_
    refine sP rfl rfl rfl <| sA rfl rfl ?_
    refine sN (hZ _ _ ?_ ?_)
    ·(exfalso; revert hb2; decide)
    ·exact HLe.refl _
   ·refine sO rfl rfl rfl rfl rfl ?_
    refine sO rfl rfl rfl rfl rfl ?_
    refine sP rfl rfl rfl <| sA rfl rfl ?_
    refine sN (hZ _ _ ?_ ?_)
    ·exact kR rfl
    ·exact HLe.refl _
  refine aC rfl (fun h => ?_) (fun h => ?_)
  ·cases h
  refine aR fun Z hZ => sM rfl rfl ?_
  refine sx_not rfl rfl ?_
  refine sA rfl rfl <| sN (hZ _ _ ?_)
  refine aF [(1, _), (3, _), (4, _), (5, _), (7, _), (79, _)] (kR rfl) ?_
  refine aC rfl (fun h2 => ?_) (fun h2 => ?_)
  ·cases h2
  refine jA7 [(1, ptr g1 0), (3, ptr g2 0), (4, uq x), (5, iq (cnt 10 t + 1 : Nat)), (7, .string (str t)), (86, .bool (decide (cnt 10 t = 9 ∧ 1 < dat t 9)))] [.own g2 220 [.string (str []), iq 0, iq 0], .own g1 220 [.string (str s), iq p, iq 0]] (fun Z hZ => ?_) ?_
  ·refine sM rfl rfl ?_
   refine jC8 rfl rfl rfl ?_
   refine sM rfl rfl ?_
   refine jG0 89 rfl (fun hb2 => ?_) (fun hb2 => ?_)
   ·refine sOn rfl rfl rfl ?_
    refine sM rfl rfl ?_
    refine sOn rfl rfl rfl ?_
    refine sM rfl rfl ?_
    refine sOn rfl rfl rfl ?_
    refine sx_sub rfl rfl ((cnt 10 t : Nat) : Int) (by rw [IntWalk.i64_in _ (by omega)]; omega) rfl ?_
    refine sOn rfl rfl rfl ?_
    refine sx_indexS (l := t) (c := t.getD (cnt 10 t) 0) Tryz.underlying9 rfl rfl (by omega) hdx rfl ?_
    refine sOn rfl rfl rfl ?_
    refine jF3 rfl rfl rfl ?_
    refine sP rfl rfl rfl <| sA rfl rfl ?_
    refine sN (hZ _ _ ?_ ?_)
    ·exact Kn.cons rfl (Kn.cons rfl (Kn.cons rfl (Kn.cons rfl (Kn.cons rfl (Kn.cons (congrArg some (congrArg Value.bool (by simp at hb2; rw [Bool.eq_iff_iff]; simp only [decide_eq_true_eq, hdd]; omega))) Kn.nil)))))
    ·exact HLe.refl _
   ·refine sO rfl rfl rfl rfl rfl ?_
    refine sO rfl rfl rfl rfl rfl ?_
    refine sO rfl rfl rfl rfl rfl ?_
    refine sO rfl rfl rfl rfl rfl ?_
    refine sO rfl rfl rfl rfl rfl ?_
    refine sP rfl rfl rfl <| sA rfl rfl ?_
    refine sN (hZ _ _ ?_ ?_)
    ·exact Kn.cons rfl (Kn.cons rfl (Kn.cons rfl (Kn.cons rfl (Kn.cons rfl (Kn.cons (congrArg some (congrArg Value.bool (by simp at hb2; rw [Bool.eq_iff_iff]; simp only [decide_eq_true_eq, Bool.false_eq_true, false_iff]; omega))) Kn.nil)))))
    ·exact HLe.refl _
  refine aC rfl (fun h3 => ?_) (fun h3 => ?_)
  ·have h9 : cnt 10 t = 9 ∧ 1 < dat t 9 := by simpa using h3
   rw [done 11 (by unfold jC7; rw [if_neg (by omega), if_neg (by omega), if_pos h9]) (by decide)]
   refine aR (fun Z hZ => ?_)
   refine sLA 1 rfl rfl tyA220 tyS220 rfl (by simp only [qS]; rfl) rfl ?_
   refine sCP (vbad_fn s p 0 11) rfl rfl ?_
   refine sX rfl rfl rfl <| sX rfl rfl rfl <| sA rfl rfl ?_
   refine sS 0 rfl rfl rfl tyS220 (by simp only [Value.cells]; rfl) rfl rfl rfl (by simp only [qS, wrV]; rfl) (by simp only [List.set_cons_zero]; rfl) ?_
   refine sN (hZ _ _ ?_)
   refine aF [(2, _), (3, _)] (kR rfl) ?_
   refine aE ?_
   repeat (with_reducible (first | refine nTR ?_ | refine nBR ?_ | refine jE9 ?_))
   exact jF9 rfl rfl (ResOk.cell 0 rfl rfl tyA220 tyS220 rfl) rfl
  have h9 : ¬ (cnt 10 t = 9 ∧ 1 < dat t 9) := by simpa using h3
  refine jA7 [(1, ptr g1 0), (3, ptr g2 0), (4, uq x), (5, iq (cnt 10 t + 1 : Nat)), (100, .bool (decide (0 < cnt 10 t ∧ dat t (cnt 10 t) = 0)))] [.own g2 220 [.string (str []), iq 0, iq 0], .own g1 220 [.string (str s), iq p, iq 0]] (fun Z hZ => ?_) ?_
  ·refine sM rfl rfl ?_
   refine jF3 rfl rfl rfl ?_
   refine sM rfl rfl ?_
   refine jG0 103 rfl (fun hb2 => ?_) (fun hb2 => ?_)
   ·refine sOn rfl rfl rfl ?_
    refine sM rfl rfl ?_
    refine sOn rfl rfl rfl ?_
    refine sM rfl rfl ?_
    refine sOn rfl rfl rfl ?_
    refine sx_sub rfl rfl ((cnt 10 t : Nat) : Int) (by rw [IntWalk.i64_in _ (by omega)]; omega) rfl ?_
    refine sOn rfl rfl rfl ?_
    refine sx_indexS (l := t) (c := t.getD (cnt 10 t) 0) Tryz.underlying9 rfl rfl (by omega) hdx rfl ?_
    refine sOn rfl rfl rfl ?_
    refine jC8 rfl rfl rfl ?_
    refine sP rfl rfl rfl <| sA rfl rfl ?_
    refine sN (hZ _ _ ?_ ?_)
    ·exact Kn.cons rfl (Kn.cons rfl (Kn.cons rfl (Kn.cons rfl (Kn.cons (congrArg some (congrArg Value.bool (by simp at hb2; rw [Bool.eq_iff_iff]; simp only [beq_iff_eq, decide_eq_true_eq, hdd]; omega))) Kn.nil))))
    ·exact HLe.refl _
   ·refine sO rfl rfl rfl rfl rfl ?_
    refine sO rfl rfl rfl rfl rfl ?_
    refine sO rfl rfl rfl rfl rfl ?_
    refine sO rfl rfl rfl rfl rfl ?_
    refine sO rfl rfl rfl rfl rfl ?_
    refine sP rfl rfl rfl <| sA rfl rfl ?_
    refine sN (hZ _ _ ?_ ?_)
    ·exact Kn.cons rfl (Kn.cons rfl (Kn.cons rfl (Kn.cons rfl (Kn.cons (congrArg some (congrArg Value.bool (by simp at hb2; rw [Bool.eq_iff_iff]; simp only [decide_eq_true_eq, Bool.false_eq_true, false_iff]; omega))) Kn.nil))))
    ·exact HLe.refl _
  refine aC rfl (fun h4 => ?_) (fun h4 => ?_)
  ·have h0 : 0 < cnt 10 t ∧ dat t (cnt 10 t) = 0 := by simpa using h4
   rw [done 4 (by unfold jC7; rw [if_neg (by omega), if_neg (by omega), if_neg h9, if_pos h0]) (by decide)]
   refine aR (fun Z hZ => ?_)
   refine sLA 1 rfl rfl tyA220 tyS220 (by simp only [qS, Nat.reduceAdd]; rfl) (by simp only [qS]; rfl) rfl ?_
   refine sCP (vbad_fn s p 0 4) rfl rfl ?_
   refine sX rfl rfl rfl <| sX rfl rfl rfl <| sA rfl rfl ?_
   refine sS 0 rfl rfl rfl tyS220 (by simp only [Value.cells]; rfl) rfl rfl (by simp only [qS, Nat.reduceAdd]; rfl) (by simp only [qS, wrV]; rfl) (by simp only [List.set_cons_zero]; rfl) ?_
   refine sN (hZ _ _ ?_)
   refine aF [(2, _), (3, _)] (kR rfl) ?_
   refine aE ?_
   repeat (with_reducible (first | refine nTR ?_ | refine nBR ?_ | refine jE9 ?_))
   exact jF9 rfl rfl (ResOk.cell 0 rfl rfl tyA220 tyS220 rfl) rfl
  have h0 : ¬ (0 < cnt 10 t ∧ dat t (cnt 10 t) = 0) := by simpa using h4
  refine aK ?_
  repeat (with_reducible refine nBN ?_)
  with_reducible refine nN ?_
  have hw : jC7 t = (0, cnt 10 t + 1) := by unfold jC7; rw [if_neg (by omega), if_neg (by omega), if_neg h9, if_neg h0]
  have hg : getQ s p = (x, p + (cnt 10 t + 1), 0) := by
   unfold getQ
   rw [ht, hw, if_pos rfl, hx, valL_mod (by omega) hcl2 (fun h => by have : ¬ 1 < dat t 9 := fun h' => h9 ⟨h, h'⟩; omega)]
  rw [hg]
  refine aR (fun Z hZ => ?_)
  refine sFA rfl tyF220_1 (by simp only [Nat.zero_add]; rfl) rfl ?_
  refine sL 1 rfl rfl tyA3 tyS3 rfl rfl ?_
  refine sM rfl rfl ?_
  refine jB8 rfl rfl ((p + (cnt 10 t + 1) : Nat) : Int) (by rw [IntWalk.i64_in _ (by omega)]; omega) rfl ?_
  refine sFA rfl tyF220_1 (by simp only [Nat.zero_add]; rfl) rfl ?_
  refine sS1 1 rfl rfl rfl tyS3 rfl (by simp only [qS, Nat.reduceAdd]; rfl) (by simp only [qS]; rfl) (by simp only [qS]; rfl) ?_
  refine sN (hZ _ _ ?_)
  refine aF [(1, _), (3, _), (4, _)] (kR rfl) ?_
  refine awd_seq_region [0, 1, 2, 3] mixed (by kernel_rfl) rfl (fun Z hZ => ?_)
  refine sM rfl rfl ?_
  refine sLA 1 rfl rfl tyA220 tyS220 (by simp only [qS, Nat.reduceAdd]; rfl) (by simp only [qS]; rfl) rfl ?_
  refine sA rfl rfl ?_
  refine sS 0 rfl rfl rfl tyS220 (by simp only [Value.cells]; rfl) rfl rfl (by simp only [qS, Nat.reduceAdd]; rfl) (by simp only [qS, Nat.reduceAdd, wrV]; rfl) (by simp only [List.set_cons_zero]; rfl) ?_
  refine sN (hZ _ _ ?_)
  refine aF [(2, _), (3, _)] (kR rfl) ?_
  refine aE ?_
  repeat (with_reducible refine jE9 ?_)
  exact jF9 rfl rfl (ResOk.cell 0 rfl rfl tyA220 tyS220 rfl) rfl
end Go.Proofs.YtkojkeabelckjaaGreatDoor.V
namespace Go.Proofs.YtkojkeabelckjaaGreatDoor.V
open Go.RowKit
theorem wrong_ok {t : List UInt8} (h : (jC7 t).1 = 0) : (jC7 t).2 = cnt 10 t + 1 ∧ cnt 10 t < 10 ∧ cnt 10 t < t.length ∧ (cnt 10 t = 9 → dat t 9 ≤ 1) := by
 obtain ⟨hc10, hcl⟩ := cnt_le 10 t
 unfold jC7 at h ⊢
 by_cases h1 : cnt 10 t = 10
 ·rw [if_pos h1] at h; cases h
 rw [if_neg h1] at h ⊢
 by_cases h2 : cnt 10 t = t.length
 ·rw [if_pos h2] at h; cases h
 rw [if_neg h2] at h ⊢
 by_cases h3 : cnt 10 t = 9 ∧ 1 < dat t 9
 ·rw [if_pos h3] at h; cases h
 rw [if_neg h3] at h ⊢
 by_cases h4 : 0 < cnt 10 t ∧ dat t (cnt 10 t) = 0
 ·rw [if_pos h4] at h; cases h
 rw [if_neg h4]
 exact ⟨rfl, by omega, by omega, fun h9 => by omega⟩
end Go.Proofs.YtkojkeabelckjaaGreatDoor.V
