/- Walks and plain laws for this claim (texts Ghd3, LayJoin, Gly1, joined). Each theorem states its own conditions. -/
import Derived.Test.YtkojkeabelckjaaGreatDoorJ23
import Derived.Test.YtkojkeabelckjaaGreatDoorJ04
import Derived.Test.YtkojkeabelckjaaGreatDoorJ11
import Derived.Test.YtkojkeabelckjaaGreatDoorJ05
import Derived.Test.YtkojkeabelckjaaGreatDoorJ06
import Derived.Shelf.Strings.OnBuilder

section
set_option linter.all false
namespace Go.Proofs.YtkojkeabelckjaaGreatDoor.Y
open Go.RowKit
end Go.Proofs.YtkojkeabelckjaaGreatDoor.Y
namespace Go.Proofs.YtkojkeabelckjaaGreatDoor.Y
open Go.RowKit
end Go.Proofs.YtkojkeabelckjaaGreatDoor.Y
namespace Go.Proofs.YtkojkeabelckjaaGreatDoor.Y
open Go.RowKit
end Go.Proofs.YtkojkeabelckjaaGreatDoor.Y
namespace Go.Proofs.YtkojkeabelckjaaGreatDoor.Y
open Go.RowKit
theorem numL_leB : ∀ n x, numL (leB n x) = x % 256 ^ n
  | 0, x => by simp [leB, numL, Nat.mod_one]
  | n + 1, x => by
    have h : (UInt8.ofNat (x % 256)).toNat = x % 256 := by simp
    rw [leB, numL, h, numL_leB n, Nat.pow_succ, Nat.mul_comm (256 ^ n) 256, Nat.mod_mul]
def flat : List (Nat × Nat) → List UInt8
  | [] => []
  | (n, x) :: r => leB n x ++ flat r
theorem atL_here (p t : List UInt8) (n x : Nat) : atL (p ++ (leB n x ++ t)) p.length n = x % 256 ^ n := by
  unfold atL
  rw [List.drop_left, List.take_append_of_le_length (by rw [jF2]; omega), List.take_of_length_le (by rw [jF2]; omega), numL_leB]
theorem atL_flat (t : List UInt8) : ∀ (fs : List (Nat × Nat)) (p : List UInt8) (k n x : Nat), fs[k]? = some (n, x) → atL (p ++ (flat fs ++ t)) (p.length + ((fs.take k).map Prod.fst).sum) n = x % 256 ^ n
  | [], _, _, _, _, h => by simp at h
  | (m, y) :: r, p, 0, n, x, h => by
    simp at h
    obtain ⟨rfl, rfl⟩ := h
    simp only [List.take_zero, List.map_nil, List.sum_nil, Nat.add_zero, flat, List.append_assoc]
    exact atL_here _ _ _ _
  | (m, y) :: r, p, k + 1, n, x, h => by
    have := atL_flat t r (p ++ leB m y) k n x (by simpa using h)
    rw [List.length_append, jF2] at this
    rw [List.take_succ_cons, List.map_cons, List.sum_cons, ← Nat.add_assoc]
    simpa [flat, List.append_assoc] using this
def uv4 (v : Int) : Nat := (unsV v 4).toNat
def fld (h : Hdr) : List (Nat × Nat) :=
  [(8, h.r0), (8, h.r1), (8, h.m0), (8, h.m1), (8, h.l0), (8, h.l1), (8, h.d0), (8, h.d1), (8, h.ad), (8, h.en), (8, h.co), (1, clN h), (1, h.ic), (1, h.oc), (1, h.ki), (1, h.z0.toNat), (1, h.z1.toNat),
    (4, uv4 h.lo0), (4, uv4 h.la0), (4, uv4 h.lo1), (4, uv4 h.la1), (1, h.zo.toNat), (4, uv4 h.lon), (4, uv4 h.lat)]
def mag8 : List UInt8 := [80, 77, 84, 105, 108, 101, 115, 3]
theorem enc_flat (h : Hdr) : enc5 h = mag8 ++ flat (fld h) := by
  simp only [enc5, enc4, enc3, enc2, enc1, secB, sgB, flat, fld, mag8, uv4, List.append_assoc, List.append_nil]
theorem jF1 (h : Hdr) (t : List UInt8) (k : Nat) {n x i : Nat} (hk : (fld h)[k]? = some (n, x)) (hi : 8 + (((fld h).take k).map Prod.fst).sum = i) (hx : x < 256 ^ n) : atL (enc5 h ++ t) i n = x := by
  rw [enc_flat, List.append_assoc, ← hi]
  exact (atL_flat t (fld h) mag8 k n x hk).trans (Nat.mod_eq_of_lt hx)
theorem uns_small {v : Int} (hv : -1800000000 ≤ v ∧ v ≤ 1800000000) : unsV v 4 = v % 4294967296 := by
  have h1 : unsE v 4 = 0 := by
    unfold unsE
    rw [if_pos (by omega), if_pos (by simp only [show (8 * (4 : Int) - 1).toNat = 31 from rfl]; omega)]
  unfold unsV
  rw [if_pos h1]
  rfl
theorem uv_lt (v : Int) : uv4 v < 256 ^ 4 := by have := unsV4 v; unfold uv4; omega
theorem sgn_uv {v : Int} (hv : -1800000000 ≤ v ∧ v ≤ 1800000000) : sgnV (uv4 v : Int) 4 = v := by
  unfold uv4 sgnV
  rw [uns_small hv, if_pos (by omega)]
  simp only [show (8 * (4 : Int) - 1).toNat = 31 from rfl, show (8 * (4 : Int)).toNat = 32 from rfl]
  omega
theorem dec_enc {h : Hdr} (hk : h.Ok) (hc : jE9 h = 0) (t : List UInt8) : decH (enc5 h ++ t) = h ∧ decE (enc5 h ++ t) = 0 := by
  obtain ⟨_, ⟨c1, c2, c3⟩, ⟨⟨z0a, z0b⟩, ⟨z1a, z1b⟩, ⟨zoa, zob⟩, _⟩, ⟨lo0, lo1, lon, _⟩, ⟨la0, la1, lat, _⟩⟩ := check_ok hc
  have hcl : clN h ≤ 1 := by unfold clN; split <;> omega
  have e96 : atL (enc5 h ++ t) 96 1 = clN h := jF1 h t 11 (by kernel_rfl) (by kernel_rfl) (by omega)
  have hH : decH (enc5 h ++ t) = h := by
    have q1 := hk.r0
    have q2 := hk.r1
    have q3 := hk.m0
    have q4 := hk.m1
    have q5 := hk.l0
    have q6 := hk.l1
    have q7 := hk.d0
    have q8 := hk.d1
    have q9 := hk.ad
    have q10 := hk.en
    have q11 := hk.co
    have e8 : atL (enc5 h ++ t) 8 8 = h.r0 := jF1 h t 0 (by kernel_rfl) (by kernel_rfl) (by omega)
    have e16 : atL (enc5 h ++ t) 16 8 = h.r1 := jF1 h t 1 (by kernel_rfl) (by kernel_rfl) (by omega)
    have e24 : atL (enc5 h ++ t) 24 8 = h.m0 := jF1 h t 2 (by kernel_rfl) (by kernel_rfl) (by omega)
    have e32 : atL (enc5 h ++ t) 32 8 = h.m1 := jF1 h t 3 (by kernel_rfl) (by kernel_rfl) (by omega)
    have e40 : atL (enc5 h ++ t) 40 8 = h.l0 := jF1 h t 4 (by kernel_rfl) (by kernel_rfl) (by omega)
    have e48 : atL (enc5 h ++ t) 48 8 = h.l1 := jF1 h t 5 (by kernel_rfl) (by kernel_rfl) (by omega)
    have e56 : atL (enc5 h ++ t) 56 8 = h.d0 := jF1 h t 6 (by kernel_rfl) (by kernel_rfl) (by omega)
    have e64 : atL (enc5 h ++ t) 64 8 = h.d1 := jF1 h t 7 (by kernel_rfl) (by kernel_rfl) (by omega)
    have e72 : atL (enc5 h ++ t) 72 8 = h.ad := jF1 h t 8 (by kernel_rfl) (by kernel_rfl) (by omega)
    have e80 : atL (enc5 h ++ t) 80 8 = h.en := jF1 h t 9 (by kernel_rfl) (by kernel_rfl) (by omega)
    have e88 : atL (enc5 h ++ t) 88 8 = h.co := jF1 h t 10 (by kernel_rfl) (by kernel_rfl) (by omega)
    have e97 : atL (enc5 h ++ t) 97 1 = h.ic := jF1 h t 12 (by kernel_rfl) (by kernel_rfl) (by omega)
    have e98 : atL (enc5 h ++ t) 98 1 = h.oc := jF1 h t 13 (by kernel_rfl) (by kernel_rfl) (by omega)
    have e99 : atL (enc5 h ++ t) 99 1 = h.ki := jF1 h t 14 (by kernel_rfl) (by kernel_rfl) (by omega)
    have e100 : atL (enc5 h ++ t) 100 1 = h.z0.toNat := jF1 h t 15 (by kernel_rfl) (by kernel_rfl) (by omega)
    have e101 : atL (enc5 h ++ t) 101 1 = h.z1.toNat := jF1 h t 16 (by kernel_rfl) (by kernel_rfl) (by omega)
    have e102 : atL (enc5 h ++ t) 102 4 = uv4 h.lo0 := jF1 h t 17 (by kernel_rfl) (by kernel_rfl) (uv_lt _)
    have e106 : atL (enc5 h ++ t) 106 4 = uv4 h.la0 := jF1 h t 18 (by kernel_rfl) (by kernel_rfl) (uv_lt _)
    have e110 : atL (enc5 h ++ t) 110 4 = uv4 h.lo1 := jF1 h t 19 (by kernel_rfl) (by kernel_rfl) (uv_lt _)
    have e114 : atL (enc5 h ++ t) 114 4 = uv4 h.la1 := jF1 h t 20 (by kernel_rfl) (by kernel_rfl) (uv_lt _)
    have e118 : atL (enc5 h ++ t) 118 1 = h.zo.toNat := jF1 h t 21 (by kernel_rfl) (by kernel_rfl) (by omega)
    have e119 : atL (enc5 h ++ t) 119 4 = uv4 h.lon := jF1 h t 22 (by kernel_rfl) (by kernel_rfl) (uv_lt _)
    have e123 : atL (enc5 h ++ t) 123 4 = uv4 h.lat := jF1 h t 23 (by kernel_rfl) (by kernel_rfl) (uv_lt _)
    unfold decH dgL
    rw [e8, e16, e24, e32, e40, e48, e56, e64, e72, e80, e88, e96, e97, e98, e99, e100, e101, e102, e106, e110, e114, e118, e119, e123, sgn_uv (by omega), sgn_uv (by omega), sgn_uv (by omega), sgn_uv (by omega), sgn_uv (by omega), sgn_uv (by omega), Int.toNat_of_nonneg z0a, Int.toNat_of_nonneg z1a, Int.toNat_of_nonneg zoa]
    have : decide (clN h = 1) = h.cl := by unfold clN; cases h.cl <;> simp
    rw [this]
  refine ⟨hH, ?_⟩
  have hl := enc5_length h
  unfold decE
  rw [hH, e96, if_neg (by rw [List.length_append]; omega), if_neg, if_neg, if_neg (by omega), hc]
  · rw [enc_flat]; simp [mag8]
  · rw [enc_flat]; simp [mag8, magic7]
theorem decV_enc {h : Hdr} (hk : h.Ok) (hc : jE9 h = 0) (t : List UInt8) : decV (encV h ++ t) = h ∧ decE (encV h ++ t) = 0 := by
  unfold encV decV
  rw [if_pos hc, (dec_enc hk hc t).2, if_pos rfl, (dec_enc hk hc t).1]
  exact ⟨rfl, rfl⟩
theorem decE_ok {l : List UInt8} (h : decE l = 0) : 127 ≤ l.length ∧ l.take 7 = magic7 ∧ l[7]? = some 3 ∧ atL l 96 1 ≤ 1 ∧ jE9 (decH l) = 0 := by
  unfold decE at h
  by_cases h1 : l.length < 127
  · simp [h1] at h
  by_cases h2 : l.take 7 ≠ magic7
  · simp [h1, h2] at h
  by_cases h3 : l[7]? ≠ some 3
  · simp [h1, h2, h3] at h
  by_cases h4 : 1 < atL l 96 1
  · simp [h1, h2, h3, h4] at h
  rw [if_neg h1, if_neg h2, if_neg h3, if_neg h4] at h
  exact ⟨by omega, Classical.byContradiction h2, Classical.byContradiction h3, by omega, h⟩
end Go.Proofs.YtkojkeabelckjaaGreatDoor.Y
end

section
set_option linter.all false
namespace Go.Proofs.YtkojkeabelckjaaGreatDoor
open Go.RowKit
def join_rho : Go.Shelf.Ren := ⟨fun n => match n with | 0 => 0 | 1 => 1 | 2 => 2 | 99 => 152 | 103 => 173 | 119 => 225 | 120 => 224 | 125 => 81 | 128 => 129 | 129 => 130 | 137 => 131 | 150 => 175 | 151 => 211 | 152 => 213 | 153 => 203 | 156 => 62 | 160 => 174 | 161 => 172 | 165 => 104 | 166 => 105 | 168 => 190 | 169 => 106 | 171 => 230 | 172 => 176 | 197 => 191 | 205 => 229 | 206 => 184 | 210 => 199 | 217 => 164 | 224 => 226 | 225 => 227 | 226 => 214 | 227 => 196 | 228 => 210 | 231 => 195 | 232 => 200 | 233 => 197 | 234 => 201 | 235 => 198 | 236 => 202 | 240 => 149 | 241 => 150 | 242 => 208 | 243 => 234 | 244 => 204 | 245 => 205 | 246 => 235 | 247 => 215 | 260 => 209 | 266 => 188 | 271 => 212 | 276 => 182 | 277 => 183 | 278 => 223 | 279 => 216 | 280 => 217 | 281 => 218 | 282 => 219 | 283 => 236 | 284 => 237 | 285 => 238 | 286 => 239 | 287 => 228 | 316 => 141 | 317 => 240 | 318 => 241 | 319 => 242 | 320 => 243 | 321 => 232 | 322 => 233 | 329 => 160 | 330 => 161 | 337 => 244 | 338 => 245 | 347 => 246 | 348 => 247 | 349 => 248 | 350 => 249 | 351 => 250 | 352 => 251 | 353 => 252 | 354 => 253 | 355 => 254 | 356 => 255 | 357 => 256 | 358 => 257 | 359 => 258 | 360 => 259 | 361 => 260 | 362 => 265 | 363 => 269 | 364 => 267 | 365 => 268 | 366 => 270 | 367 => 280 | _ => 0, fun n => match n with | 0 => 0 | 1 => 1 | 2 => 2 | 3 => 3 | 4 => 4 | 5 => 5 | 6 => 6 | 7 => 7 | 8 => 8 | 9 => 9 | 10 => 10 | 11 => 11 | 12 => 12 | 13 => 13 | 14 => 14 | 15 => 15 | 16 => 16 | 17 => 17 | 18 => 18 | 19 => 19 | 20 => 20 | 21 => 21 | 22 => 256 | 23 => 283 | 24 => 103 | 25 => 284 | 27 => 312 | 28 => 247 | 31 => 147 | 37 => 132 | 40 => 332 | 41 => 282 | 46 => 48 | 47 => 172 | 51 => 112 | 52 => 243 | 53 => 45 | 54 => 193 | 55 => 244 | 63 => 317 | 64 => 318 | 67 => 146 | 69 => 190 | 70 => 203 | 71 => 204 | 72 => 205 | 73 => 206 | 74 => 207 | 75 => 208 | 76 => 209 | 77 => 210 | 79 => 301 | 80 => 126 | 81 => 148 | 83 => 338 | 84 => 346 | 85 => 320 | 86 => 321 | 99 => 288 | 104 => 342 | 105 => 302 | 106 => 303 | 108 => 337 | 111 => 289 | 114 => 164 | 115 => 306 | 116 => 307 | 117 => 308 | 118 => 309 | 119 => 328 | 122 => 305 | 123 => 310 | 124 => 311 | 126 => 316 | 127 => 254 | 128 => 313 | 131 => 101 | 137 => 329 | 138 => 330 | 139 => 331 | 143 => 343 | 144 => 344 | 145 => 345 | 148 => 232 | 164 => 290 | 165 => 291 | 166 => 292 | 167 => 319 | 168 => 322 | 169 => 323 | 170 => 324 | 171 => 347 | 172 => 348 | 173 => 349 | 174 => 350 | 175 => 333 | 176 => 334 | 182 => 237 | 183 => 238 | 203 => 339 | 209 => 335 | 210 => 336 | 211 => 351 | 212 => 352 | 213 => 353 | 214 => 341 | 218 => 268 | 219 => 269 | 220 => 218 | 222 => 271 | 228 => 296 | 229 => 297 | 232 => 354 | 233 => 355 | 238 => 356 | 239 => 357 | 240 => 358 | 241 => 359 | 242 => 360 | 243 => 361 | 244 => 362 | 245 => 363 | 246 => 364 | 247 => 365 | 248 => 366 | 249 => 367 | _ => 0, fun n => match n with | 1 => 0 | 3 => 1 | 4 => 2 | 15 => 3 | 16 => 4 | 17 => 5 | 18 => 6 | 19 => 7 | _ => 0⟩
theorem join0 : Lays.n156 Tryz.prog join_rho where
  mixed := by kernel_rfl
  f156 := by kernel_rfl
  f165 := by kernel_rfl
  f166 := by kernel_rfl
  f169 := by kernel_rfl
  f240 := by kernel_rfl
  f241 := by kernel_rfl
  f276 := by kernel_rfl
  f277 := by kernel_rfl
  t0 := by kernel_rfl
  a0 := fun w => by kernel_rfl
  z0 := fun w => by kernel_rfl
  v0 := fun w => by kernel_rfl
  t3 := by kernel_rfl
  a3 := fun w => by kernel_rfl
  z3 := fun w => by kernel_rfl
  v3 := fun w => by kernel_rfl
  t4 := by kernel_rfl
  a4 := fun w => by kernel_rfl
  z4 := fun w => by kernel_rfl
  v4 := fun w => by kernel_rfl
  t9 := by kernel_rfl
  a9 := fun w => by kernel_rfl
  z9 := fun w => by kernel_rfl
  v9 := fun w => by kernel_rfl
  t20 := by kernel_rfl
  a20 := fun w => by kernel_rfl
  z20 := fun w => by kernel_rfl
  v20 := fun w => by kernel_rfl
  t31 := by kernel_rfl
  a31 := fun w => by kernel_rfl
  z31 := fun w => by kernel_rfl
  v31 := fun w => by kernel_rfl
  t37 := by kernel_rfl
  a37 := fun w => by kernel_rfl
  z37 := fun w => by kernel_rfl
  v37 := fun w => by kernel_rfl
  t70 := by kernel_rfl
  a70 := fun w => by kernel_rfl
  z70 := fun w => by kernel_rfl
  v70 := fun w => by kernel_rfl
  t72 := by kernel_rfl
  a72 := fun w => by kernel_rfl
  z72 := fun w => by kernel_rfl
  v72 := fun w => by kernel_rfl
  t75 := by kernel_rfl
  a75 := fun w => by kernel_rfl
  z75 := fun w => by kernel_rfl
  v75 := fun w => by kernel_rfl
  t76 := by kernel_rfl
  a76 := fun w => by kernel_rfl
  z76 := fun w => by kernel_rfl
  v76 := fun w => by kernel_rfl
  t127 := by kernel_rfl
  a127 := fun w => by kernel_rfl
  z127 := fun w => by kernel_rfl
  v127 := fun w => by kernel_rfl
  t164 := by kernel_rfl
  a164 := fun w => by kernel_rfl
  z164 := fun w => by kernel_rfl
  v164 := fun w => by kernel_rfl
theorem join1 : Builder.Extra Tryz.prog join_rho where
  sizeBuilder := by kernel_rfl
  liesBuilder := by kernel_rfl
  t5 := by kernel_rfl
  a5 := fun w => by kernel_rfl
  z5 := fun w => by kernel_rfl
  v5 := fun w => by kernel_rfl
  infoByte := by kernel_rfl
  cellsByte := by kernel_rfl
  sizeByte := by kernel_rfl
  neB5 := by decide
theorem enter_join : Enters Tryz.prog 62 := Enters.mk Tryz.func62 (by kernel_rfl) (by kernel_rfl)
theorem join_any (bk o c : Nat) (xs : List (List UInt8)) (sep : List UInt8) (w : World)
    (hcells : ∀ (j : Nat) x, xs[j]? = some x → w.cell? ⟨bk, o + j, none⟩ = some (.string (str x)))
    (hbk : bk < w.heap.size) (hN : xs.length ≤ 140737488355328) (hcap : xs.length ≤ c) (hlen : (Lib.join xs sep).length ≤ 140737488355328) :
    Calls Tryz.prog 62 #[.slice (some ⟨bk, o, none⟩) xs.length c, .string (str sep)] w fun e w' => e = .returned (.string (str (Lib.join xs sep))) ∧ Bel w w' := by
  have e : (xs.map str).map (fun (x : ByteArray) => x.data.toList) = xs := by
    rw [List.map_map]
    conv => rhs; rw [← List.map_id xs]
    exact List.map_congr_left fun l _ => by simp [str]
  have h := Any.strings_Join join0 join1 bk o c (xs.map str) (str sep) w (fun j x hx => by
    rw [List.getElem?_map] at hx
    cases hj : xs[j]? with
    | none => rw [hj] at hx; cases hx
    | some y => rw [hj] at hx; rw [← Option.some.inj hx]; exact hcells j y hj) hbk (by simpa using hN) (by simpa using hcap) (by rw [e]; simpa [str] using hlen)
  rw [e, List.length_map] at h
  exact h
end Go.Proofs.YtkojkeabelckjaaGreatDoor
end

section
set_option linter.all false
namespace Go.Proofs.YtkojkeabelckjaaGreatDoor.Y
open Go.RowKit
def secOk (a b c d : Nat) : Bool := decide (127 + a + b + c + d ≤ 1099511627776)
def zero8 : List Value := [uq 0, uq 0, uq 0, uq 0, uq 0, uq 0, uq 0, uq 0]
def secC (a b c d : Nat) : List Value := if secOk a b c d = true then [uq 127, uq a, uq (127 + a), uq b, uq (127 + a + b), uq c, uq (127 + a + b + c), uq d] else zero8
def secN (a b c d : Nat) : Nat := if secOk a b c d = true then 127 + a + b + c + d else 0
def secE (a b c d : Nat) : Int := if secOk a b c d = true then 0 else 8
def atK (a b c d : Nat) : Nat → Nat
  | 0 => 127 | 1 => 127 + a | 2 => 127 + a + b | 3 => 127 + a + b + c | _ => 127 + a + b + c + d
def lnK (a b c d : Nat) : Nat → Nat
  | 0 => a | 1 => b | 2 => c | _ => d
def outK (a b c d : Nat) : Nat → List Value
  | 0 => zero8
  | 1 => [uq 127, uq a, uq 0, uq 0, uq 0, uq 0, uq 0, uq 0]
  | 2 => [uq 127, uq a, uq (127 + a), uq b, uq 0, uq 0, uq 0, uq 0]
  | 3 => [uq 127, uq a, uq (127 + a), uq b, uq (127 + a + b), uq c, uq 0, uq 0]
  | _ => [uq 127, uq a, uq (127 + a), uq b, uq (127 + a + b), uq c, uq (127 + a + b + c), uq d]
theorem four {k : Nat} (h : k < 4) : k = 0 ∨ k = 1 ∨ k = 2 ∨ k = 3 := by omega
section
variable (a b c d : Nat) {k : Nat}
theorem ln_rd (h : k < 4) : rdV false 1 [uq a, uq b, uq c, uq d] k = some (uq (lnK a b c d k)) := by obtain rfl | rfl | rfl | rfl := four h <;> rfl
theorem out_wr (h : k < 4) : wrV (outK a b c d k) (k * 2) [uq (atK a b c d k), uq (lnK a b c d k)] = outK a b c d (k + 1) := by obtain rfl | rfl | rfl | rfl := four h <;> rfl
theorem out_len : (outK a b c d k).length = 8 := by unfold outK; split <;> rfl
theorem at_next (h : k < 4) : atK a b c d (k + 1) = atK a b c d k + lnK a b c d k := by obtain rfl | rfl | rfl | rfl := four h <;> rfl
theorem at_le (h : k ≤ 4) : atK a b c d k ≤ 127 + a + b + c + d := by
  obtain rfl | rfl | rfl | rfl | rfl : k = 0 ∨ k = 1 ∨ k = 2 ∨ k = 3 ∨ k = 4 := by omega
  all_goals simp [atK]
  all_goals omega
theorem ln_le (h : k < 4) : lnK a b c d k ≤ a + b + c + d := by obtain rfl | rfl | rfl | rfl := four h <;> simp [lnK] <;> omega
end
theorem sections_fn (a b c d : Nat) (h4 : a < 18446744073709551616 ∧ b < 18446744073709551616 ∧ c < 18446744073709551616 ∧ d < 18446744073709551616) :
    Fn Tryz.prog 59 [.agg #[uq a, uq b, uq c, uq d]] [] fun v _ => v = .tuple #[.agg (secC a b c d).toArray, uq (secN a b c d), iq (secE a b c d)] := by
  refine Fn.enter (N := 30) Tryz.func59 rfl (by kernel_rfl) rfl (fun w0 => ?_)
  refine aR (fun Z hZ => ?_)
  refine jA5 rfl rfl rfl (fun g1 => ?_)
  refine sAl tyZ141 rfl (fun g2 => ?_)
  refine sA rfl rfl <| sA rfl rfl <| sN (hZ _ _ ?_)
  refine aF [(1, _), (2, _)] (Kn.cons rfl (Kn.cons rfl (Kn.nil))) ?_
  refine aR (fun Z hZ => ?_)
  refine sAl tyZ141 rfl (fun g3 => ?_)
  refine sN (hZ _ _ ?_)
  refine aF [(1, _), (2, _), (5, _)] (Kn.cons rfl (Kn.cons rfl (Kn.cons rfl (Kn.nil)))) ?_
  refine aR fun Z hZ => sA rfl rfl <| sN (hZ _ _ ?_)
  refine aF [(1, _), (2, _), (5, _), (6, _)] (Kn.cons rfl (Kn.cons rfl (Kn.cons rfl (Kn.cons rfl (Kn.nil))))) ?_
  refine aS ?_
  refine aR (fun Z hZ => ?_)
  refine sLA 2 rfl rfl tyA140 tyS140 rfl (by simp only [List.take_succ_cons, List.take_zero, List.drop_zero, Value.cells]; rfl) rfl ?_
  refine sM rfl rfl <| sN (hZ _ _ ?_)
  refine aF [(2, _), (5, _), (6, _), (9, _), (10, _)] (Kn.cons rfl (Kn.cons rfl (Kn.cons rfl (Kn.cons rfl (Kn.cons rfl (Kn.nil)))))) ?_
  refine aB ?_
  refine jC2 (ι := Nat) (fun k => [(2, ptr g2 0), (5, ptr g3 0), (6, uq (atK a b c d k)), (9, .agg #[uq a, uq b, uq c, uq d]), (10, iq (k : Nat))]) (fun k => [.own g3 141 (outK a b c d k), .own g2 141 zero8])
    (fun k => k ≤ 4 ∧ atK a b c d k ≤ 1099511627776) (fun k => 4 - k) 0 ⟨by omega, by simp [atK]⟩ (Kn.cons rfl (Kn.cons rfl (Kn.cons rfl (Kn.cons rfl (Kn.cons rfl Kn.nil))))) (HLe.pick [0, 1] (by simp) rfl) ?_
  rintro k ⟨hk, hat⟩
  refine aR (fun Z hZ => ?_)
  refine jC3 rfl rfl rfl ?_
  refine sN (hZ _ _ ?_)
  refine aF [(2, _), (5, _), (6, _), (9, _), (10, _), (11, _)] (Kn.cons rfl (Kn.cons rfl (Kn.cons rfl (Kn.cons rfl (Kn.cons rfl (Kn.cons rfl (Kn.nil))))))) ?_
  refine aS (aC rfl (fun h => ?_) (fun h => ?_))
  · have hlt : k < 4 := by simp at h; omega
    have hnx := at_next a b c d hlt
    have hle := at_le a b c d (k := k + 1) (by omega)
    have hll := ln_le a b c d hlt
    refine aK ?_
    with_reducible refine nN ?_
    refine aS (aB ?_)
    refine aR fun Z hZ => sM rfl rfl ?_
    refine sx_indexA Tryz.underlying140 tyA45 tyS45 rfl rfl (by omega) (by simpa using ln_rd a b c d hlt) rfl ?_
    refine sA rfl rfl <| sA rfl rfl <| sN (hZ _ _ ?_)
    refine aF [(2, _), (5, _), (6, _), (7, _), (8, _), (9, _), (10, _)] (Kn.cons rfl (Kn.cons rfl (Kn.cons rfl (Kn.cons rfl (Kn.cons rfl (Kn.cons rfl (Kn.cons rfl (Kn.nil)))))))) ?_
    refine aS ?_
    refine aR fun Z hZ => sM rfl rfl <| sM rfl rfl ?_
    refine jG4 rfl rfl ((1099511627776 - atK a b c d k : Nat) : Int) (by rw [IntWalk.u64_in _ (by omega)]; omega) rfl ?_
    refine jE3 rfl rfl rfl ?_
    refine sN (hZ _ _ ?_)
    refine aF [(2, _), (5, _), (6, _), (7, _), (8, _), (9, _), (10, _), (17, _)] (Kn.cons rfl (Kn.cons rfl (Kn.cons rfl (Kn.cons rfl (Kn.cons rfl (Kn.cons rfl (Kn.cons rfl (Kn.cons rfl (Kn.nil))))))))) ?_
    refine aC rfl (fun hf => ?_) (fun hf => ?_)
    · refine aR (fun Z hZ => ?_)
      refine jE5 tyZ141 Tryz.underlying141 tyS76 rfl rfl rfl rfl ?_
      refine sS 1 rfl rfl rfl tyS141 rfl rfl rfl rfl (cs' := zero8) rfl rfl ?_
      refine sA rfl rfl <| sA rfl rfl <| sN (hZ _ _ ?_)
      refine aF [(2, _), (3, _), (4, _)] (Kn.cons rfl (Kn.cons rfl (Kn.cons rfl (Kn.nil)))) ?_
      refine aE ?_
      repeat (with_reducible (first | refine nTR ?_ | refine nBR ?_))
      have hno : secOk a b c d = false := decide_eq_false (by simp at hf; omega)
      refine nx_ret3 rfl (ResOk.cell 1 rfl rfl tyA141 tyS141 rfl) rfl rfl ?_
      simp only [secC, secN, secE, hno]
      rfl
    have hfit : lnK a b c d k + atK a b c d k ≤ 1099511627776 := by simp at hf; omega
    refine aK ?_
    with_reducible refine nN ?_
    refine aR fun Z hZ => sM rfl rfl <| sM rfl rfl <| sM rfl rfl ?_
    refine jB3 tyZ76 tyP76 rfl rfl (by simp only [List.take_succ_cons, List.take_zero, List.drop_succ_cons, List.drop_zero, List.cons_append, List.nil_append, List.append_nil, List.length_cons, List.length_nil, Nat.reduceAdd, Nat.zero_add, Value.cells, wrV]; rfl) rfl ?_
    refine jC4 (k * 2) Tryz.underlying141 tyS76 rfl rfl (by omega) (by simp) rfl ?_
    refine sS 0 rfl rfl rfl tyS76 rfl rfl rfl (by rw [out_len]; exact Nat.ble_eq_true_of_le (by omega)) (out_wr a b c d hlt) rfl ?_
    refine sN (hZ _ _ ?_)
    refine aF [(2, _), (5, _), (6, _), (8, _), (9, _), (10, _)] (Kn.cons rfl (Kn.cons rfl (Kn.cons rfl (Kn.cons rfl (Kn.cons rfl (Kn.cons rfl (Kn.nil))))))) ?_
    refine aG (fun Z hZ => ?_)
    refine sM rfl rfl <| sM rfl rfl ?_
    refine jA7 rfl rfl ((atK a b c d (k + 1) : Nat) : Int) (by rw [IntWalk.u64_in _ (by omega)]; omega) rfl ?_
    refine sA rfl rfl <| sN (hZ _ _ ?_)
    refine nF [(2, _), (5, _), (6, _), (9, _), (10, _)] (Kn.cons rfl (Kn.cons rfl (Kn.cons rfl (Kn.cons rfl (Kn.cons rfl (Kn.nil)))))) ?_
    repeat (with_reducible refine nBN ?_)
    with_reducible refine nN ?_
    refine aG (fun Z hZ => ?_)
    refine jA7 rfl rfl ((k + 1 : Nat) : Int) (by rw [IntWalk.i64_in _ (by omega)]; omega) rfl ?_
    refine sM rfl rfl <| sN (hZ _ _ ?_)
    refine nF [(2, _), (5, _), (6, _), (9, _), (10, _)] (Kn.cons rfl (Kn.cons rfl (Kn.cons rfl (Kn.cons rfl (Kn.cons rfl (Kn.nil)))))) ?_
    exact jB4 (k + 1) ⟨by omega, by omega⟩ (by omega) (Kn.cons rfl (Kn.cons rfl (Kn.cons rfl (Kn.cons rfl (Kn.cons rfl Kn.nil))))) (HLe.refl _)
  · refine jA8 ?_
    repeat (with_reducible refine nTE ?_)
    with_reducible refine nBE ?_
    with_reducible refine nN ?_
    have hke : k = 4 := by simp at h; omega
    subst hke
    have hyes : secOk a b c d = true := decide_eq_true hat
    refine aR (fun Z hZ => ?_)
    refine sLA 0 rfl rfl tyA141 tyS141 rfl rfl rfl ?_
    refine sM rfl rfl ?_
    refine sS 1 rfl rfl rfl tyS141 rfl rfl rfl rfl rfl rfl ?_
    refine sA rfl rfl <| sA rfl rfl <| sN (hZ _ _ ?_)
    refine aF [(2, _), (3, _), (4, _)] (Kn.cons rfl (Kn.cons rfl (Kn.cons rfl (Kn.nil)))) ?_
    refine aE ?_
    refine nx_ret3 rfl (ResOk.cell 1 rfl rfl tyA141 tyS141 rfl) rfl rfl ?_
    simp only [secC, secN, secE, hyes]
    rfl
end Go.Proofs.YtkojkeabelckjaaGreatDoor.Y
namespace Go.Proofs.YtkojkeabelckjaaGreatDoor.Y
open Go.RowKit
def withH (h : Hdr) (p0 q0 p1 q1 p2 q2 p3 q3 : Nat) : Hdr := { h with r0 := p0, r1 := q0, m0 := p1, m1 := q1, l0 := p2, l1 := q2, d0 := p3, d1 := q3 }
abbrev sec8 (p0 q0 p1 q1 p2 q2 p3 q3 : Nat) : List Value := [uq p0, uq q0, uq p1, uq q1, uq p2, uq q2, uq p3, uq q3]
theorem with_fn (h : Hdr) (p0 q0 p1 q1 p2 q2 p3 q3 : Nat) : Fn Tryz.prog 61 [h.val, .agg (sec8 p0 q0 p1 q1 p2 q2 p3 q3).toArray] [] fun v _ => v = (withH h p0 q0 p1 q1 p2 q2 p3 q3).val := by
  refine Fn.enter (N := 18) Tryz.func61 rfl (by kernel_rfl) rfl (fun w0 => ?_)
  refine aR (fun Z hZ => ?_)
  refine jA5 rfl rfl rfl (fun g1 => ?_)
  refine jA5 rfl rfl rfl (fun g2 => ?_)
  refine sAl tyZ78 rfl (fun g3 => ?_)
  refine sN (hZ _ _ ?_)
  refine aF [(2, _), (3, _), (4, _)] (Kn.cons rfl (Kn.cons rfl (Kn.cons rfl (Kn.nil)))) ?_
  refine awv_seq_region 1 [(0, true), (1, true), (2, true), (3, true), (4, true), (5, true), (6, true), (7, true), (8, true), (9, false), (10, true), (11, false), (12, true), (13, false), (14, true), (15, false)] mixed (by kernel_rfl) rfl (fun Z hZ => ?_)
  refine tv_p rfl ?_
  refine sp_indexAddrA 0 Tryz.underlying141 tyS76 rfl rfl (by omega) rfl rfl ?_
  refine sp_nil ?_
  refine tv_load rfl rfl tyA76 tyS76 rfl rfl ?_
  refine tv_p rfl ?_
  refine sp_indexAddrA 2 Tryz.underlying141 tyS76 rfl rfl (by omega) rfl rfl ?_
  refine sp_nil ?_
  refine tv_load rfl rfl tyA76 tyS76 rfl rfl ?_
  refine tv_p rfl ?_
  refine sp_indexAddrA 4 Tryz.underlying141 tyS76 rfl rfl (by omega) rfl rfl ?_
  refine sp_nil ?_
  refine tv_load rfl rfl tyA76 tyS76 rfl rfl ?_
  refine tv_p rfl ?_
  refine sp_indexAddrA 6 Tryz.underlying141 tyS76 rfl rfl (by omega) rfl rfl ?_
  refine sp_nil ?_
  refine tv_load rfl rfl tyA76 tyS76 rfl rfl ?_
  refine tv_p rfl ?_
  refine sp_fieldAddr rfl tyF78_0 (by simp only [Nat.add_zero]; rfl) rfl ?_
  refine sp_nil ?_
  refine tv_g 1 rfl ?_
  refine sS 2 rfl rfl rfl tyS76 (by simp only [Value.cells]; rfl) rfl rfl rfl (by simp only [List.take_succ_cons, List.take_zero, List.drop_succ_cons, List.drop_zero, List.cons_append, List.nil_append, List.length_cons, List.length_nil, Nat.reduceAdd, Nat.zero_add, Value.cells, wrV]; rfl) (by simp only [List.set_cons_succ, List.set_cons_zero]; rfl) ?_
  refine sN ⟨rfl, ?_⟩
  refine tv_p rfl ?_
  refine sp_fieldAddr rfl tyF78_1 (by simp only [Nat.zero_add]; rfl) rfl ?_
  refine sp_nil ?_
  refine tv_g 1 rfl ?_
  refine sS 2 rfl rfl rfl tyS76 (by simp only [Value.cells]; rfl) rfl rfl rfl (by simp only [List.take_succ_cons, List.take_zero, List.drop_succ_cons, List.drop_zero, List.cons_append, List.nil_append, List.length_cons, List.length_nil, Nat.reduceAdd, Nat.zero_add, wrV]; rfl) (by simp only [List.set_cons_succ, List.set_cons_zero]; rfl) ?_
  refine sN ⟨rfl, ?_⟩
  refine tv_p rfl ?_
  refine sp_fieldAddr rfl tyF78_2 (by simp only [Nat.zero_add]; rfl) rfl ?_
  refine sp_nil ?_
  refine tv_g 1 rfl ?_
  refine sS 2 rfl rfl rfl tyS76 (by simp only [Value.cells]; rfl) rfl rfl rfl (by simp only [List.take_succ_cons, List.take_zero, List.drop_succ_cons, List.drop_zero, List.cons_append, List.nil_append, List.length_cons, List.length_nil, Nat.reduceAdd, Nat.zero_add, wrV]; rfl) (by simp only [List.set_cons_succ, List.set_cons_zero]; rfl) ?_
  refine sN ⟨rfl, ?_⟩
  refine tv_p rfl ?_
  refine sp_fieldAddr rfl tyF78_3 (by simp only [Nat.zero_add]; rfl) rfl ?_
  refine sp_nil ?_
  refine tv_g 1 rfl ?_
  refine sS 2 rfl rfl rfl tyS76 (by simp only [Value.cells]; rfl) rfl rfl rfl (by simp only [List.take_succ_cons, List.take_zero, List.drop_succ_cons, List.drop_zero, List.cons_append, List.nil_append, List.length_cons, List.length_nil, Nat.reduceAdd, Nat.zero_add, wrV]; rfl) (by simp only [List.set_cons_succ, List.set_cons_zero]; rfl) ?_
  refine sN ⟨rfl, ?_⟩
  refine tv_nil (hZ _ _ ?_)
  refine aF [(2, _), (4, _)] (Kn.cons rfl (Kn.cons rfl (Kn.nil))) ?_
  refine aR (fun Z hZ => ?_)
  refine sLA 2 rfl rfl tyA78 tyS78 rfl (by simp only [List.take_succ_cons, List.take_zero, List.drop_zero]; rfl) rfl ?_
  refine sS 0 rfl rfl rfl tyS78 (by simp only [Value.cells]; rfl) rfl rfl rfl (by simp only [List.take_zero, List.drop_succ_cons, List.drop_zero, List.nil_append, List.append_nil, List.length_cons, List.length_nil, Nat.reduceAdd, Nat.zero_add, wrV]; rfl) (by simp only [List.set_cons_zero]; rfl) ?_
  refine sN (hZ _ _ ?_)
  refine aF [(4, _)] (Kn.cons rfl (Kn.nil)) ?_
  refine aE ?_
  exact nR1 rfl (ResOk.cell 0 rfl rfl tyA78 tyS78 rfl) rfl
end Go.Proofs.YtkojkeabelckjaaGreatDoor.Y
namespace Go.Proofs.YtkojkeabelckjaaGreatDoor.Y
open Go.RowKit
structure P4 where
  (a b c d : List UInt8)
structure P4.Ok (p : P4) : Prop where
  a : p.a.length ≤ 20000
  b : p.b.length ≤ 20000
  c : p.c.length ≤ 20000
  d : p.d.length ≤ 20000
abbrev P4.cells (p : P4) : List Value := [.string (str p.a), .string (str p.b), .string (str p.c), .string (str p.d)]
def P4.at_ (p : P4) : Nat → List UInt8
  | 0 => p.a | 1 => p.b | 2 => p.c | _ => p.d
def P4.lens (p : P4) : Nat → List Value
  | 0 => [uq 0, uq 0, uq 0, uq 0]
  | 1 => [uq p.a.length, uq 0, uq 0, uq 0]
  | 2 => [uq p.a.length, uq p.b.length, uq 0, uq 0]
  | 3 => [uq p.a.length, uq p.b.length, uq p.c.length, uq 0]
  | _ => [uq p.a.length, uq p.b.length, uq p.c.length, uq p.d.length]
def P4.all (p : P4) : List UInt8 := p.a ++ p.b ++ p.c ++ p.d
theorem P4.rd (p : P4) {k : Nat} (h : k < 4) : rdV false 1 p.cells k = some (.string (str (p.at_ k))) := by obtain rfl | rfl | rfl | rfl := four h <;> rfl
theorem P4.at_ok (p : P4) (hp : p.Ok) (k : Nat) : (p.at_ k).length ≤ 20000 := by
  unfold P4.at_
  split
  · exact hp.a
  · exact hp.b
  · exact hp.c
  · exact hp.d
theorem P4.wr (p : P4) {k : Nat} (h : k < 4) : (p.lens k).set k (uq (p.at_ k).length) = p.lens (k + 1) := by obtain rfl | rfl | rfl | rfl := four h <;> rfl
theorem P4.len (p : P4) (k : Nat) : (p.lens k).length = 4 := by unfold P4.lens; split <;> rfl
def layH (h : Hdr) (a b c d : Nat) : Hdr := withH h 127 a (127 + a) b (127 + a + b) c (127 + a + b + c) d
def glueH (h : Hdr) (p : P4) : Hdr := layH h p.a.length p.b.length p.c.length p.d.length
def glueS (h : Hdr) (p : P4) : List UInt8 := if jE9 (glueH h p) = 0 then encV (glueH h p) ++ p.all else []
theorem P4.fits (p : P4) (hp : p.Ok) : secOk p.a.length p.b.length p.c.length p.d.length = true := decide_eq_true (by have := hp.a; have := hp.b; have := hp.c; have := hp.d; omega)
theorem glueH_ok (h : Hdr) (hk : h.Ok) (p : P4) (hp : p.Ok) : (glueH h p).Ok := by
  have := hp.a; have := hp.b; have := hp.c; have := hp.d
  obtain ⟨_, _, _, _, _, _, _, _, q8, q9, q10, q11, q12, q13⟩ := hk
  exact ⟨by show 127 < _; omega, by show p.a.length < _; omega, by show 127 + p.a.length < _; omega, by show p.b.length < _; omega, by show 127 + p.a.length + p.b.length < _; omega, by show p.c.length < _; omega, by show 127 + p.a.length + p.b.length + p.c.length < _; omega, by show p.d.length < _; omega, q8, q9, q10, q11, q12, q13⟩
theorem secC_ok {a b c d : Nat} (h : secOk a b c d = true) : secC a b c d = sec8 127 a (127 + a) b (127 + a + b) c (127 + a + b + c) d ∧ secE a b c d = 0 ∧ secN a b c d = 127 + a + b + c + d := ⟨if_pos h, if_pos h, if_pos h⟩
section
variable {P : Program} {N : Frm} {w0 : World} {Wr : List Nat} {ops : Array Oper} {rest : List Oper} {fr : Fr} {H : Heap} {Z : Fr → Heap → Prop}
variable {d ty : Nat} {pos : String} {after : Array Edge}
theorem sx_sliceArr {t e n size : Nat} {x : Operand} {g o : Nat} (ht : P.underlying t = some (.array n e)) (hs : tySize P e = some size) (hn : 0 < n) (hx : ev fr x = some (ptr g o)) (hN : Nat.ble (d + 1) N.n = true)
    (h : sx P N w0 Wr ops rest ((d, .slice (some ⟨g, o, none⟩) n n) :: fr) H Z) : sx P N w0 Wr ops (⟨some d, .slice t x none none none, ty, pos, after, none⟩ :: rest) fr H Z :=
  jE2 _ hN (fun a w ha _ => by
    have hn' : ¬ n = 0 := by omega
    simp only [execOp, Instr.sliceAt, ha.eval hx, Sem.run_bind, run_underlying ht, Result.andThen_ok, ptr, Instr.sureAddr, Sem.run_pure, Option.map_none, Instr.sliceBounds, jA9 hs, addr_add, Nat.zero_mul, Nat.add_zero, Nat.sub_zero]
    simp [hn']) h
end
theorem glue_fn (h : Hdr) (hk : h.Ok) (p : P4) (hp : p.Ok) : Fn Tryz.prog 25 [h.val, .agg p.cells.toArray] [] fun v _ => v = .tuple #[.string (str (glueS h p)), iq (jE9 (glueH h p))] := by
  obtain ⟨hC, hE, hN⟩ := secC_ok (p.fits hp)
  have := hp.a; have := hp.b; have := hp.c; have := hp.d
  obtain ⟨G, hG⟩ : ∃ G, glueH h p = G := ⟨_, rfl⟩
  have hGk := glueH_ok h hk p hp
  unfold glueS
  rw [hG] at hGk ⊢
  have henc : (encV G).length ≤ 127 := by
    unfold encV
    split
    · rw [enc5_length]; omega
    · simp
  refine Fn.enter (N := 47) Tryz.func25 rfl (by kernel_rfl) rfl (fun w0 => ?_)
  refine aR (fun Z hZ => ?_)
  refine jA5 rfl rfl rfl (fun g1 => ?_)
  refine jA5 rfl rfl rfl (fun g2 => ?_)
  refine sA rfl rfl <| sA rfl rfl <| sN (hZ _ _ ?_)
  refine aF [(2, _), (3, _)] (Kn.cons rfl (Kn.cons rfl (Kn.nil))) ?_
  refine aR (fun Z hZ => ?_)
  refine sAl tyZ140 rfl (fun g3 => ?_)
  refine sN (hZ _ _ ?_)
  refine aF [(2, _), (3, _), (6, _)] (Kn.cons rfl (Kn.cons rfl (Kn.cons rfl (Kn.nil)))) ?_
  refine aS ?_
  refine aR (fun Z hZ => ?_)
  refine sLA 1 rfl rfl tyA80 tyS80 rfl (by simp only [List.take_succ_cons, List.take_zero, List.drop_zero, Value.cells]; rfl) rfl ?_
  refine sM rfl rfl <| sN (hZ _ _ ?_)
  refine aF [(2, _), (3, _), (6, _), (13, _), (14, _)] (Kn.cons rfl (Kn.cons rfl (Kn.cons rfl (Kn.cons rfl (Kn.cons rfl (Kn.nil)))))) ?_
  refine aB ?_
  refine jC2 (ι := Nat) (fun k => [(2, ptr g1 0), (3, ptr g2 0), (6, ptr g3 0), (13, .agg p.cells.toArray), (14, iq (k : Nat))]) (fun k => [.own g3 140 (p.lens k), .own g2 80 p.cells, .own g1 78 h.cells])
    (fun k => k ≤ 4) (fun k => 4 - k) 0 (by omega) (Kn.cons rfl (Kn.cons rfl (Kn.cons rfl (Kn.cons rfl (Kn.cons rfl Kn.nil))))) (HLe.refl _) ?_
  intro k hk4
  refine aR (fun Z hZ => ?_)
  refine jC3 rfl rfl rfl ?_
  refine sN (hZ _ _ ?_)
  refine aF [(2, _), (3, _), (6, _), (13, _), (14, _), (15, _)] (Kn.cons rfl (Kn.cons rfl (Kn.cons rfl (Kn.cons rfl (Kn.cons rfl (Kn.cons rfl (Kn.nil))))))) ?_
  refine aS (aC rfl (fun hh => ?_) (fun hh => ?_))
  · have hlt : k < 4 := by simp at hh; omega
    have hal := p.at_ok hp k
    refine aK ?_
    with_reducible refine nN ?_
    refine aS (aB ?_)
    refine aR fun Z hZ => sM rfl rfl ?_
    refine sx_indexA Tryz.underlying80 tyA9 tyS9 rfl rfl (by omega) (by simpa using p.rd hlt) rfl ?_
    refine sA rfl rfl <| sA rfl rfl <| sN (hZ _ _ ?_)
    refine aF [(2, _), (3, _), (6, _), (7, _), (8, _), (13, _), (14, _)] (Kn.cons rfl (Kn.cons rfl (Kn.cons rfl (Kn.cons rfl (Kn.cons rfl (Kn.cons rfl (Kn.cons rfl (Kn.nil)))))))) ?_
    refine aG (fun Z hZ => ?_)
    refine sM rfl rfl <| sM rfl rfl ?_
    refine jF3 Tryz.underlying9 rfl rfl ?_
    refine jA6 Tryz.underlying3 Tryz.underlying45 rfl (((p.at_ k).length : Nat) : Int) (by rw [IntWalk.u64_in _ (by omega)]) rfl ?_
    refine jC4 k Tryz.underlying140 tyS45 rfl rfl (by omega) (by simp) rfl ?_
    refine sS1 0 rfl rfl rfl tyS45 rfl (by rw [P4.len]; exact Nat.ble_eq_true_of_le (by omega)) (p.wr hlt) rfl ?_
    refine sN (hZ _ _ ?_)
    refine nF [(2, _), (3, _), (6, _), (13, _), (14, _)] (Kn.cons rfl (Kn.cons rfl (Kn.cons rfl (Kn.cons rfl (Kn.cons rfl (Kn.nil)))))) ?_
    repeat (with_reducible refine nBN ?_)
    with_reducible refine nN ?_
    refine aG (fun Z hZ => ?_)
    refine jA7 rfl rfl ((k + 1 : Nat) : Int) (by rw [IntWalk.i64_in _ (by omega)]; omega) rfl ?_
    refine sM rfl rfl <| sN (hZ _ _ ?_)
    refine nF [(2, _), (3, _), (6, _), (13, _), (14, _)] (Kn.cons rfl (Kn.cons rfl (Kn.cons rfl (Kn.cons rfl (Kn.cons rfl (Kn.nil)))))) ?_
    exact jB4 (k + 1) (by omega) (by omega) (Kn.cons rfl (Kn.cons rfl (Kn.cons rfl (Kn.cons rfl (Kn.cons rfl Kn.nil))))) (HLe.refl _)
  · refine jA8 ?_
    repeat (with_reducible refine nTE ?_)
    with_reducible refine nBE ?_
    with_reducible refine nN ?_
    have hke : k = 4 := by simp at hh; omega
    subst hke
    refine aR (fun Z hZ => ?_)
    refine sLA 0 rfl rfl tyA140 tyS140 rfl rfl rfl ?_
    refine sCP (sections_fn p.a.length p.b.length p.c.length p.d.length (by omega)) rfl rfl ?_
    rw [hC, hE, hN]
    refine sM rfl rfl <| sX rfl rfl rfl <| sX rfl rfl rfl <| sX rfl rfl rfl ?_
    refine sAl tyZ141 rfl (fun g4 => ?_)
    refine sS 0 rfl rfl rfl tyS141 (by simp only [Value.cells]; rfl) rfl rfl rfl (by simp only [List.take_zero, List.drop_succ_cons, List.drop_zero, List.nil_append, List.append_nil, List.length_cons, List.length_nil, Nat.reduceAdd, Nat.zero_add, wrV]; rfl) (by simp only [List.set_cons_zero]; rfl) ?_
    refine sA rfl rfl <| sA rfl rfl <| sN (hZ _ _ ?_)
    refine aF [(2, _), (3, _), (9, _), (11, _)] (Kn.cons rfl (Kn.cons rfl (Kn.cons rfl (Kn.cons rfl (Kn.nil))))) ?_
    refine aS ?_
    refine aR fun Z hZ => sM rfl rfl ?_
    refine jC9 rfl rfl rfl ?_
    refine sN (hZ _ _ ?_)
    refine aF [(2, _), (3, _), (9, _), (11, _), (31, _)] (Kn.cons rfl (Kn.cons rfl (Kn.cons rfl (Kn.cons rfl (Kn.cons rfl (Kn.nil)))))) ?_
    refine aC rfl (fun he => ?_) (fun he => ?_)
    · simp at he
    refine aK ?_
    with_reducible refine nN ?_
    refine aR (fun Z hZ => ?_)
    refine sLA 3 rfl rfl tyA78 tyS78 rfl (by simp only [List.take_succ_cons, List.take_zero, List.drop_zero]; rfl) rfl ?_
    refine sLA 0 rfl rfl tyA141 tyS141 rfl (by simp only [List.take_succ_cons, List.take_zero, List.drop_zero]; rfl) rfl ?_
    refine sCP (with_fn h 127 p.a.length (127 + p.a.length) p.b.length (127 + p.a.length + p.b.length) p.c.length (127 + p.a.length + p.b.length + p.c.length) p.d.length) rfl rfl ?_
    rw [show withH h 127 p.a.length (127 + p.a.length) p.b.length (127 + p.a.length + p.b.length) p.c.length (127 + p.a.length + p.b.length + p.c.length) p.d.length = G from hG]
    refine sCP (hencode_fn G hGk) rfl rfl ?_
    refine sM rfl rfl <| sX rfl rfl rfl <| sX rfl rfl rfl <| sA rfl rfl <| sA rfl rfl <| sN (hZ _ _ ?_)
    refine aF [(3, _), (11, _), (12, _)] (Kn.cons rfl (Kn.cons rfl (Kn.cons rfl (Kn.nil)))) ?_
    refine aS ?_
    refine aR fun Z hZ => sM rfl rfl ?_
    refine jC9 rfl rfl rfl ?_
    refine sN (hZ _ _ ?_)
    refine aF [(3, _), (11, _), (12, _), (41, _)] (Kn.cons rfl (Kn.cons rfl (Kn.cons rfl (Kn.cons rfl (Kn.nil))))) ?_
    refine aC rfl (fun he2 => ?_) (fun he2 => ?_)
    · refine aR (fun Z hZ => ?_)
      refine sM rfl rfl <| sA rfl rfl <| sA rfl rfl <| sN (hZ _ _ ?_)
      refine aF [(4, _), (5, _)] (Kn.cons rfl (Kn.cons rfl (Kn.nil))) ?_
      refine aE ?_
      repeat (with_reducible refine nTR ?_)
      exact jE1 rfl rfl rfl (by rw [if_neg (by simpa using he2)]; rfl)
    refine aK ?_
    with_reducible refine nN ?_
    have hc0 : jE9 G = 0 := by simpa using he2
    have hj : Lib.join [p.a, p.b, p.c, p.d] [] = p.all := by simp [Lib.join_cons, Lib.joinTail, P4.all]
    refine aR fun Z hZ => sM rfl rfl ?_
    refine sx_sliceArr Tryz.underlying80 tyS9 (by omega) rfl rfl ?_
    refine sx_call0 (v := .string (str p.all)) enter_join rfl rfl (fun w hw => ?_) ?_
    rotate_left
    refine sx_cat rfl rfl (by (simp only [P4.all, List.length_append]; omega)) rfl ?_
    refine sA rfl rfl <| sA rfl rfl <| sN (hZ _ _ ?_)
    refine aF [(4, _), (5, _)] (Kn.cons rfl (Kn.cons rfl (Kn.nil))) ?_
    · refine aE ?_
      exact jE1 rfl rfl rfl (by rw [hc0, if_pos rfl])
    · have hm := Ent.cell (hw.mem (i := 2) rfl)
      have hl := Ent.lt (hw.mem (i := 2) rfl)
      have := join_any g2 0 4 [p.a, p.b, p.c, p.d] [] w (fun j x hx => by
        rw [Nat.zero_add, hm]
        have hj4 : j < 4 := by have := (List.getElem?_eq_some_iff.1 hx).1; simpa using this
        obtain rfl | rfl | rfl | rfl := four hj4 <;> (simp at hx; subst hx; rfl)) hl (by simp) (by simp) (by rw [hj]; simp only [P4.all, List.length_append]; omega)
      rw [hj] at this
      exact this
end Go.Proofs.YtkojkeabelckjaaGreatDoor.Y
namespace Go.Proofs.YtkojkeabelckjaaGreatDoor.Y
open Go.RowKit
def hf (h : Hdr) : Nat → Nat
  | 0 => h.r0 | 1 => h.m0 | 2 => h.l0 | _ => h.d0
def hl (h : Hdr) : Nat → Nat
  | 0 => h.r1 | 1 => h.m1 | 2 => h.l1 | _ => h.d1
theorem h_rd (h : Hdr) {k : Nat} (hk : k < 4) : rdV true 2 h.secs (k * 2) = some (.agg #[uq (hf h k), uq (hl h k)]) := by obtain rfl | rfl | rfl | rfl := four hk <;> rfl
theorem h_fits {h : Hdr} (hs : secsV h = true) (k : Nat) : hf h k ≤ 1099511627776 ∧ hl h k ≤ 1099511627776 := by
  simp only [secsV, fitsV, Bool.and_eq_true, decide_eq_true_eq] at hs
  unfold hf hl
  constructor <;> split <;> omega
theorem sec_of_check {h : Hdr} (hc : jE9 h = 0) : secsV h = true := by
  unfold jE9 at hc
  cases hs : secsV h with
  | true => rfl
  | false => rw [if_pos hs] at hc; cases hc
def inL (l : List UInt8) (k : Nat) : Bool := decide (hf (decV l) k + hl (decV l) k ≤ l.length)
def cutOk (l : List UInt8) : Bool := inL l 0 && inL l 1 && inL l 2 && inL l 3
def cutE (l : List UInt8) : Int := if decE l = 0 then (if cutOk l = true then 0 else 8) else decE l
def piece (l : List UInt8) (k : Nat) : List UInt8 := (l.drop (hf (decV l) k)).take (hl (decV l) k)
def cutH (l : List UInt8) : Hdr := if cutE l = 0 then decV l else zeroH
def cutP (l : List UInt8) : P4 := if cutE l = 0 then ⟨piece l 0, piece l 1, piece l 2, piece l 3⟩ else ⟨[], [], [], []⟩
def P4.out (p : P4) : Nat → List Value
  | 0 => [.string (str []), .string (str []), .string (str []), .string (str [])]
  | 1 => [.string (str p.a), .string (str []), .string (str []), .string (str [])]
  | 2 => [.string (str p.a), .string (str p.b), .string (str []), .string (str [])]
  | 3 => [.string (str p.a), .string (str p.b), .string (str p.c), .string (str [])]
  | _ => [.string (str p.a), .string (str p.b), .string (str p.c), .string (str p.d)]
theorem P4.out_wr (p : P4) {k : Nat} (h : k < 4) : (p.out k).set k (.string (str (p.at_ k))) = p.out (k + 1) := by obtain rfl | rfl | rfl | rfl := four h <;> rfl
theorem P4.out_len (p : P4) (k : Nat) : (p.out k).length = 4 := by unfold P4.out; split <;> rfl
def cutQ (l : List UInt8) : P4 := ⟨piece l 0, piece l 1, piece l 2, piece l 3⟩
theorem cutQ_at (l : List UInt8) {k : Nat} (h : k < 4) : (cutQ l).at_ k = piece l k := by obtain rfl | rfl | rfl | rfl := four h <;> rfl
theorem cut_no {l : List UInt8} {k : Nat} (hd : decE l = 0) (hk : k < 4) (h : inL l k = false) : cutE l = 8 := by
  have : cutOk l = false := by
    unfold cutOk
    obtain rfl | rfl | rfl | rfl := four hk <;> simp [h]
  unfold cutE
  rw [if_pos hd, this]
  rfl
theorem cut_yes {l : List UInt8} (hd : decE l = 0) (h : ∀ k, k < 4 → inL l k = true) : cutE l = 0 := by
  have : cutOk l = true := by unfold cutOk; rw [h 0 (by omega), h 1 (by omega), h 2 (by omega), h 3 (by omega)]; rfl
  unfold cutE
  rw [if_pos hd, this]
  rfl
theorem decV_check' {l : List UInt8} (h : decE l = 0) : jE9 (decV l) = 0 := by
  unfold decV
  rw [if_pos h]
  exact (decE_ok h).2.2.2.2
theorem cut_fn (l : List UInt8) (hl0 : l.length ≤ 100000) : Fn Tryz.prog 67 [.string (str l)] [] fun v _ => v = .tuple #[(cutH l).val, .agg (cutP l).cells.toArray, iq (cutE l)] := by
  refine Fn.enter (N := 52) Tryz.func67 rfl (by kernel_rfl) rfl (fun w0 => ?_)
  refine aR (fun Z hZ => ?_)
  refine sAl tyZ78 rfl (fun g1 => ?_)
  refine sAl tyZ80 rfl (fun g2 => ?_)
  refine sA rfl rfl <| sN (hZ _ _ ?_)
  refine aF [(0, _), (2, _), (3, _)] (Kn.cons rfl (Kn.cons rfl (Kn.cons rfl (Kn.nil)))) ?_
  refine aR fun Z hZ => sM rfl rfl ?_
  refine sCP (hdecode_fn l (by omega)) rfl rfl ?_
  refine sM rfl rfl <| sX rfl rfl rfl <| sX rfl rfl rfl ?_
  refine sAl tyZ78 rfl (fun g3 => ?_)
  refine sS 0 rfl rfl rfl tyS78 (by simp only [Value.cells]; rfl) rfl rfl rfl (by simp only [List.take_zero, List.drop_succ_cons, List.drop_zero, List.nil_append, List.append_nil, List.length_cons, List.length_nil, Nat.reduceAdd, Nat.zero_add, wrV]; rfl) (by simp only [List.set_cons_zero]; rfl) ?_
  refine sA rfl rfl <| sN (hZ _ _ ?_)
  refine aF [(0, _), (2, _), (3, _), (5, _), (6, _)] (Kn.cons rfl (Kn.cons rfl (Kn.cons rfl (Kn.cons rfl (Kn.cons rfl (Kn.nil)))))) ?_
  refine aS ?_
  refine aR fun Z hZ => sM rfl rfl ?_
  refine jC9 rfl rfl rfl ?_
  refine sN (hZ _ _ ?_)
  refine aF [(0, _), (2, _), (3, _), (5, _), (6, _), (16, _)] (Kn.cons rfl (Kn.cons rfl (Kn.cons rfl (Kn.cons rfl (Kn.cons rfl (Kn.cons rfl (Kn.nil))))))) ?_
  refine aC rfl (fun h => ?_) (fun h => ?_)
  · skip
    refine aR (fun Z hZ => ?_)
    refine jB3 tyZ78 tyP78 rfl rfl rfl rfl ?_
    refine jE5 tyZ80 Tryz.underlying80 tyS9 rfl rfl rfl rfl ?_
    refine sM rfl rfl ?_
    refine sS 2 rfl rfl rfl tyS78 (by simp only [Value.cells]; rfl) rfl rfl rfl (by simp only [List.take_zero, List.drop_succ_cons, List.drop_zero, List.nil_append, List.append_nil, List.length_cons, List.length_nil, Nat.reduceAdd, Nat.zero_add, wrV]; rfl) (by simp only [List.set_cons_succ, List.set_cons_zero]; rfl) ?_
    refine sS 1 rfl rfl rfl tyS80 (by simp only [Value.cells]; rfl) rfl rfl rfl (by simp only [List.take_zero, List.drop_succ_cons, List.drop_zero, List.nil_append, List.append_nil, List.length_cons, List.length_nil, Nat.reduceAdd, Nat.zero_add, wrV]; rfl) (by simp only [List.set_cons_succ, List.set_cons_zero]; rfl) ?_
    refine sA rfl rfl <| sN (hZ _ _ ?_)
    refine aF [(2, _), (3, _), (4, _)] (Kn.cons rfl (Kn.cons rfl (Kn.cons rfl (Kn.nil)))) ?_
    refine aE ?_
    repeat (with_reducible refine nTR ?_)
    have hd : ¬ decE l = 0 := by simpa using h
    have e : cutE l = decE l := if_neg hd
    exact nx_ret3 rfl (ResOk.cell 2 rfl rfl tyA78 tyS78 rfl) (ResOk.cell 1 rfl rfl tyA80 tyS80 rfl) rfl (by rw [cutH, cutP, e, if_neg hd, if_neg hd]; rfl)
  refine aK ?_
  with_reducible refine nN ?_
  have hd : decE l = 0 := by simpa using h
  have hs := sec_of_check (decV_check' hd)
  refine aR (fun Z hZ => ?_)
  refine sAl tyZ80 rfl (fun g4 => ?_)
  refine sN (hZ _ _ ?_)
  refine aF [(0, _), (2, _), (3, _), (5, _), (7, _)] (Kn.cons rfl (Kn.cons rfl (Kn.cons rfl (Kn.cons rfl (Kn.cons rfl (Kn.nil)))))) ?_
  refine aS ?_
  refine aR (fun Z hZ => ?_)
  refine sFA rfl tyF78_0 (by simp only [Nat.add_zero]; rfl) rfl ?_
  refine sLA 1 rfl rfl tyA76 tyS76 rfl (by simp only [List.take_succ_cons, List.take_zero, List.drop_zero]; rfl) rfl ?_
  refine sFA rfl tyF78_1 (by simp only [Nat.zero_add]; rfl) rfl ?_
  refine sLA 1 rfl rfl tyA76 tyS76 rfl (by simp only [List.take_succ_cons, List.take_zero, List.drop_succ_cons, List.drop_zero]; rfl) rfl ?_
  refine sFA rfl tyF78_2 (by simp only [Nat.zero_add]; rfl) rfl ?_
  refine sLA 1 rfl rfl tyA76 tyS76 rfl (by simp only [List.take_succ_cons, List.take_zero, List.drop_succ_cons, List.drop_zero]; rfl) rfl ?_
  refine sFA rfl tyF78_3 (by simp only [Nat.zero_add]; rfl) rfl ?_
  refine sLA 1 rfl rfl tyA76 tyS76 rfl (by simp only [List.take_succ_cons, List.take_zero, List.drop_succ_cons, List.drop_zero]; rfl) rfl ?_
  refine jE5 tyZ141 Tryz.underlying141 tyS76 rfl rfl (by simp only [List.take_succ_cons, List.take_zero, List.drop_succ_cons, List.drop_zero, List.cons_append, List.nil_append, List.append_nil, List.length_cons, List.length_nil, Nat.reduceAdd, Nat.zero_add, Value.cells, wrV, Nat.reduceMul, Nat.zero_mul]; rfl) rfl ?_
  refine sM rfl rfl <| sN (hZ _ _ ?_)
  refine aF [(0, _), (2, _), (3, _), (5, _), (7, _), (28, _), (29, _)] (Kn.cons rfl (Kn.cons rfl (Kn.cons rfl (Kn.cons rfl (Kn.cons rfl (Kn.cons rfl (Kn.cons rfl (Kn.nil)))))))) ?_
  refine aB ?_
  refine jC2 (ι := Nat) (fun k => [(0, .string (str l)), (2, ptr g1 0), (3, ptr g2 0), (5, ptr g3 0), (7, ptr g4 0), (28, .agg (decV l).secs.toArray), (29, iq (k : Nat))]) (fun k => [.own g4 80 ((cutQ l).out k), .own g3 78 (decV l).cells, .own g2 80 [.string (str []), .string (str []), .string (str []), .string (str [])], .own g1 78 zeroH.cells])
    (fun k => k ≤ 4 ∧ ∀ j, j < k → inL l j = true) (fun k => 4 - k) 0 ⟨by omega, fun j h => by omega⟩ (Kn.cons rfl (Kn.cons rfl (Kn.cons rfl (Kn.cons rfl (Kn.cons rfl (Kn.cons rfl (Kn.cons rfl Kn.nil))))))) (HLe.refl _) ?_
  rintro k ⟨hk, hall⟩
  refine aR (fun Z hZ => ?_)
  refine jC3 rfl rfl rfl ?_
  refine sN (hZ _ _ ?_)
  refine aF [(0, _), (2, _), (3, _), (5, _), (7, _), (28, _), (29, _), (30, _)] (Kn.cons rfl (Kn.cons rfl (Kn.cons rfl (Kn.cons rfl (Kn.cons rfl (Kn.cons rfl (Kn.cons rfl (Kn.cons rfl (Kn.nil))))))))) ?_
  refine aS (aC rfl (fun hh => ?_) (fun hh => ?_))
  · have hlt : k < 4 := by simp at hh; omega
    have hft := h_fits hs k
    have hat := cutQ_at l hlt
    have hrd := h_rd (decV l) hlt
    have hpc : piece l k = (l.drop (hf (decV l) k)).take (hl (decV l) k) := rfl
    have hin : inL l k = decide (hf (decV l) k + hl (decV l) k ≤ l.length) := rfl
    generalize hf (decV l) k = F at hft hrd hpc hin
    generalize hl (decV l) k = L at hft hrd hpc hin
    have hend : IntKind.u64.wrap ((F : Int) + L) = ((F + L : Nat) : Int) := by rw [IntWalk.u64_in _ (by omega)]; omega
    refine aK ?_
    with_reducible refine nN ?_
    refine aS (aB ?_)
    refine aR fun Z hZ => sM rfl rfl ?_
    refine sx_indexA Tryz.underlying141 tyA76 tyS76 rfl rfl (by omega) (by simpa using hrd) rfl ?_
    refine sAl tyZ76 rfl (fun g5 => ?_)
    refine sA rfl rfl ?_
    refine sS 0 rfl rfl rfl tyS76 (by simp only [Value.cells]; rfl) rfl rfl rfl (by simp only [List.take_zero, List.drop_succ_cons, List.drop_zero, List.nil_append, List.append_nil, List.length_cons, List.length_nil, Nat.reduceAdd, Nat.zero_add, wrV]; rfl) (by simp only [List.set_cons_zero]; rfl) ?_
    refine sN (hZ _ _ ?_)
    refine aF [(0, _), (2, _), (3, _), (5, _), (7, _), (8, _), (9, _), (28, _), (29, _)] (Kn.cons rfl (Kn.cons rfl (Kn.cons rfl (Kn.cons rfl (Kn.cons rfl (Kn.cons rfl (Kn.cons rfl (Kn.cons rfl (Kn.cons rfl (Kn.nil)))))))))) ?_
    refine aS ?_
    refine aR (fun Z hZ => ?_)
    refine sLA 0 rfl rfl tyA76 tyS76 rfl (by simp only [List.take_succ_cons, List.take_zero, List.drop_zero]; rfl) rfl ?_
    refine sCP (end_fn F L) rfl rfl ?_
    rw [hend]
    refine sM rfl rfl ?_
    refine jF3 Tryz.underlying9 rfl rfl ?_
    refine jA6 Tryz.underlying3 Tryz.underlying45 rfl (((l.length : Nat)) : Int) (by rw [IntWalk.u64_in _ (by omega)]) rfl ?_
    refine jE3 rfl rfl rfl ?_
    refine sN (hZ _ _ ?_)
    refine aF [(0, _), (2, _), (3, _), (5, _), (7, _), (8, _), (9, _), (28, _), (29, _), (38, _)] (Kn.cons rfl (Kn.cons rfl (Kn.cons rfl (Kn.cons rfl (Kn.cons rfl (Kn.cons rfl (Kn.cons rfl (Kn.cons rfl (Kn.cons rfl (Kn.cons rfl (Kn.nil))))))))))) ?_
    refine aC rfl (fun hf => ?_) (fun hf => ?_)
    · have hno : inL l k = false := by rw [hin]; simp at hf ⊢; omega
      refine aR (fun Z hZ => ?_)
      refine jB3 tyZ78 tyP78 rfl rfl rfl rfl ?_
      refine jE5 tyZ80 Tryz.underlying80 tyS9 rfl rfl rfl rfl ?_
      refine sS 4 rfl rfl rfl tyS78 (by simp only [Value.cells]; rfl) rfl rfl rfl (by simp only [List.take_zero, List.drop_succ_cons, List.drop_zero, List.nil_append, List.append_nil, List.length_cons, List.length_nil, Nat.reduceAdd, Nat.zero_add, wrV]; rfl) (by simp only [List.set_cons_succ, List.set_cons_zero]; rfl) ?_
      refine sS 3 rfl rfl rfl tyS80 (by simp only [Value.cells]; rfl) rfl rfl rfl (by simp only [List.take_zero, List.drop_succ_cons, List.drop_zero, List.nil_append, List.append_nil, List.length_cons, List.length_nil, Nat.reduceAdd, Nat.zero_add, wrV]; rfl) (by simp only [List.set_cons_succ, List.set_cons_zero]; rfl) ?_
      refine sA rfl rfl <| sN (hZ _ _ ?_)
      refine aF [(2, _), (3, _), (4, _)] (Kn.cons rfl (Kn.cons rfl (Kn.cons rfl (Kn.nil)))) ?_
      refine aE ?_
      repeat (with_reducible (first | refine nTR ?_ | refine nBR ?_))
      have e := cut_no hd hlt hno
      exact nx_ret3 rfl (ResOk.cell 4 rfl rfl tyA78 tyS78 rfl) (ResOk.cell 3 rfl rfl tyA80 tyS80 rfl) rfl (by rw [cutH, cutP, e]; rfl)
    refine aK ?_
    with_reducible refine nN ?_
    have hfit : F + L ≤ l.length := by simp at hf; omega
    refine aww_region _ [(0, true), (1, true), (2, true), (3, true), (4, true), (5, false), (6, true), (7, true), (8, false)] mixed (by kernel_rfl) (HLe.pick [0] (by simp) (by simp only [pick, List.filterMap_cons, List.filterMap_nil, List.getElem?_cons_zero]; rfl)) (fun Z hZ => ?_)
    refine tw_p rfl ?_
    refine jC8 rfl rfl ?_
    refine vN ?_
    refine tw_p rfl ?_
    refine jC8 rfl rfl ?_
    refine vN ?_
    refine tw_p rfl ?_
    refine jC6 rfl tyF76_0 (by simp only [Nat.add_zero]; rfl) rfl ?_
    refine vN ?_
    refine tw_p rfl ?_
    first | refine jG7 0 rfl rfl tyA45 tyS45 rfl rfl ?_
    refine vN ?_
    refine tw_p rfl ?_
    first | refine sv_loadA 0 rfl rfl tyA76 tyS76 rfl (by simp only [List.take_succ_cons, List.take_zero, List.drop_zero]; rfl) rfl ?_
    refine vN ?_
    refine tw_g rfl ?_
    refine sCP (end_fn F L) rfl rfl ?_
    rw [hend]
    refine sN ⟨HLe.pick [0] (by simp) rfl, ?_⟩
    refine tw_p rfl ?_
    refine sv_sliceS (piece l k) Tryz.underlying9 rfl rfl rfl (by omega) (by omega) (by omega) (by rw [hpc]; show (l.drop F).take (F + L - F) = _; rw [Nat.add_sub_cancel_left]) rfl ?_
    refine vN ?_
    refine tw_p rfl ?_
    refine sv_indexAddrA k Tryz.underlying80 tyS9 rfl rfl (by omega) (by simp) rfl ?_
    refine vN ?_
    refine tw_g rfl ?_
    refine sS1 1 (cs' := (cutQ l).out (k + 1)) rfl rfl rfl tyS9 rfl (by rw [P4.out_len]; exact Nat.ble_eq_true_of_le (by omega)) (by rw [← hat]; exact P4.out_wr _ hlt) (by simp only [List.set_cons_succ, List.set_cons_zero]; rfl) ?_
    refine sN ⟨HLe.pick [0] (by simp) rfl, ?_⟩
    refine tw_nil (hZ _ _ ?_)
    refine nF [(0, _), (2, _), (3, _), (5, _), (7, _), (28, _), (29, _)] (Kn.cons rfl (Kn.cons rfl (Kn.cons rfl (Kn.cons rfl (Kn.cons rfl (Kn.cons rfl (Kn.cons rfl (Kn.nil)))))))) ?_
    repeat (with_reducible refine nBN ?_)
    with_reducible refine nN ?_
    refine aG (fun Z hZ => ?_)
    refine jA7 rfl rfl ((k + 1 : Nat) : Int) (by rw [IntWalk.i64_in _ (by omega)]; omega) rfl ?_
    refine sM rfl rfl <| sN (hZ _ _ ?_)
    refine nF [(0, _), (2, _), (3, _), (5, _), (7, _), (28, _), (29, _)] (Kn.cons rfl (Kn.cons rfl (Kn.cons rfl (Kn.cons rfl (Kn.cons rfl (Kn.cons rfl (Kn.cons rfl (Kn.nil)))))))) ?_
    refine jB4 (k + 1) ⟨by omega, fun j hj => ?_⟩ (by omega) (Kn.cons rfl (Kn.cons rfl (Kn.cons rfl (Kn.cons rfl (Kn.cons rfl (Kn.cons rfl (Kn.cons rfl Kn.nil))))))) (HLe.pick [1, 2, 3, 4] (by simp) rfl)
    rcases Nat.lt_or_ge j k with hj' | hj'
    · exact hall j hj'
    · obtain rfl : j = k := by omega
      rw [hin]; simpa using hfit
  · refine jA8 ?_
    repeat (with_reducible refine nTE ?_)
    with_reducible refine nBE ?_
    with_reducible refine nN ?_
    have hke : k = 4 := by simp at hh; omega
    subst hke
    have e := cut_yes hd hall
    refine jG0 _ [(0, true), (1, true), (2, false), (3, false), (4, true)] mixed (by kernel_rfl) (HLe.pick [0, 1] (by simp) (by simp only [pick, List.filterMap_cons, List.filterMap_nil, List.getElem?_cons_succ, List.getElem?_cons_zero]; rfl)) (fun Z hZ => ?_)
    refine tw_p rfl ?_
    refine sv_loadA 1 rfl rfl tyA78 tyS78 rfl (by simp only [List.take_succ_cons, List.take_zero, List.drop_zero]; rfl) rfl ?_
    refine vN ?_
    refine tw_p rfl ?_
    refine sv_loadA 0 rfl rfl tyA80 tyS80 rfl rfl rfl ?_
    refine vN ?_
    refine tw_g rfl ?_
    refine sS 3 rfl rfl rfl tyS78 (by simp only [Value.cells]; rfl) rfl rfl rfl (by simp only [List.take_zero, List.drop_succ_cons, List.drop_zero, List.nil_append, List.append_nil, List.length_cons, List.length_nil, Nat.reduceAdd, Nat.zero_add, wrV]; rfl) (by simp only [List.set_cons_succ, List.set_cons_zero]; rfl) ?_
    refine sN ⟨HLe.pick [0, 1] (by simp) rfl, ?_⟩
    refine tw_g rfl ?_
    refine sS 2 rfl rfl rfl tyS80 rfl rfl rfl rfl (cs' := (cutQ l).out 4) rfl rfl ?_
    refine sN ⟨HLe.pick [0, 1] (by simp) rfl, ?_⟩
    refine tw_p rfl ?_
    refine sv_assign rfl rfl ?_
    refine vN ?_
    refine tw_nil (hZ _ _ ?_)
    refine aF [(2, _), (3, _), (4, _)] (Kn.cons rfl (Kn.cons rfl (Kn.cons rfl (Kn.nil)))) ?_
    refine aE ?_
    exact nx_ret3 rfl (ResOk.cell 3 rfl rfl tyA78 tyS78 rfl) (ResOk.cell 2 rfl rfl tyA80 tyS80 rfl) rfl (by rw [cutH, cutP, e]; rfl)
end Go.Proofs.YtkojkeabelckjaaGreatDoor.Y
namespace Go.Proofs.YtkojkeabelckjaaGreatDoor.Y
open Go.RowKit
end Go.Proofs.YtkojkeabelckjaaGreatDoor.Y
end
