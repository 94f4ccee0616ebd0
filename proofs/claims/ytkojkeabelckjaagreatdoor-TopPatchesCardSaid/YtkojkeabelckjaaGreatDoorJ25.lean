/- Walks and plain laws for this claim (texts Nt1, Nt2, Pl1, Pl2, joined). Each theorem states its own conditions. -/
import Derived.Test.YtkojkeabelckjaaGreatDoorJ05
import Derived.Test.YtkojkeabelckjaaGreatDoorJ12
import Derived.Test.YtkojkeabelckjaaGreatDoorJ08
import Derived.Test.YtkojkeabelckjaaGreatDoorJ10
import Derived.Shelf.Small.Strs
import Derived.Test.YtkojkeabelckjaaGreatDoorJ07
import Derived.Test.YtkojkeabelckjaaGreatDoorJ09
import Derived.Test.YtkojkeabelckjaaGreatDoorJ11
import Derived.Test.YtkojkeabelckjaaGreatDoorJ16

section
set_option linter.all false
namespace Go.Proofs.YtkojkeabelckjaaGreatDoor
open Go.RowKit
def ixb_rho : Go.Shelf.Ren := ⟨fun n => match n with | 0 => 0 | 1 => 1 | 2 => 2 | 99 => 152 | 103 => 173 | 119 => 225 | 120 => 224 | 125 => 81 | 128 => 129 | 129 => 130 | 137 => 131 | 150 => 175 | 151 => 211 | 152 => 213 | 153 => 203 | 156 => 62 | 160 => 174 | 161 => 172 | 165 => 104 | 166 => 105 | 168 => 190 | 169 => 106 | 171 => 230 | 172 => 176 | 197 => 191 | 205 => 229 | 206 => 184 | 210 => 199 | 217 => 164 | 224 => 226 | 225 => 227 | 226 => 214 | 227 => 196 | 228 => 210 | 231 => 195 | 232 => 200 | 233 => 197 | 234 => 201 | 235 => 198 | 236 => 202 | 240 => 149 | 241 => 150 | 242 => 208 | 243 => 234 | 244 => 204 | 245 => 205 | 246 => 235 | 247 => 215 | 260 => 209 | 266 => 188 | 271 => 212 | 276 => 182 | 277 => 183 | 278 => 223 | 279 => 216 | 280 => 217 | 281 => 218 | 282 => 219 | 283 => 236 | 284 => 237 | 285 => 238 | 286 => 239 | 287 => 228 | 316 => 141 | 317 => 240 | 318 => 241 | 319 => 242 | 320 => 243 | 321 => 232 | 322 => 233 | 329 => 160 | 330 => 161 | 337 => 244 | 338 => 245 | 347 => 246 | 348 => 247 | 349 => 248 | 350 => 249 | 351 => 250 | 352 => 251 | 353 => 252 | 354 => 253 | 355 => 254 | 356 => 255 | 357 => 256 | 358 => 257 | 359 => 258 | 360 => 259 | 361 => 260 | 362 => 265 | 363 => 269 | 364 => 267 | 365 => 268 | 366 => 270 | 367 => 280 | _ => 0, fun n => match n with | 0 => 0 | 1 => 1 | 2 => 2 | 3 => 3 | 4 => 4 | 5 => 5 | 6 => 6 | 7 => 7 | 8 => 8 | 9 => 9 | 10 => 10 | 11 => 11 | 12 => 12 | 13 => 13 | 14 => 14 | 15 => 15 | 16 => 16 | 17 => 17 | 18 => 18 | 19 => 19 | 20 => 20 | 21 => 21 | 22 => 256 | 23 => 283 | 24 => 103 | 25 => 284 | 27 => 312 | 28 => 247 | 31 => 147 | 37 => 132 | 40 => 332 | 41 => 282 | 46 => 48 | 47 => 172 | 51 => 112 | 52 => 243 | 53 => 45 | 54 => 193 | 55 => 244 | 63 => 317 | 64 => 318 | 67 => 146 | 69 => 190 | 70 => 203 | 71 => 204 | 72 => 205 | 73 => 206 | 74 => 207 | 75 => 208 | 76 => 209 | 77 => 210 | 79 => 301 | 80 => 126 | 81 => 148 | 83 => 338 | 84 => 346 | 85 => 320 | 86 => 321 | 99 => 288 | 104 => 342 | 105 => 302 | 106 => 303 | 108 => 337 | 111 => 289 | 114 => 164 | 115 => 306 | 116 => 307 | 117 => 308 | 118 => 309 | 119 => 328 | 122 => 305 | 123 => 310 | 124 => 311 | 126 => 316 | 127 => 254 | 128 => 313 | 131 => 101 | 137 => 329 | 138 => 330 | 139 => 331 | 143 => 343 | 144 => 344 | 145 => 345 | 148 => 232 | 164 => 290 | 165 => 291 | 166 => 292 | 167 => 319 | 168 => 322 | 169 => 323 | 170 => 324 | 171 => 347 | 172 => 348 | 173 => 349 | 174 => 350 | 175 => 333 | 176 => 334 | 182 => 237 | 183 => 238 | 203 => 339 | 209 => 335 | 210 => 336 | 211 => 351 | 212 => 352 | 213 => 353 | 214 => 341 | 218 => 268 | 219 => 269 | 220 => 218 | 222 => 271 | 228 => 296 | 229 => 297 | 232 => 354 | 233 => 355 | 238 => 356 | 239 => 357 | 240 => 358 | 241 => 359 | 242 => 360 | 243 => 361 | 244 => 362 | 245 => 363 | 246 => 364 | 247 => 365 | 248 => 366 | 249 => 367 | _ => 0, fun n => match n with | 1 => 0 | 3 => 1 | 4 => 2 | 15 => 3 | 16 => 4 | 17 => 5 | 18 => 6 | 19 => 7 | _ => 0⟩
theorem ixb0 : Lays.n137 Tryz.prog ixb_rho where
 mixed := by kernel_rfl
 f137 := by kernel_rfl
 f217 := by kernel_rfl
 f266 := by kernel_rfl
 t3 := by kernel_rfl
 a3 := fun w => by kernel_rfl
 z3 := fun w => by kernel_rfl
 v3 := fun w => by kernel_rfl
 t5 := by kernel_rfl
 a5 := fun w => by kernel_rfl
 z5 := fun w => by kernel_rfl
 v5 := fun w => by kernel_rfl
 t9 := by kernel_rfl
 a9 := fun w => by kernel_rfl
 z9 := fun w => by kernel_rfl
 v9 := fun w => by kernel_rfl
theorem enter_ixb : Enters Tryz.prog 131 := Enters.mk Tryz.func131 (by kernel_rfl) (by kernel_rfl)
theorem ixb_fn (s : List UInt8) (c : UInt8) : Fn Tryz.prog 131 [.string (str s), .int .u8 (c.toNat : Int)] [] fun v _ => v = iq (Lib.indexByte s c) :=
 Fn.of_same enter_ixb fun w => (Any.strings_IndexByte ixb0 (str s) (c.toNat : Int) w).mono fun e w' ⟨he, hw⟩ => ⟨by rw [he]; simp [str], hw.symm⟩
abbrev rdr (g : Nat) (s : List UInt8) (at_ e : Nat) : Ent := .own g 178 [.string (str s), iq (at_ : Nat), iq (e : Nat)]
def isBl (c : UInt8) : Bool := decide (0 ≤ Lib.indexByte [32, 9, 10, 13] c)
def jF5 (s : List UInt8) (i : Nat) : Nat := i + ((s.drop i).takeWhile isBl).length
theorem blankN_on {s : List UInt8} {i : Nat} {c : UInt8} (h : s[i]? = some c) (hc : isBl c = true) : jF5 s i = jF5 s (i + 1) := by
 obtain ⟨hl, hg⟩ := List.getElem?_eq_some_iff.1 h
 unfold jF5
 rw [List.drop_eq_getElem_cons hl, hg, List.takeWhile_cons_of_pos hc, List.length_cons]
 omega
theorem blankN_off {s : List UInt8} {i : Nat} (h : ∀ c, s[i]? = some c → isBl c = false) : jF5 s i = i := by
 unfold jF5
 rcases Nat.lt_or_ge i s.length with hl | hl
 ·have := h _ (List.getElem?_eq_getElem hl)
  rw [List.drop_eq_getElem_cons hl, List.takeWhile_cons_of_neg (by rw [this]; decide)]
  rfl
 ·rw [List.drop_eq_nil_of_le hl]
  rfl
theorem blankN_le {s : List UInt8} {i : Nat} (h : i ≤ s.length) : i ≤ jF5 s i ∧ jF5 s i ≤ s.length := by
 unfold jF5
 have h1 := (List.takeWhile_prefix (p := isBl) (l := s.drop i)).length_le
 rw [List.length_drop] at h1
 omega
theorem rblank_fn (g : Nat) (s : List UInt8) (i0 e : Nat) (hi0 : i0 ≤ s.length) (hs : s.length ≤ 1000000) :
  Fn Tryz.prog 85 [ptr g 0] [rdr g s i0 e] fun v H' => v = .tuple #[] ∧ H' = [rdr g s (jF5 s i0) e] := by
 refine Fn.enter (N := 32) Tryz.func85 rfl (by kernel_rfl) rfl (fun w0 => ?_)
 refine aB ?_
 refine jB6 (ι := Nat) (fun i => [(0, ptr g 0)]) (fun i => [rdr g s i e]) (fun i => i ≤ s.length ∧ jF5 s i = jF5 s i0) (fun i => s.length - i) i0 ⟨hi0, rfl⟩ (Kn.cons rfl Kn.nil) (HLe.refl _) ?_
 rintro i ⟨hi, hb⟩
 rcases Nat.lt_or_ge i s.length with hl | hl
 ·obtain ⟨c, hc⟩ : ∃ c, s[i]? = some c := ⟨_, List.getElem?_eq_getElem hl⟩
  refine aS ?_
  refine jC6 [(0, ptr g 0), (24, .bool (isBl c))] [rdr g s i e] mixed (by kernel_rfl) (fun Z hZ => ?_) ?_
  ·refine qM rfl rfl ?_
   refine jA9 rfl rfl ?_
   refine qFA rfl jE7 (by simp only [Nat.zero_add]; rfl) rfl ?_
   first | refine jB7 0 rfl rfl tyA3 tyS3 rfl rfl ?_
   refine qM rfl rfl ?_
   refine jA9 rfl rfl ?_
   refine qFA rfl tyF178_0 (by simp only [Nat.add_zero]; rfl) rfl ?_
   first | refine jB7 0 rfl rfl tyA9 tyS9 rfl rfl ?_
   refine sq_lenS Tryz.underlying9 rfl rfl ?_
   refine sq_lss rfl rfl rfl ?_
   refine qM rfl rfl ?_
   refine jG4 12 rfl true (by simp; omega) ?_
   refine jA4 rfl rfl rfl ?_
   refine qM rfl rfl ?_
   refine jA4 rfl rfl rfl ?_
   refine jA9 rfl rfl ?_
   refine jA4 rfl rfl rfl ?_
   refine qFA rfl tyF178_0 (by simp only [Nat.add_zero]; rfl) rfl ?_
   refine jA4 rfl rfl rfl ?_
   first | refine jB7 0 rfl rfl tyA9 tyS9 rfl rfl ?_
   refine jA4 rfl rfl rfl ?_
   refine qM rfl rfl ?_
   refine jA4 rfl rfl rfl ?_
   refine jA9 rfl rfl ?_
   refine jA4 rfl rfl rfl ?_
   refine qFA rfl jE7 (by simp only [Nat.zero_add]; rfl) rfl ?_
   refine jA4 rfl rfl rfl ?_
   first | refine jB7 0 rfl rfl tyA3 tyS3 rfl rfl ?_
   refine jA4 rfl rfl rfl ?_
   refine sq_indexS Tryz.underlying9 rfl rfl (by omega) (by simpa using hc) rfl ?_
   refine jA4 rfl rfl rfl ?_
   refine sq_callP (ixb_fn [32, 9, 10, 13] c) rfl rfl ?_
   refine jA4 rfl rfl rfl ?_
   refine sq_geq rfl rfl rfl ?_
   refine jC5 rfl rfl rfl ?_
   refine jE0 (hZ _ _ ?_ ?_)
   ·exact kR rfl
   ·exact HLe.refl _
  refine aC rfl (fun h => ?_) (fun h => ?_)
  ·refine aK ?_
   with_reducible refine nN ?_
   refine aB ?_
   refine aG (fun Z hZ => ?_)
   refine sM rfl rfl ?_
   refine jA5 rfl rfl ?_
   refine sFA rfl jE7 (by simp only [Nat.zero_add]; rfl) rfl ?_
   first | refine sL 0 rfl rfl tyA3 tyS3 rfl rfl ?_
   refine jB8 rfl rfl ((i + 1 : Nat) : Int) (by rw [IntWalk.i64_in _ (by omega)]; omega) rfl ?_
   refine jA5 rfl rfl ?_
   refine sFA rfl jE7 (by simp only [Nat.zero_add]; rfl) rfl ?_
   first | refine sS1 0 rfl rfl rfl tyS3 rfl rfl (by simp only [qS]; rfl) (by simp only [List.set_cons_zero]; rfl) ?_
   refine sN (hZ _ _ ?_)
   refine nF [(0, _)] (Kn.cons rfl (Kn.nil)) ?_
   repeat (with_reducible refine nBN ?_)
   exact jB5 (i + 1) ⟨by omega, (blankN_on hc h).symm.trans hb⟩ (by omega) (Kn.cons rfl Kn.nil) (HLe.refl _)
  ·refine jB1 ?_
   repeat (with_reducible refine nTE ?_)
   with_reducible refine nBE ?_
   have hb' : jF5 s i = i := blankN_off fun c' h' => by rw [hc] at h'; rw [← Option.some.inj h']; exact h
   exact nx_end0h _ rfl (HLe.refl _) ⟨rfl, by rw [← hb, hb']⟩
 ·refine aS ?_
  refine jC6 [(0, ptr g 0), (24, .bool false)] [rdr g s i e] mixed (by kernel_rfl) (fun Z hZ => ?_) ?_
  ·refine qM rfl rfl ?_
   refine jA9 rfl rfl ?_
   refine qFA rfl jE7 (by simp only [Nat.zero_add]; rfl) rfl ?_
   first | refine jB7 0 rfl rfl tyA3 tyS3 rfl rfl ?_
   refine qM rfl rfl ?_
   refine jA9 rfl rfl ?_
   refine qFA rfl tyF178_0 (by simp only [Nat.add_zero]; rfl) rfl ?_
   first | refine jB7 0 rfl rfl tyA9 tyS9 rfl rfl ?_
   refine sq_lenS Tryz.underlying9 rfl rfl ?_
   refine sq_lss rfl rfl rfl ?_
   refine qM rfl rfl ?_
   refine jG4 12 rfl false (by simp; omega) ?_
   refine qO rfl rfl rfl rfl rfl ?_
   refine qO rfl rfl rfl rfl rfl ?_
   refine qO rfl rfl rfl rfl rfl ?_
   refine qO rfl rfl rfl rfl rfl ?_
   refine qO rfl rfl rfl rfl rfl ?_
   refine qO rfl rfl rfl rfl rfl ?_
   refine qO rfl rfl rfl rfl rfl ?_
   refine qO rfl rfl rfl rfl rfl ?_
   refine qO rfl rfl rfl rfl rfl ?_
   refine qO rfl rfl rfl rfl rfl ?_
   refine qO rfl rfl rfl rfl rfl ?_
   refine jC5 rfl rfl rfl ?_
   refine jE0 (hZ _ _ ?_ ?_)
   ·exact kR rfl
   ·exact HLe.refl _
  refine aC rfl (fun h => ?_) (fun h => ?_)
  ·cases h
  ·refine jB1 ?_
   repeat (with_reducible refine nTE ?_)
   with_reducible refine nBE ?_
   have hb' : jF5 s i = i := blankN_off fun c' h' => by rw [List.getElem?_eq_none hl] at h'; cases h'
   exact nx_end0h _ rfl (HLe.refl _) ⟨rfl, by rw [← hb, hb']⟩
theorem u8_eq (a b : UInt8) : decide ((a.toNat : Int) = (b.toNat : Int)) = (some a == some b) := by
 rw [Bool.eq_iff_iff]
 simp only [decide_eq_true_eq, beq_iff_eq, Option.some.injEq]
 constructor
 ·intro h; exact UInt8.toNat_inj.1 (by omega)
 ·intro h; rw [h]
theorem u8_ne (a b : UInt8) : ((a.toNat : Int) != (b.toNat : Int)) = !(some a == some b) := by rw [← u8_eq]; rfl
def signB (s : List UInt8) (i : Nat) (c : UInt8) : Bool := s[i]? == some c
theorem rsign_fn (g : Nat) (s : List UInt8) (i e : Nat) (c : UInt8) (hi : i ≤ s.length) (hs : s.length ≤ 1000000) :
  Fn Tryz.prog 171 [ptr g 0, .int .u8 (c.toNat : Int)] [rdr g s i e] fun v H' => v = .bool (signB s i c) ∧ H' = [rdr g s (if signB s i c = true then jF5 s (i + 1) else i) e] := by
 refine Fn.enter (N := 37) Tryz.func171 rfl (by kernel_rfl) rfl (fun w0 => ?_)
 refine aR fun Z hZ => sA rfl rfl <| sN (hZ _ _ ?_)
 refine aF [(0, _), (1, _)] (kR rfl) ?_
 rcases Nat.lt_or_ge i s.length with hl | hl
 ·obtain ⟨c', hc⟩ : ∃ c, s[i]? = some c := ⟨_, List.getElem?_eq_getElem hl⟩
  refine aS ?_
  refine jC6 [(0, ptr g 0), (27, .bool (!signB s i c))] [rdr g s i e] mixed (by kernel_rfl) (fun Z hZ => ?_) ?_
  ·refine qM rfl rfl ?_
   refine jA9 rfl rfl ?_
   refine qFA rfl jE7 (by simp only [Nat.zero_add]; rfl) rfl ?_
   first | refine jB7 0 rfl rfl tyA3 tyS3 rfl rfl ?_
   refine qM rfl rfl ?_
   refine jA9 rfl rfl ?_
   refine qFA rfl tyF178_0 (by simp only [Nat.add_zero]; rfl) rfl ?_
   first | refine jB7 0 rfl rfl tyA9 tyS9 rfl rfl ?_
   refine sq_lenS Tryz.underlying9 rfl rfl ?_
   refine sq_eql rfl rfl rfl ?_
   refine qM rfl rfl ?_
   refine jG4 15 rfl false (by simp; omega) ?_
   refine jA4 rfl rfl rfl ?_
   refine qM rfl rfl ?_
   refine jA4 rfl rfl rfl ?_
   refine jA9 rfl rfl ?_
   refine jA4 rfl rfl rfl ?_
   refine qFA rfl tyF178_0 (by simp only [Nat.add_zero]; rfl) rfl ?_
   refine jA4 rfl rfl rfl ?_
   first | refine jB7 0 rfl rfl tyA9 tyS9 rfl rfl ?_
   refine jA4 rfl rfl rfl ?_
   refine qM rfl rfl ?_
   refine jA4 rfl rfl rfl ?_
   refine jA9 rfl rfl ?_
   refine jA4 rfl rfl rfl ?_
   refine qFA rfl jE7 (by simp only [Nat.zero_add]; rfl) rfl ?_
   refine jA4 rfl rfl rfl ?_
   first | refine jB7 0 rfl rfl tyA3 tyS3 rfl rfl ?_
   refine jA4 rfl rfl rfl ?_
   refine sq_indexS Tryz.underlying9 rfl rfl (by omega) (by simpa using hc) rfl ?_
   refine jA4 rfl rfl rfl ?_
   refine qM rfl rfl ?_
   refine jA4 rfl rfl rfl ?_
   refine sq_neq rfl rfl rfl ?_
   refine jC5 rfl rfl rfl ?_
   refine jE0 (hZ _ _ ?_ ?_)
   ·exact Kn.cons rfl (Kn.cons (congrArg some (congrArg Value.bool (by rw [signB, hc]; exact u8_ne c' c))) Kn.nil)
   ·exact HLe.refl _
  refine aC rfl (fun h => ?_) (fun h => ?_)
  ·have h' : signB s i c = false := by simpa using h
   rw [h']
   refine aR fun Z hZ => sA rfl rfl <| sN (hZ _ _ ?_)
   refine aF [(4, _)] (Kn.cons rfl (Kn.nil)) ?_
   refine aE ?_
   repeat (with_reducible refine nTR ?_)
   exact nR1 rfl rfl ⟨rfl, rfl⟩
  have h' : signB s i c = true := by simpa using h
  rw [h', if_pos rfl]
  refine aK ?_
  with_reducible refine nN ?_
  refine aR fun Z hZ => sM rfl rfl ?_
  refine jA5 rfl rfl ?_
  refine sFA rfl jE7 (by simp only [Nat.zero_add]; rfl) rfl ?_
  first | refine sL 0 rfl rfl tyA3 tyS3 rfl rfl ?_
  refine jB8 rfl rfl ((i + 1 : Nat) : Int) (by rw [IntWalk.i64_in _ (by omega)]; omega) rfl ?_
  refine jA5 rfl rfl ?_
  refine sFA rfl jE7 (by simp only [Nat.zero_add]; rfl) rfl ?_
  first | refine sS1 0 rfl rfl rfl tyS3 rfl rfl (by simp only [qS]; rfl) (by simp only [List.set_cons_zero]; rfl) ?_
  refine sN (hZ _ _ ?_)
  refine aF [(0, _)] (Kn.cons rfl (Kn.nil)) ?_
  refine aR fun Z hZ => sM rfl rfl ?_
  refine jB0 [0] [] (rblank_fn g s (i + 1) e (by omega) hs) rfl rfl (by simp) rfl ?_
  rintro v H' ⟨rfl, rfl⟩
  refine jC0 (by simp only [List.filter_cons, List.filter_nil, Ent.wr, if_true, qS, pick]; first | done | rfl) ?_
  refine sN (hZ _ _ ?_)
  refine aF [] (Kn.nil) ?_
  refine aR fun Z hZ => sA rfl rfl <| sN (hZ _ _ ?_)
  refine aF [(4, _)] (Kn.cons rfl (Kn.nil)) ?_
  refine aE ?_
  exact nR1 rfl rfl ⟨rfl, rfl⟩
 ·have h' : signB s i c = false := by simp [signB, List.getElem?_eq_none hl]
  refine aS ?_
  refine jC6 [(0, ptr g 0), (27, .bool true)] [rdr g s i e] mixed (by kernel_rfl) (fun Z hZ => ?_) ?_
  ·refine qM rfl rfl ?_
   refine jA9 rfl rfl ?_
   refine qFA rfl jE7 (by simp only [Nat.zero_add]; rfl) rfl ?_
   first | refine jB7 0 rfl rfl tyA3 tyS3 rfl rfl ?_
   refine qM rfl rfl ?_
   refine jA9 rfl rfl ?_
   refine qFA rfl tyF178_0 (by simp only [Nat.add_zero]; rfl) rfl ?_
   first | refine jB7 0 rfl rfl tyA9 tyS9 rfl rfl ?_
   refine sq_lenS Tryz.underlying9 rfl rfl ?_
   refine sq_eql rfl rfl rfl ?_
   refine qM rfl rfl ?_
   refine jG4 15 rfl true (by simp; omega) ?_
   refine qO rfl rfl rfl rfl rfl ?_
   refine qO rfl rfl rfl rfl rfl ?_
   refine qO rfl rfl rfl rfl rfl ?_
   refine qO rfl rfl rfl rfl rfl ?_
   refine qO rfl rfl rfl rfl rfl ?_
   refine qO rfl rfl rfl rfl rfl ?_
   refine qO rfl rfl rfl rfl rfl ?_
   refine qO rfl rfl rfl rfl rfl ?_
   refine qO rfl rfl rfl rfl rfl ?_
   refine qO rfl rfl rfl rfl rfl ?_
   refine qO rfl rfl rfl rfl rfl ?_
   refine jC5 rfl rfl rfl ?_
   refine jE0 (hZ _ _ ?_ ?_)
   ·exact kR rfl
   ·exact HLe.refl _
  refine aC rfl (fun h => ?_) (fun h => ?_)
  ·rw [h']
   refine aR fun Z hZ => sA rfl rfl <| sN (hZ _ _ ?_)
   refine aF [(4, _)] (Kn.cons rfl (Kn.nil)) ?_
   refine aE ?_
   repeat (with_reducible refine nTR ?_)
   exact nR1 rfl rfl ⟨rfl, rfl⟩
  ·cases h
theorem rend_fn (g : Nat) (s : List UInt8) (i e : Nat) (c : UInt8) (hi : i ≤ s.length) (hs : s.length ≤ 1000000) :
  Fn Tryz.prog 192 [ptr g 0, .int .u8 (c.toNat : Int)] [rdr g s i e] fun v H' => v = .bool (signB s i c) ∧ H' = [rdr g s (if signB s i c = true then i + 1 else i) e] := by
 refine Fn.enter (N := 35) Tryz.func192 rfl (by kernel_rfl) rfl (fun w0 => ?_)
 refine aR fun Z hZ => sA rfl rfl <| sN (hZ _ _ ?_)
 refine aF [(0, _), (1, _)] (kR rfl) ?_
 rcases Nat.lt_or_ge i s.length with hl | hl
 ·obtain ⟨c', hc⟩ : ∃ c, s[i]? = some c := ⟨_, List.getElem?_eq_getElem hl⟩
  refine aS ?_
  refine jC6 [(0, ptr g 0), (27, .bool (signB s i c))] [rdr g s i e] mixed (by kernel_rfl) (fun Z hZ => ?_) ?_
  ·refine qM rfl rfl ?_
   refine jA9 rfl rfl ?_
   refine qFA rfl jE7 (by simp only [Nat.zero_add]; rfl) rfl ?_
   first | refine jB7 0 rfl rfl tyA3 tyS3 rfl rfl ?_
   refine qM rfl rfl ?_
   refine jA9 rfl rfl ?_
   refine qFA rfl tyF178_0 (by simp only [Nat.add_zero]; rfl) rfl ?_
   first | refine jB7 0 rfl rfl tyA9 tyS9 rfl rfl ?_
   refine sq_lenS Tryz.underlying9 rfl rfl ?_
   refine sq_lss rfl rfl rfl ?_
   refine qM rfl rfl ?_
   refine jG4 15 rfl true (by simp; omega) ?_
   refine jA4 rfl rfl rfl ?_
   refine qM rfl rfl ?_
   refine jA4 rfl rfl rfl ?_
   refine jA9 rfl rfl ?_
   refine jA4 rfl rfl rfl ?_
   refine qFA rfl tyF178_0 (by simp only [Nat.add_zero]; rfl) rfl ?_
   refine jA4 rfl rfl rfl ?_
   first | refine jB7 0 rfl rfl tyA9 tyS9 rfl rfl ?_
   refine jA4 rfl rfl rfl ?_
   refine qM rfl rfl ?_
   refine jA4 rfl rfl rfl ?_
   refine jA9 rfl rfl ?_
   refine jA4 rfl rfl rfl ?_
   refine qFA rfl jE7 (by simp only [Nat.zero_add]; rfl) rfl ?_
   refine jA4 rfl rfl rfl ?_
   first | refine jB7 0 rfl rfl tyA3 tyS3 rfl rfl ?_
   refine jA4 rfl rfl rfl ?_
   refine sq_indexS Tryz.underlying9 rfl rfl (by omega) (by simpa using hc) rfl ?_
   refine jA4 rfl rfl rfl ?_
   refine qM rfl rfl ?_
   refine jA4 rfl rfl rfl ?_
   refine sq_eql rfl rfl rfl ?_
   refine jC5 rfl rfl rfl ?_
   refine jE0 (hZ _ _ ?_ ?_)
   ·exact Kn.cons rfl (Kn.cons (congrArg some (congrArg Value.bool (by rw [signB, hc]; exact u8_eq c' c))) Kn.nil)
   ·exact HLe.refl _
  refine aC rfl (fun h => ?_) (fun h => ?_)
  ·rw [h, if_pos rfl]
   refine aR fun Z hZ => sM rfl rfl ?_
   refine jA5 rfl rfl ?_
   refine sFA rfl jE7 (by simp only [Nat.zero_add]; rfl) rfl ?_
   first | refine sL 0 rfl rfl tyA3 tyS3 rfl rfl ?_
   refine jB8 rfl rfl ((i + 1 : Nat) : Int) (by rw [IntWalk.i64_in _ (by omega)]; omega) rfl ?_
   refine jA5 rfl rfl ?_
   refine sFA rfl jE7 (by simp only [Nat.zero_add]; rfl) rfl ?_
   first | refine sS1 0 rfl rfl rfl tyS3 rfl rfl (by simp only [qS]; rfl) (by simp only [List.set_cons_zero]; rfl) ?_
   refine sN (hZ _ _ ?_)
   refine aF [] (Kn.nil) ?_
   refine aR fun Z hZ => sA rfl rfl <| sN (hZ _ _ ?_)
   refine aF [(4, _)] (Kn.cons rfl (Kn.nil)) ?_
   refine aE ?_
   repeat (with_reducible refine nTR ?_)
   exact nR1 rfl rfl ⟨rfl, rfl⟩
  rw [h]
  refine aK ?_
  with_reducible refine nN ?_
  refine aR fun Z hZ => sA rfl rfl <| sN (hZ _ _ ?_)
  refine aF [(4, _)] (Kn.cons rfl (Kn.nil)) ?_
  refine aE ?_
  exact nR1 rfl rfl ⟨rfl, rfl⟩
 ·have h' : signB s i c = false := by simp [signB, List.getElem?_eq_none hl]
  rw [h']
  refine aS ?_
  refine jC6 [(0, ptr g 0), (27, .bool false)] [rdr g s i e] mixed (by kernel_rfl) (fun Z hZ => ?_) ?_
  ·refine qM rfl rfl ?_
   refine jA9 rfl rfl ?_
   refine qFA rfl jE7 (by simp only [Nat.zero_add]; rfl) rfl ?_
   first | refine jB7 0 rfl rfl tyA3 tyS3 rfl rfl ?_
   refine qM rfl rfl ?_
   refine jA9 rfl rfl ?_
   refine qFA rfl tyF178_0 (by simp only [Nat.add_zero]; rfl) rfl ?_
   first | refine jB7 0 rfl rfl tyA9 tyS9 rfl rfl ?_
   refine sq_lenS Tryz.underlying9 rfl rfl ?_
   refine sq_lss rfl rfl rfl ?_
   refine qM rfl rfl ?_
   refine jG4 15 rfl false (by simp; omega) ?_
   refine qO rfl rfl rfl rfl rfl ?_
   refine qO rfl rfl rfl rfl rfl ?_
   refine qO rfl rfl rfl rfl rfl ?_
   refine qO rfl rfl rfl rfl rfl ?_
   refine qO rfl rfl rfl rfl rfl ?_
   refine qO rfl rfl rfl rfl rfl ?_
   refine qO rfl rfl rfl rfl rfl ?_
   refine qO rfl rfl rfl rfl rfl ?_
   refine qO rfl rfl rfl rfl rfl ?_
   refine qO rfl rfl rfl rfl rfl ?_
   refine qO rfl rfl rfl rfl rfl ?_
   refine jC5 rfl rfl rfl ?_
   refine jE0 (hZ _ _ ?_ ?_)
   ·exact kR rfl
   ·exact HLe.refl _
  refine aC rfl (fun h => ?_) (fun h => ?_)
  ·cases h
  refine aK ?_
  with_reducible refine nN ?_
  refine aR fun Z hZ => sA rfl rfl <| sN (hZ _ _ ?_)
  refine aF [(4, _)] (Kn.cons rfl (Kn.nil)) ?_
  refine aE ?_
  exact nR1 rfl rfl ⟨rfl, rfl⟩
theorem reach0_fn (g : Nat) (s : List UInt8) (i : Nat) (deep : Nat) (a b : UInt8) (f : Value) (hd : deep ≤ 4) (hi : i < s.length) (hs : s.length ≤ 1000000) (ha : signB s i a = true) (hb : signB s (jF5 s (i + 1)) b = true) :
  Fn Tryz.prog 166 [ptr g 0, iq (deep : Nat), .int .u8 (a.toNat : Int), .int .u8 (b.toNat : Int), f] [rdr g s i 0] fun v H' => v = .tuple #[] ∧ H' = [rdr g s (jF5 s (i + 1) + 1) 0] := by
 have h1 := rsign_fn g s i 0 a (by omega) hs
 rw [ha, if_pos rfl] at h1
 have hle := (blankN_le (s := s) (i := i + 1) (by omega)).2
 have h2 := rend_fn g s (jF5 s (i + 1)) 0 b hle hs
 rw [hb, if_pos rfl] at h2
 refine Fn.enter (N := 70) Tryz.func166 rfl (by kernel_rfl) rfl (fun w0 => ?_)
 refine aS ?_
 refine aR fun Z hZ => sM rfl rfl ?_
 refine jF3 rfl rfl rfl ?_
 refine sN (hZ _ _ ?_)
 refine aF [(0, _), (2, _), (3, _), (4, _), (12, _)] (kR rfl) ?_
 refine aC rfl (fun h => ?_) (fun h => ?_)
 ·simp at h; omega
 refine aK ?_
 with_reducible refine nN ?_
 refine aR fun Z hZ => sM rfl rfl <| sM rfl rfl ?_
 refine jB0 [0] [] h1 rfl rfl (by simp) rfl ?_
 rintro v H' ⟨rfl, rfl⟩
 refine jC0 (by simp only [List.filter_cons, List.filter_nil, Ent.wr, if_true, qS, pick]; first | done | rfl) ?_
 refine sN (hZ _ _ ?_)
 refine aF [(0, _), (3, _), (4, _)] (kR rfl) ?_
 refine aS ?_
 refine aR fun Z hZ => sM rfl rfl <| sM rfl rfl ?_
 refine jB0 [0] [] h2 rfl rfl (by simp) rfl ?_
 rintro v H' ⟨rfl, rfl⟩
 refine jC0 (by simp only [List.filter_cons, List.filter_nil, Ent.wr, if_true, qS, pick]; first | done | rfl) ?_
 refine sN (hZ _ _ ?_)
 refine aF [(0, _), (3, _), (4, _), (24, _)] (kR rfl) ?_
 refine aC rfl (fun h => ?_) (fun h => ?_)
 ·refine aE ?_
  repeat (with_reducible refine nTR ?_)
  exact nx_ret0h _ rfl (HLe.refl _) ⟨rfl, rfl⟩
 ·cases h
theorem robject0_fn (g : Nat) (s : List UInt8) (i : Nat) (deep : Nat) (hd : deep ≤ 4) (hi : i < s.length) (hs : s.length ≤ 1000000) (ha : signB s i 123 = true) (hb : signB s (jF5 s (i + 1)) 125 = true) :
  Fn Tryz.prog 136 [ptr g 0, iq (deep : Nat)] [rdr g s i 0] fun v H' => (∃ A c, v = .iface 108 (.slice A 0 c)) ∧ H' = [rdr g s (jF5 s (i + 1) + 1) 0] := by
 refine Fn.enter (N := 13) Tryz.func136 rfl (by kernel_rfl) rfl (fun w0 => ?_)
 refine aR (fun Z hZ => ?_)
 refine jC3 rfl rfl rfl (fun g1 => ?_)
 refine jC3 rfl rfl rfl (fun g2 => ?_)
 refine sA rfl rfl <| sN (hZ _ _ ?_)
 refine aF [(2, _), (3, _)] (kR rfl) ?_
 refine aR (fun Z hZ => ?_)
 refine sx_buildSlice0 Tryz.underlying108 tyS279 rfl (fun gs => ?_)
 refine sAl tyZ108 rfl (fun g3 => ?_)
 refine sS1 0 rfl rfl rfl tyS108 rfl rfl (by simp only [List.set_cons_zero]; rfl) (by simp only [List.set_cons_zero]; rfl) ?_
 refine sN (hZ _ _ ?_)
 refine aF [(2, _), (3, _), (5, _)] (kR rfl) ?_
 refine aR (fun Z hZ => ?_)
 refine sL 3 rfl rfl tyA176 tyS176 rfl rfl ?_
 refine sL 2 rfl rfl tyA3 tyS3 rfl rfl ?_
 refine sx_makeFunc rfl rfl ?_
 refine jD3 [rdr g s i 0] [.own g3 108 [.slice (some ⟨gs, 0, none⟩) 0 0]] (reach0_fn g s i deep 123 125 _ hd hi hs ha hb) rfl (HLe.pick [4, 0] (by simp) rfl) rfl ?_
 rintro v H' ⟨rfl, rfl⟩
 refine jC1 [rdr g s (jF5 s (i + 1) + 1) 0, .own g3 108 [.slice (some ⟨gs, 0, none⟩) 0 0]] (HLe.refl _) ?_
 refine sN (hZ _ _ ?_)
 refine aF [(5, _)] (Kn.cons rfl (Kn.nil)) ?_
 refine aR (fun Z hZ => ?_)
 refine sL 1 rfl rfl tyA108 tyS108 rfl rfl ?_
 refine sx_mkIface Tryz.underlying108 rfl rfl rfl ?_
 refine sA rfl rfl <| sN (hZ _ _ ?_)
 refine aF [(4, _)] (Kn.cons rfl (Kn.nil)) ?_
 refine aE ?_
 exact jD4 [rdr g s (jF5 s (i + 1) + 1) 0] rfl rfl (HLe.pick [0] (by simp) rfl) ⟨⟨_, _, rfl⟩, rfl⟩
theorem rvalue0_fn (g : Nat) (s : List UInt8) (i : Nat) (deep : Nat) (hd : deep ≤ 4) (hi : i < s.length) (hs : s.length ≤ 1000000) (ha : signB s i 123 = true) (hb : signB s (jF5 s (i + 1)) 125 = true) :
  Fn Tryz.prog 86 [ptr g 0, iq (deep : Nat)] [rdr g s i 0] fun v H' => (∃ A c, v = .iface 108 (.slice A 0 c)) ∧ H' = [rdr g s (jF5 s (i + 1) + 1) 0] := by
 have hc : s[i]? = some 123 := by simpa [signB] using ha
 refine Fn.enter (N := 74) Tryz.func86 rfl (by kernel_rfl) rfl (fun w0 => ?_)
 refine aR fun Z hZ => sA rfl rfl <| sN (hZ _ _ ?_)
 refine aF [(0, _), (1, _)] (kR rfl) ?_
 refine aS ?_
 refine jB9 mixed (by kernel_rfl) (fun Z hZ => ?_)
 refine qM rfl rfl ?_
 refine jA9 rfl rfl ?_
 refine qFA rfl jE7 (by simp only [Nat.zero_add]; rfl) rfl ?_
 first | refine jB7 0 rfl rfl tyA3 tyS3 rfl rfl ?_
 refine qM rfl rfl ?_
 refine jA9 rfl rfl ?_
 refine qFA rfl tyF178_0 (by simp only [Nat.add_zero]; rfl) rfl ?_
 first | refine jB7 0 rfl rfl tyA9 tyS9 rfl rfl ?_
 refine sq_lenS Tryz.underlying9 rfl rfl ?_
 refine sq_eql rfl rfl rfl ?_
 refine jE0 (hZ _ _ ?_)
 refine aF [(0, _), (1, _), (15, _)] (kR rfl) ?_
 refine aC rfl (fun h => ?_) (fun h => ?_)
 ·simp at h; omega
 refine aK ?_
 with_reducible refine nN ?_
 refine aS ?_
 refine jB9 mixed (by kernel_rfl) (fun Z hZ => ?_)
 refine qM rfl rfl ?_
 refine jA9 rfl rfl ?_
 refine qFA rfl tyF178_0 (by simp only [Nat.add_zero]; rfl) rfl ?_
 first | refine jB7 0 rfl rfl tyA9 tyS9 rfl rfl ?_
 refine qM rfl rfl ?_
 refine jA9 rfl rfl ?_
 refine qFA rfl jE7 (by simp only [Nat.zero_add]; rfl) rfl ?_
 first | refine jB7 0 rfl rfl tyA3 tyS3 rfl rfl ?_
 refine sq_indexS Tryz.underlying9 rfl rfl (by omega) (by simpa using hc) rfl ?_
 refine jB3 rfl rfl ?_
 refine jE0 (hZ _ _ ?_)
 refine aF [(0, _), (1, _), (5, _)] (kR rfl) ?_
 refine aB ?_
 refine aR fun Z hZ => sM rfl rfl ?_
 refine jC8 rfl rfl rfl ?_
 refine sA rfl rfl <| sN (hZ _ _ ?_)
 refine aF [(0, _), (1, _), (5, _), (27, _)] (kR rfl) ?_
 refine aC rfl (fun h1 => ?_) (fun h1 => ?_)
 ·cases h1
 refine aR fun Z hZ => sM rfl rfl ?_
 refine jC8 rfl rfl rfl ?_
 refine sA rfl rfl <| sN (hZ _ _ ?_)
 refine aF [(0, _), (1, _), (5, _), (32, _)] (kR rfl) ?_
 refine aC rfl (fun h2 => ?_) (fun h2 => ?_)
 ·cases h2
 refine aR fun Z hZ => sM rfl rfl ?_
 refine jC8 rfl rfl rfl ?_
 refine sA rfl rfl <| sN (hZ _ _ ?_)
 refine aF [(0, _), (1, _), (5, _), (38, _)] (kR rfl) ?_
 refine aC rfl (fun h3 => ?_) (fun h3 => ?_)
 ·cases h3
 refine aR fun Z hZ => sM rfl rfl ?_
 refine jC8 rfl rfl rfl ?_
 refine sA rfl rfl <| sN (hZ _ _ ?_)
 refine aF [(0, _), (1, _), (5, _), (44, _)] (kR rfl) ?_
 refine aC rfl (fun h4 => ?_) (fun h4 => ?_)
 ·cases h4
 refine aR fun Z hZ => sM rfl rfl ?_
 refine jC8 rfl rfl rfl ?_
 refine sA rfl rfl <| sN (hZ _ _ ?_)
 refine aF [(0, _), (1, _), (5, _), (50, _)] (kR rfl) ?_
 refine aC rfl (fun h5 => ?_) (fun h5 => ?_)
 ·cases h5
 refine aR fun Z hZ => sM rfl rfl ?_
 refine jC8 rfl rfl rfl ?_
 refine sA rfl rfl <| sN (hZ _ _ ?_)
 refine aF [(0, _), (1, _), (5, _), (56, _)] (kR rfl) ?_
 refine aC rfl (fun h6 => ?_) (fun h6 => ?_)
 ·refine aR (fun Z hZ => ?_)
  refine sM rfl rfl <| sM rfl rfl ?_
  refine jB0 [0] [] (robject0_fn g s i deep hd hi hs ha hb) rfl rfl (by simp) rfl ?_
  rintro v H' ⟨⟨A, c, rfl⟩, rfl⟩
  refine jC0 (by simp only [List.filter_cons, List.filter_nil, Ent.wr, if_true, qS, pick]; first | done | rfl) ?_
  refine sA rfl rfl <| sN (hZ _ _ ?_)
  refine aF [(4, _)] (Kn.cons rfl (Kn.nil)) ?_
  refine aE ?_
  repeat (with_reducible (first | refine nTR ?_ | refine nBR ?_))
  exact jD4 _ rfl rfl (HLe.refl _) ⟨⟨A, c, rfl⟩, rfl⟩
 ·cases h6
theorem take0_fn (s : List UInt8) (hs : s.length ≤ 4096) (ha : signB s (jF5 s 0) 123 = true) (hb : signB s (jF5 s (jF5 s 0 + 1)) 125 = true) (he : jF5 s (jF5 s (jF5 s 0 + 1) + 1) = s.length) :
  Fn Tryz.prog 45 [.string (str s)] [] fun v _ => ∃ A c, v = .tuple #[.iface 108 (.slice A 0 c), iq (s.length : Nat), iq 0] := by
 have hi : jF5 s 0 < s.length := by
  have hc : s[jF5 s 0]? = some 123 := by simpa [signB] using ha
  exact (List.getElem?_eq_some_iff.1 hc).1
 have hj : jF5 s (jF5 s 0 + 1) < s.length := by
  have hc : s[jF5 s (jF5 s 0 + 1)]? = some 125 := by simpa [signB] using hb
  exact (List.getElem?_eq_some_iff.1 hc).1
 refine Fn.enter (N := 52) Tryz.func45 rfl (by kernel_rfl) rfl (fun w0 => ?_)
 refine aR fun Z hZ => sA rfl rfl <| sA rfl rfl <| sA rfl rfl <| sN (hZ _ _ ?_)
 refine aF [(0, _)] (Kn.cons rfl (Kn.nil)) ?_
 refine aS ?_
 refine aR fun Z hZ => sM rfl rfl ?_
 refine jF0 Tryz.underlying9 rfl rfl ?_
 refine jF3 rfl rfl rfl ?_
 refine sN (hZ _ _ ?_)
 refine aF [(0, _), (8, _)] (kR rfl) ?_
 refine aC rfl (fun h => ?_) (fun h => ?_)
 ·simp at h; omega
 refine aK ?_
 with_reducible refine nN ?_
 refine aR fun Z hZ => sM rfl rfl ?_
 refine jD1 tyZ178 tyP178 rfl rfl (by simp only [qS, Value.cells, wrV]; rfl) rfl ?_
 refine jC3 rfl rfl rfl (fun g1 => ?_)
 refine sA rfl rfl <| sN (hZ _ _ ?_)
 refine aF [(0, _), (5, _)] (kR rfl) ?_
 refine aR fun Z hZ => sM rfl rfl ?_
 refine jB0 [0] [] (rblank_fn g1 s 0 0 (by omega) (by omega)) rfl rfl (by simp) rfl ?_
 rintro v H' ⟨rfl, rfl⟩
 refine jC0 (by simp only [List.filter_cons, List.filter_nil, Ent.wr, if_true, qS, pick]; first | done | rfl) ?_
 refine sN (hZ _ _ ?_)
 refine aF [(0, _), (5, _)] (kR rfl) ?_
 refine aR fun Z hZ => sM rfl rfl ?_
 refine jB0 [0] [] (rvalue0_fn g1 s _ 1 (by omega) hi (by omega) ha hb) rfl rfl (by simp) rfl ?_
 rintro v H' ⟨⟨A, c, rfl⟩, rfl⟩
 refine jC0 (by simp only [List.filter_cons, List.filter_nil, Ent.wr, if_true, qS, pick]; first | done | rfl) ?_
 refine sA rfl rfl <| sN (hZ _ _ ?_)
 refine aF [(0, _), (2, _), (5, _)] (kR rfl) ?_
 refine aS ?_
 refine aR fun Z hZ => sM rfl rfl ?_
 refine jA5 rfl rfl ?_
 refine sFA rfl tyF178_2 (by simp only [Nat.zero_add]; rfl) rfl ?_
 first | refine sL 0 rfl rfl tyA32 tyS32 rfl rfl ?_
 refine jC8 rfl rfl rfl ?_
 refine sN (hZ _ _ ?_)
 refine aF [(0, _), (2, _), (5, _), (20, _)] (kR rfl) ?_
 refine aC rfl (fun h => ?_) (fun h => ?_)
 ·refine aR (fun Z hZ => ?_)
  refine sM rfl rfl ?_
  refine jB0 [0] [] (rblank_fn g1 s _ 0 (by omega) (by omega)) rfl rfl (by simp) rfl ?_
  rintro v H' ⟨rfl, rfl⟩
  refine jC0 (by simp only [List.filter_cons, List.filter_nil, Ent.wr, if_true, qS, pick]; first | done | rfl) ?_
  rw [he]
  refine sN (hZ _ _ ?_)
  refine aF [(0, _), (2, _), (5, _)] (kR rfl) ?_
  refine aR fun Z hZ => sM rfl rfl ?_
  refine jA5 rfl rfl ?_
  refine sFA rfl jE7 (by simp only [Nat.zero_add]; rfl) rfl ?_
  first | refine sL 0 rfl rfl tyA3 tyS3 rfl rfl ?_
  refine sM rfl rfl ?_
  refine jF0 Tryz.underlying9 rfl rfl ?_
  refine jC4 rfl rfl rfl ?_
  refine sN (hZ _ _ ?_)
  refine aF [(0, _), (2, _), (5, _), (29, _)] (kR rfl) ?_
  refine aC rfl (fun h2 => ?_) (fun h2 => ?_)
  ·simp at h2
  refine aK ?_
  with_reducible refine nN ?_
  refine aS ?_
  refine aR fun Z hZ => sM rfl rfl ?_
  refine jA5 rfl rfl ?_
  refine sFA rfl tyF178_2 (by simp only [Nat.zero_add]; rfl) rfl ?_
  first | refine sL 0 rfl rfl tyA32 tyS32 rfl rfl ?_
  refine jE5 rfl rfl rfl ?_
  refine sN (hZ _ _ ?_)
  refine aF [(0, _), (2, _), (5, _), (40, _)] (kR rfl) ?_
  refine aC rfl (fun h3 => ?_) (fun h3 => ?_)
  ·cases h3
  refine aK ?_
  with_reducible refine nN ?_
  refine aR fun Z hZ => sM rfl rfl <| sM rfl rfl ?_
  refine jF0 Tryz.underlying9 rfl rfl ?_
  refine sA rfl rfl <| sA rfl rfl <| sA rfl rfl <| sN (hZ _ _ ?_)
  refine aF [(2, _), (3, _), (4, _)] (kR rfl) ?_
  refine aE ?_
  exact jH5 [] rfl rfl rfl rfl (HLe.sub (List.nil_sublist _)) ⟨A, c, rfl⟩
 ·cases h
end Go.Proofs.YtkojkeabelckjaaGreatDoor
end

section
set_option linter.all false
namespace Go.Proofs.YtkojkeabelckjaaGreatDoor.V
open Go.RowKit
section
variable {P : Program} {N : Frm} {w0 : World} {Wr : List Nat} {ops : Array Oper} {rest : List Oper} {fr : Fr} {H : Heap} {Z : Fr → Heap → Prop} {d ty : Nat} {pos : String} {after : Array Edge}
theorem sx_xor {t t' : TypeId} {x y : Operand} {k : IntKind} {m n : Int} (hx : ev fr x = some (.int k m)) (hy : ev fr y = some (.int k n)) (r : Int) (hr : k.wrap (BitVec.ofInt k.bits m ^^^ BitVec.ofInt k.bits n).toNat = r) (hN : Nat.ble (d + 1) N.n = true)
  (h : sx P N w0 Wr ops rest ((d, .int k r) :: fr) H Z) : sx P N w0 Wr ops (⟨some d, .binOp .xor t x y t', ty, pos, after, none⟩ :: rest) fr H Z :=
 sx_int2 _ hx hy (fun w => by subst hr; simp [binOp, Op.intBits]) hN h
end
def fnvI (h : Nat) (b : UInt8) : Int := IntKind.u64.wrap (BitVec.ofInt IntKind.u64.bits ((h : Nat) : Int) ^^^ BitVec.ofInt IntKind.u64.bits ((b.toNat : Nat) : Int)).toNat
def fnvS (h : Nat) (b : UInt8) : Nat := (IntKind.u64.wrap (fnvI h b * 1099511628211)).toNat
theorem fnvS_is (h : Nat) (b : UInt8) : IntKind.u64.wrap (fnvI h b * 1099511628211) = ((fnvS h b : Nat) : Int) := by
 unfold fnvS
 rw [Int.toNat_of_nonneg]
 simp only [IntKind.wrap, IntKind.bits, IntKind.signed]
 exact Int.emod_nonneg _ (by decide)
def fnvQ (s : List UInt8) : Nat := s.foldl fnvS 14695981039346656037
theorem fnv_step (h : Nat) (b : UInt8) : Fn Tryz.prog 177 [uq h, .int .u8 (b.toNat : Nat)] [] fun v _ => v = uq (fnvS h b) := by
 have hb := b.toNat_lt
 refine Fn.enter (N := 10) Tryz.func177 rfl (by kernel_rfl) rfl (fun w0 => ?_)
 refine aR fun Z hZ => sA rfl rfl <| sN (hZ _ _ ?_)
 refine aF [(0, _), (1, _)] (kR rfl) ?_
 refine aR fun Z hZ => sM rfl rfl <| sM rfl rfl ?_
 refine jC2 Tryz.underlying5 Tryz.underlying45 rfl ((b.toNat : Nat) : Int) (by rw [IntWalk.u64_in _ (by omega)]) rfl ?_
 refine sx_xor rfl rfl (fnvI h b) rfl rfl ?_
 refine sx_mul rfl rfl ((fnvS h b : Nat) : Int) (fnvS_is h b) rfl ?_
 refine sA rfl rfl <| sN (hZ _ _ ?_)
 refine aF [(4, _)] (Kn.cons rfl (Kn.nil)) ?_
 refine aE ?_
 exact nR1 rfl rfl rfl
theorem fnvQ_step {s : List UInt8} {i : Nat} {c : UInt8} (h : s[i]? = some c) : fnvQ (s.take (i + 1)) = fnvS (fnvQ (s.take i)) c := by
 obtain ⟨hlt, rfl⟩ := List.getElem?_eq_some_iff.1 h
 unfold fnvQ
 rw [List.take_succ_eq_append_getElem hlt, List.foldl_append, List.foldl_cons, List.foldl_nil]
theorem fnvQ_nil : fnvQ [] = 14695981039346656037 := rfl
attribute [irreducible] fnvQ fnvS fnvI
theorem fnv_fold (s : List UInt8) (hs : s.length ≤ 9223372036854775807) : Fn Tryz.prog 178 [.agg #[.int .u64 14695981039346656037, .func (.func 177) #[] #[]], .string (str s)] [] fun v _ => v = uq (fnvQ s) := by
 refine Fn.enter (N := 23) Tryz.func178 rfl (by kernel_rfl) rfl (fun w0 => ?_)
 refine aR (fun Z hZ => ?_)
 refine jC3 rfl rfl rfl (fun g1 => ?_)
 refine sA rfl rfl <| sN (hZ _ _ ?_)
 refine aF [(1, _), (2, _)] (kR rfl) ?_
 refine aS ?_
 refine aR fun Z hZ => sM rfl rfl ?_
 refine jF0 Tryz.underlying9 rfl rfl ?_
 refine sM rfl rfl <| sN (hZ _ _ ?_)
 refine aF [(1, _), (2, _), (7, _), (8, _)] (kR rfl) ?_
 refine aB ?_
 refine jB6 (ι := Nat) (fun i => [(1, .string (str s)), (2, ptr g1 0), (7, iq (s.length : Nat)), (8, iq (i : Nat))]) (fun i => [.own g1 287 [uq (fnvQ (s.take i)), .func (.func 177) #[] #[]]])
  (fun i => i ≤ s.length) (fun i => s.length - i) 0 (by simp) (kR rfl) (by simp only [List.take_zero, fnvQ_nil]; exact HLe.refl _) ?_
 rintro i hi
 refine aR (fun Z hZ => ?_)
 refine jC4 rfl rfl rfl ?_
 refine sN (hZ _ _ ?_)
 refine aF [(1, _), (2, _), (7, _), (8, _), (9, _)] (kR rfl) ?_
 refine aS (aC rfl (fun h => ?_) (fun h => ?_))
 ·have hlt : i < s.length := by simpa using h
  obtain ⟨ch, hch⟩ : ∃ c, s[i]? = some c := ⟨_, List.getElem?_eq_getElem hlt⟩
  have hsn := fnvQ_step hch
  refine aK ?_
  with_reducible refine nN ?_
  refine aS (aB ?_)
  refine aR fun Z hZ => sM rfl rfl <| sA rfl rfl <| sN (hZ _ _ ?_)
  refine aF [(1, _), (2, _), (5, _), (7, _), (8, _)] (kR rfl) ?_
  refine awf_region _ [(0, true), (1, true), (2, true), (3, true), (4, true), (5, true), (6, true), (7, false), (8, true)] 9 rfl mixed (by kernel_rfl) (HLe.pick [0] (by simp) (by simp only [pick, List.filterMap_cons, qS]; rfl)) (fun Z hZ => ?_)
  refine tw_p rfl ?_
  refine jA2 rfl tyF287_1 (by simp only [Nat.zero_add]; rfl) rfl ?_
  refine vN ?_
  refine tw_p rfl ?_
  first | refine jE6 0 rfl rfl tyA285 tyS285 rfl rfl ?_
  refine vN ?_
  refine tw_p rfl ?_
  refine jA2 rfl tyF287_0 (by simp only [Nat.add_zero]; rfl) rfl ?_
  refine vN ?_
  refine tw_p rfl ?_
  first | refine jE6 0 rfl rfl tyA45 tyS45 rfl rfl ?_
  refine vN ?_
  refine tw_p rfl ?_
  refine jA3 rfl rfl ?_
  refine vN ?_
  refine tw_p rfl ?_
  refine jA3 rfl rfl ?_
  refine vN ?_
  refine tw_p rfl ?_
  refine sv_indexS  Tryz.underlying9 rfl rfl (Int.natCast_nonneg i) (by rw [Int.toNat_natCast]; exact hch) rfl ?_
  refine vN ?_
  refine tw_g rfl ?_
  refine sx_callFV (caps := []) (vs := [uq (fnvQ (s.take i)), .int .u8 (ch.toNat : Nat)]) [] (fnv_step (fnvQ (s.take i)) ch) rfl rfl (HLe.sub (List.nil_sublist _)) Ro.nil rfl ?_
  refine sN ⟨HLe.pick [0] (by simp) rfl, ?_⟩
  refine tw_p rfl ?_
  refine jA2 rfl tyF287_0 (by simp only [Nat.add_zero]; rfl) rfl ?_
  refine vN ?_
  refine jH2 ?_
  first | refine sS1 0 rfl rfl rfl tyS45 rfl rfl (by simp only [List.set_cons_zero]; rfl) (by simp only [List.set_cons_zero]; rfl) ?_
  refine sN (hZ _ _ ?_)
  refine nF [(1, _), (2, _), (7, _), (8, _)] (kR rfl) ?_
  repeat (with_reducible refine nBN ?_)
  with_reducible refine nN ?_
  refine aG (fun Z hZ => ?_)
  refine jB8 rfl rfl ((i + 1 : Nat) : Int) (by rw [IntWalk.i64_in _ (by omega)]; omega) rfl ?_
  refine sM rfl rfl <| sN (hZ _ _ ?_)
  refine nF [(1, _), (2, _), (7, _), (8, _)] (kR rfl) ?_
  exact jB5 (i + 1) hlt (by omega) (kR rfl) (by rw [hsn]; exact HLe.refl _)
 ·refine jB1 ?_
  repeat (with_reducible refine nTE ?_)
  with_reducible refine nBE ?_
  with_reducible refine nN ?_
  have hke : i = s.length := by simp at h; omega
  subst hke
  rw [List.take_length]
  refine aR (fun Z hZ => ?_)
  refine sFA rfl tyF287_0 (by simp only [Nat.add_zero]; rfl) rfl ?_
  first | refine sL 0 rfl rfl tyA45 tyS45 rfl rfl ?_
  refine sA rfl rfl <| sN (hZ _ _ ?_)
  refine aF [(4, _)] (Kn.cons rfl (Kn.nil)) ?_
  refine aE ?_
  exact nR1 rfl rfl rfl
theorem fnv_sum (s : List UInt8) (hs : s.length ≤ 9223372036854775807) : Fn Tryz.prog 139 [.string (str s)] [] fun v _ => v = uq (fnvQ s) := by
 refine Fn.enter (N := 6) Tryz.func139 rfl (by kernel_rfl) rfl (fun w0 => ?_)
 refine aR fun Z hZ => sA rfl rfl <| sN (hZ _ _ ?_)
 refine aF [(0, _)] (Kn.cons rfl (Kn.nil)) ?_
 refine aR (fun Z hZ => ?_)
 refine jD1 tyZ287 tyP287 rfl rfl (by simp only [qS, Nat.reduceAdd, Value.cells, wrV]; rfl) rfl ?_
 refine sM rfl rfl ?_
 refine sCP (fnv_fold s hs) rfl rfl ?_
 refine sA rfl rfl <| sN (hZ _ _ ?_)
 refine aF [(2, _)] (Kn.cons rfl (Kn.nil)) ?_
 refine aE ?_
 exact nR1 rfl rfl rfl
end Go.Proofs.YtkojkeabelckjaaGreatDoor.V
end

section
set_option linter.all false
namespace Go.Proofs.YtkojkeabelckjaaGreatDoor.V
open Go.RowKit
set_option maxRecDepth 100000
abbrev Tx := List UInt8
def ctsF : Nat → List Tx → List (Nat × Nat)
 | _, [] => []
 | o, t :: r => (o, t.length) :: ctsF (o + t.length) r
abbrev ctC (c : Nat × Nat) : List Value := [uq c.1, wq4 c.2]
abbrev ctV (c : Nat × Nat) : Value := .agg (ctC c).toArray
abbrev ctcells (L : List (Nat × Nat)) : List Value := L.flatMap ctC
theorem ct_len (c : Nat × Nat) : (ctC c).length = 2 := rfl
theorem ctcells_len (L : List (Nat × Nat)) : (ctcells L).length = L.length * 2 := fm_len ct_len L
theorem ctcells_all {L : List (Nat × Nat)} {i : Nat} {x : Nat × Nat} (h : L[i]? = some x) : rdV true 2 (ctcells L) (i * 2) = some (ctV x) := fm_rd ct_len h
theorem ctcells_app (X Y : List (Nat × Nat)) : ctcells (X ++ Y) = ctcells X ++ ctcells Y := by simp [ctcells]
theorem elemCt : ElemOk Tryz.prog 182 123 2 16 := ElemOk.mk_ (z := .agg #[uq 0, wq4 0]) Tryz.underlying182 (by kernel_rfl) rfl (by omega)
theorem elemInt : ElemOk Tryz.prog 247 3 1 8 := ElemOk.mk_ (z := iq (0 : Nat)) Tryz.underlying247 (by kernel_rfl) rfl (by omega)
theorem ctsF_len : ∀ (ts : List Tx) (o : Nat), (ctsF o ts).length = ts.length
 | [], _ => rfl
 | t :: r, o => by rw [ctsF, List.length_cons, ctsF_len r, List.length_cons]
theorem ctsF_at : ∀ (ts : List Tx) (o k : Nat) (t : Tx), ts[k]? = some t → (ctsF o ts)[k]? = some (o + (ts.take k).flatten.length, t.length)
 | [], _, _, _, h => by simp at h
 | x :: r, o, 0, t, h => by
  simp only [List.getElem?_cons_zero, Option.some.injEq] at h
  subst h
  simp [ctsF]
 | x :: r, o, k + 1, t, h => by
  rw [List.getElem?_cons_succ] at h
  rw [ctsF, List.getElem?_cons_succ, ctsF_at r _ k t h]
  simp only [List.take_succ_cons, List.flatten_cons, List.length_append]
  rw [Nat.add_assoc]
theorem ctsF_snoc : ∀ (ts : List Tx) (o : Nat) (s : Tx), ctsF o (ts ++ [s]) = ctsF o ts ++ [(o + ts.flatten.length, s.length)]
 | [], o, s => by simp [ctsF]
 | x :: r, o, s => by
  rw [List.cons_append, ctsF, ctsF_snoc r, ctsF, List.cons_append, List.flatten_cons, List.length_append, Nat.add_assoc]
theorem flat_at : ∀ (ts : List Tx) (k : Nat) (t : Tx), ts[k]? = some t → (ts.take k).flatten.length + t.length ≤ ts.flatten.length ∧ (ts.flatten.drop (ts.take k).flatten.length).take t.length = t
 | [], _, _, h => by simp at h
 | x :: r, 0, t, h => by
  simp only [List.getElem?_cons_zero, Option.some.injEq] at h
  subst h
  simp
 | x :: r, k + 1, t, h => by
  rw [List.getElem?_cons_succ] at h
  obtain ⟨h1, h2⟩ := flat_at r k t h
  simp only [List.take_succ_cons, List.flatten_cons, List.length_append]
  refine ⟨by omega, ?_⟩
  rw [← List.drop_drop, List.drop_left]
  exact h2
def fdQ : Nat → List Tx → Tx → Option (Nat × Nat)
 | _, [], _ => none
 | o, t :: r, s => if t = s then some (o, s.length) else fdQ (o + t.length) r s
theorem fdQ_none : ∀ (ts : List Tx) (o : Nat) (s : Tx), fdQ o ts s = none ↔ s ∉ ts
 | [], _, _ => by simp [fdQ]
 | t :: r, o, s => by
  rw [fdQ]
  split
  ·rename_i h; simp [h]
  ·rename_i h
   rw [fdQ_none r]
   simp only [List.mem_cons, not_or]
   exact ⟨fun x => ⟨fun e => h e.symm, x⟩, fun x => x.2⟩
theorem fdQ_at : ∀ (ts : List Tx) (o k : Nat) (s : Tx), ts.Nodup → ts[k]? = some s → fdQ o ts s = some (o + (ts.take k).flatten.length, s.length)
 | [], _, _, _, _, h => by simp at h
 | x :: r, o, 0, t, _, h => by
  simp only [List.getElem?_cons_zero, Option.some.injEq] at h
  subst h
  simp [fdQ]
 | x :: r, o, k + 1, t, hn, h => by
  rw [List.getElem?_cons_succ] at h
  have hne : x ≠ t := fun e => (List.nodup_cons.1 hn).1 (e ▸ List.mem_of_getElem? h)
  rw [fdQ, if_neg hne, fdQ_at r _ k t (List.nodup_cons.1 hn).2 h]
  simp only [List.take_succ_cons, List.flatten_cons, List.length_append]
  rw [Nat.add_assoc]
structure Bk where
 key : Nat
 g : Nat
 c : Nat
 ks : List Nat
abbrev Bk.v (b : Bk) : Value := .slice (some ⟨b.g, 0, none⟩) b.ks.length b.c
abbrev iqL (l : List Nat) : List Value := l.map fun k => iq (k : Nat)
abbrev Bk.e (b : Bk) : Ent := .ob b.g (RowP 3 1 b.ks.length b.c (iqL b.ks))
abbrev bkM (B : List Bk) : List (Nat × Value) := B.map fun b => (b.key, b.v)
abbrev bkH (B : List Bk) : Heap := B.map Bk.e
def bkOf (B : List Bk) (key : Nat) : Option Bk := B.find? fun b => b.key == key
theorem bk_get : ∀ (B : List Bk) (key : Nat), aget (bkM B) key = (bkOf B key).map Bk.v
 | [], _ => rfl
 | b :: r, key => by
  show (if b.key = key then some b.v else aget (bkM r) key) = _
  unfold bkOf
  rw [List.find?_cons]
  by_cases h : b.key = key
  ·rw [if_pos h, beq_iff_eq.2 h]; rfl
  ·rw [if_neg h, bk_get r key, beq_eq_false_iff_ne.2 h]; rfl
structure BkOk (ts : List Tx) (B : List Bk) : Prop where
 nd : (B.map Bk.key).Nodup
 lt : ∀ b ∈ B, b.ks.length ≤ ts.length ∧ ∀ k ∈ b.ks, k < ts.length
 all : ∀ k t, ts[k]? = some t → ∃ b ∈ B, b.key = fnvQ t ∧ k ∈ b.ks
theorem bk_of_mem : ∀ {B : List Bk} {b : Bk}, (B.map Bk.key).Nodup → b ∈ B → bkOf B b.key = some b
 | [], _, _, h => by cases h
 | x :: r, b, hn, h => by
  unfold bkOf
  rw [List.find?_cons]
  rcases List.mem_cons.1 h with rfl | h
  ·simp
  ·have : x.key ≠ b.key := fun e => (List.nodup_cons.1 hn).1 (e ▸ List.mem_map.2 ⟨b, h, rfl⟩)
   rw [beq_eq_false_iff_ne.2 this]
   exact bk_of_mem (List.nodup_cons.1 hn).2 h
def bkK (B : List Bk) (key : Nat) : List Nat := match bkOf B key with | some b => b.ks | none => []
def bkV (B : List Bk) (key : Nat) : Value := match bkOf B key with | some b => b.v | none => .slice none 0 0
theorem bkV_ok (B : List Bk) (key : Nat) : RowOk (bkV B key) (bkK B key).length := by
 unfold bkV bkK
 cases bkOf B key with
 | none => exact RowOk.nil
 | some b => exact RowOk.mk _ _ _
theorem bkV_get (B : List Bk) (key : Nat) : ((aget (bkM B) key).map fun v => v).getD (.slice none 0 0) = bkV B key := by
 rw [bk_get]
 unfold bkV
 cases bkOf B key <;> rfl
theorem bkK_lt {ts : List Tx} {B : List Bk} (h : BkOk ts B) (key : Nat) : (bkK B key).length ≤ ts.length ∧ ∀ k ∈ bkK B key, k < ts.length := by
 unfold bkK
 cases hb : bkOf B key with
 | none => exact ⟨Nat.zero_le _, fun k hk => by cases hk⟩
 | some b => exact h.lt b (List.mem_of_find?_eq_some hb)
theorem bkK_all {ts : List Tx} {B : List Bk} (h : BkOk ts B) {k : Nat} {t : Tx} (hk : ts[k]? = some t) : k ∈ bkK B (fnvQ t) := by
 obtain ⟨b, hb, h1, h2⟩ := h.all k t hk
 unfold bkK
 rw [← h1, bk_of_mem h.nd hb]
 exact h2
theorem rd_sub {w : World} {g o n off len : Nat} {xs : List Value} (h : Rd w 1 (some ⟨g, o, none⟩) n xs) (hl : off + len ≤ n) : Rd w 1 (some ⟨g, o + off, none⟩) len ((xs.drop off).take len) := by
 obtain ⟨h1, h2, h3⟩ := h
 refine ⟨by rw [List.length_take, List.length_drop]; omega, fun h => absurd h (by simp), fun h0 => ?_⟩
 obtain ⟨g', o', he, hlt, hc⟩ := h3 (by omega)
 injection he with he
 injection he with he1 he2 _
 subst he1; subst he2
 refine ⟨g, o + off, rfl, hlt, fun j u hu => ?_⟩
 rw [List.getElem?_take] at hu
 split at hu
 ·rw [List.getElem?_drop] at hu
  rw [Nat.add_assoc]
  exact hc _ _ hu
 ·cases hu
theorem at_rd {w : World} {gt n o o' len m : Nat} {l : Tx} (h : Rd w 1 (some ⟨gt, 0, none⟩) n (bv l)) (ho' : (o : Int) < ((o + len : Nat) : Int) → o' = 0 + (o : Int).toNat * 1) (hol : o + len ≤ n) (hl : l.length = n) (hm : m = len) : Rd w 1 (some ⟨gt, o', none⟩) m (bv ((l.drop o).take len)) := by
 subst hm
 rcases Nat.eq_zero_or_pos m with h0 | h0
 ·subst h0
  exact ⟨by simp [bv], fun h => absurd h (by simp), fun h => absurd h (by omega)⟩
 ·have := ho' (by omega)
  simp only [Int.toNat_natCast, Nat.mul_one] at this
  subst this
  have := rd_sub h hol
  unfold bv
  rw [List.map_take, List.map_drop]
  exact this
theorem ctend_fn (o l : Nat) (ho : o ≤ 1000000000) (hl : l ≤ 1000000000) : Fn Tryz.prog 179 [ctV (o, l)] [] fun v _ => v = uq (o + l) := by
 refine Fn.enter (N := 9) Tryz.func179 rfl (by kernel_rfl) rfl (fun w0 => ?_)
 refine aR (fun Z hZ => ?_)
 refine jC3 rfl rfl rfl (fun g1 => ?_)
 refine sA rfl rfl <| sN (hZ _ _ ?_)
 refine aF [(1, _)] (Kn.cons rfl (Kn.nil)) ?_
 refine aR (fun Z hZ => ?_)
 refine sFA rfl tyF123_0 (by simp only [Nat.add_zero]; rfl) rfl ?_
 first | refine sL 0 rfl rfl tyA45 tyS45 rfl rfl ?_
 refine sFA rfl tyF123_1 (by simp only [Nat.zero_add]; rfl) rfl ?_
 first | refine sL 0 rfl rfl tyA112 tyS112 rfl rfl ?_
 refine jC2 Tryz.underlying112 Tryz.underlying45 rfl ((l : Nat) : Int) (by rw [IntWalk.u64_in _ (by omega)]) rfl ?_
 refine jB8 rfl rfl ((o + l : Nat) : Int) (by rw [IntWalk.u64_in _ (by omega)]; omega) rfl ?_
 refine sA rfl rfl <| sN (hZ _ _ ?_)
 refine aF [(2, _)] (Kn.cons rfl (Kn.nil)) ?_
 refine aE ?_
 exact nR1 rfl rfl rfl
theorem at_fn (gp gt n c : Nat) (pv mv : Value) (l : Tx) (o len : Nat) (hlen : l.length = n) (hnc : n ≤ c) (hn : n ≤ 1000000000) (ho : o + len ≤ n) :
  Fn Tryz.prog 140 [ptr gp 0, ctV (o, len)] [.ro gp 0 [.slice (some ⟨gt, 0, none⟩) n c, pv, mv], .ro gt 0 (bv l)] fun v _ => v = .string (str ((l.drop o).take len)) := by
 refine Fn.enter (N := 15) Tryz.func140 rfl (by kernel_rfl) rfl (fun w0 => ?_)
 refine aR (fun Z hZ => ?_)
 refine jC3 rfl rfl rfl (fun g1 => ?_)
 refine sA rfl rfl <| sN (hZ _ _ ?_)
 refine aF [(0, _), (3, _)] (kR rfl) ?_
 refine jB9 mixed (by kernel_rfl) (fun Z hZ => ?_)
 refine qM rfl rfl ?_
 refine jA9 rfl rfl ?_
 refine qFA rfl tyF185_0 (by simp only [Nat.add_zero]; rfl) rfl ?_
 refine jG8 1 rfl rfl 0 rfl tyA132 tyS132 rfl rfl ?_
 refine qFA rfl tyF123_0 (by simp only [Nat.add_zero]; rfl) rfl ?_
 refine jB7 0 rfl rfl tyA45 tyS45 rfl rfl ?_
 refine sq_loadA 0 rfl rfl tyA123 tyS123 rfl (by simp only [qS, Value.cells]; rfl) rfl ?_
 refine sq_callP (ctend_fn o len (by omega) (by omega)) rfl rfl ?_
 refine sq_slice (i := (o : Int)) (j := ((o + len : Nat) : Int)) Tryz.underlying132 tyS5 rfl rfl rfl (by omega) (by omega) (by omega) rfl (fun o' ho' => ?_)
 refine sq_strB (l := (l.drop o).take len) Tryz.underlying132 Tryz.underlying5 Tryz.underlying9 rfl (fun w hw => at_rd (rd_ro (i := 2) rfl (by rw [bv_length]; omega) hw) ho' ho hlen (by simp; omega)) rfl ?_
 refine jB3 rfl rfl ?_
 refine jE0 (hZ _ _ ?_)
 refine aF [(4, _)] (Kn.cons rfl (Kn.nil)) ?_
 refine aE ?_
 exact nR1 rfl rfl rfl
end Go.Proofs.YtkojkeabelckjaaGreatDoor.V
end
