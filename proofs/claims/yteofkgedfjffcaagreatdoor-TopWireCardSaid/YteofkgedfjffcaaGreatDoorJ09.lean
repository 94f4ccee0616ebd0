/- Walks and plain laws for this claim (texts Wa5, Wa6, Wa7, Wa8, Wb3, Wb4, SxIn, Wb5, Wa9, Wb6, Wb7, SxVk, Wb8, joined). Each theorem states its own conditions. -/
import Derived.Test.YteofkgedfjffcaaGreatDoorJ08
import Derived.Shelf.Strconv.Itoa0
import Derived.Lib.AtoiAllCases
import Derived.Lib.AppendZerosOnto
import Derived.Lib.Overlaps
set_option linter.all false
namespace Go.Proofs.YteofkgedfjffcaaGreatDoor
section
open Go.RowKit
set_option maxRecDepth 100000
theorem yY2 {P : Program} {f : FuncId} {vs : List Value} {H : Heap} {x : Value} (h : Fn P f vs H fun v _ => v = x) : Fn P f vs H fun v H' => v = x ∧ H' = [] :=
 ⟨h.1, fun w hw => (h.2 w hw).mono fun e w' he => by
  obtain ⟨v, H', h1, h2, h3⟩ := he
  exact ⟨v, [], h1, ⟨h2, rfl⟩, h3.sub (lO _)⟩⟩
def smC (c : UInt8) : UInt8 := if 65 ≤ c.toNat ∧ c.toNat ≤ 90 then c + 32 else c
theorem wG3 (c : UInt8) : (smC c).toNat = if 65 ≤ c.toNat ∧ c.toNat ≤ 90 then c.toNat + 32 else c.toNat := by
 unfold smC
 split
 ·rw [UInt8.toNat_add]; show (c.toNat + 32) % 256 = _; omega
 ·rfl
theorem zJ5 (c : UInt8) : Fn Tryz.prog 188 [i32v c] [] fun v _ => v = i32v (smC c) := by
 have h := wG3 c
 have hc := c.toNat_lt
 obtain ⟨k, hk⟩ := xZ9 ((smC c).toNat)
 rw [hk] at h
 show Fn Tryz.prog 188 [i32v c] [] fun v _ => v = .int .i32 ((smC c).toNat : Int)
 rw [hk]
 obtain ⟨n, hn⟩ := xZ9 (c.toNat)
 show Fn Tryz.prog 188 [.int .i32 (c.toNat : Int)] [] fun v _ => v = .int .i32 (k : Int)
 rw [hn] at h hc ⊢
 refine fE 13 Tryz.func188 rfl (fun w0 => aA rfl rfl <| f1K 0 rfl ?_)
 by_cases hb : 65 ≤ n ∧ n ≤ 90
 ·rw [if_pos hb] at h
  refine aS <| jA0 [(0, .int .i32 (n : Int)), (8, .bool true)] [] (fun Z hZ => ?_) ?_
  ·refine sM rfl rfl <| jH7 rfl rfl rfl <| sM rfl rfl <| jB9 5 rfl true (by simp; omega) ?_
   refine sOn0 ?_
   refine sM rfl rfl <| sOn0 ?_
   refine jI2 rfl rfl rfl <| sP0 ?_
   refine sN (hZ _ _ ?_ ?_)
   ·exact kE rfl (kE (congrArg some (congrArg Value.bool (by simp; omega))) kF)
   ·exact hV _
  refine aC0 (fun h1 => ?_) (fun h1 => ?_)
  ·refine aR (fun Z hZ => sM rfl rfl <| jN0 rfl rfl ((n - 65 : Nat) : Int) (by rw [IntWalk.i32_in _ (by omega)]; omega) rfl ?_)
   refine jB7 rfl rfl ((k : Nat) : Int) (by rw [IntWalk.i32_in _ (by omega)]; omega) rfl ?_
   refine sAN hZ rfl rfl ?_
   refine f1K 2 rfl ?_
   refine aE ?_
   repeat (with_reducible refine nTR ?_)
   exact nR1 rfl rfl rfl
  cases h1
 rw [if_neg hb] at h
 subst h
 refine aS <| jA0 [(0, .int .i32 (k : Int)), (8, .bool false)] [] (fun Z hZ => ?_) ?_
 ·refine sM rfl rfl <| jH7 rfl rfl rfl <| sM rfl rfl <| jB3 5 rfl (fun hb2 => ?_) (fun hb2 => ?_)
  ·refine sOn0 ?_
   refine sM rfl rfl <| sOn0 ?_
   refine jI2 rfl rfl rfl <| sP0 ?_
   refine sN (hZ _ _ ?_ ?_)
   ·exact kE rfl (kE (congrArg some (congrArg Value.bool (by simp at *; try omega))) kF)
   ·exact hV _
  ·refine sO0 ?_
   refine sO0 ?_
   refine sP0 ?_
   refine sN (hZ _ _ ?_ ?_)
   ·exact kE rfl (kE (congrArg some (congrArg Value.bool (by simp at *; try omega))) kF)
   ·exact hV _
 refine aC0 (fun h1 => ?_) (fun h1 => ?_)
 ·cases h1
 refine aK <| nN <| aR fun Z hZ => sM rfl rfl <| sAN hZ rfl rfl <| f1K 2 rfl <| aE <| nR10 rfl
theorem wG1 (f : UInt8 → UInt8) (s : List UInt8) : (List.range s.length).map (fun j => f (s.getD j 0)) = s.map f := by
 apply List.ext_getElem?
 intro i
 rw [xZ, xZ]
 by_cases h : i < s.length
 ·rw [List.getElem?_range h, xF h]
  simp [h]
 ·rw [zG (by simp; omega), zG (by omega)]
  rfl
theorem zF8 (c : UInt8) (h : c.toNat < 128) : (smC c).toNat < 128 := by rw [wG3]; split <;> omega
theorem yE7 (s : List UInt8) (hs : ∀ b ∈ s, b.toNat < 128) (hl : s.length ≤ 1000) : Fn Tryz.prog 138 [.func (.func 188) #[] #[], .string (str s)] [] fun v H' => v = .string (str (s.map smC)) := by
 have h := wG2 s 188 [] (fun _ => []) (fun j => smC (s.getD j 0)) hs hl (fun j => ?_) (fun _ => fun e he => by cases he) (fun j c hc => ?_)
 ·rw [wG1 smC] at h
  exact jP3 h fun v H' hv => hv.1
 ·by_cases hj : j < s.length
  ·exact zF8 _ (by rw [zF, xF hj]; exact hs _ (zQ hj))
  ·rw [zF, zG (by omega)]; decide
 ·rw [show s.getD j 0 = c from by rw [zF, hc]; rfl]
  exact yY2 (zJ5 c)
def tiC (b : Bool) (c : UInt8) : UInt8 := if b = true ∧ 97 ≤ c.toNat ∧ c.toNat ≤ 122 then c - 32 else c
theorem wC7 (b : Bool) (c : UInt8) : (tiC b c).toNat = if b = true ∧ 97 ≤ c.toNat ∧ c.toNat ≤ 122 then c.toNat - 32 else c.toNat := by
 unfold tiC
 split
 ·rename_i h; rw [UInt8.toNat_sub_of_le]; · rfl
  exact UInt8.le_iff_toNat_le.2 (by show 32 ≤ _; omega)
 ·rfl
theorem zJ4 (g : Nat) (b : Bool) (c : UInt8) : Fn Tryz.prog 139 [i32v c, ptr g 0] [.own g 4 [.bool b]] fun v H' => v = i32v (tiC b c) ∧ H' = [.own g 4 [.bool (Nat.beq c.toNat 45)]] := by
 have h := wC7 b c
 have hc := c.toNat_lt
 obtain ⟨k, hk⟩ := xZ9 ((tiC b c).toNat)
 rw [hk] at h
 show Fn Tryz.prog 139 [.int .i32 (c.toNat : Int), ptr g 0] _ fun v H' => v = .int .i32 ((tiC b c).toNat : Int) ∧ _
 rw [hk]
 obtain ⟨n, hn⟩ := xZ9 (c.toNat)
 rw [hn] at h hc ⊢
 have he : ((n : Int) == 45) = Nat.beq n 45 := by rw [lS]; simp; omega
 refine fE 21 Tryz.func139 rfl (fun w0 => aA rfl rfl <| f2K 0 1 rfl <| aR (fun Z hZ => ?_))
 first | refine sL0 0 tyA4 tyS4 ?_
 refine sAN hZ rfl rfl <| f3K 0 1 4 rfl <| aR fun Z hZ => sM rfl rfl <| jB1 ?_
 first | refine sS1 0 rfl rfl rfl tyS4 rfl (by first | (simp only [qS, Nat.reduceAdd]; first | done | rfl) | rfl) (by first | (simp only [qS, Nat.reduceAdd]; first | done | rfl) | rfl) (by first | (simp only [qS]; first | done | rfl) | rfl) ?_
 refine sN (hZ _ _ <| f2K 0 4 rfl ?_)
 rw [he]
 by_cases hb : b = true ∧ 97 ≤ n ∧ n ≤ 122
 ·rw [if_pos hb] at h
  obtain ⟨rfl, hb1, hb2⟩ := hb
  refine aS <| jA0 [(0, .int .i32 (n : Int)), (16, .bool true)] [.own g 4 [.bool (Nat.beq n 45)]] (fun Z hZ => ?_) ?_
  ·refine sM rfl rfl <| sM rfl rfl <| jB9 9 rfl true (by first | rfl | (simp; omega)) ?_
   refine sOn0 ?_
   refine sM rfl rfl <| sOn0 ?_
   refine jH7 rfl rfl rfl <| sP rfl rfl rfl <| sM rfl rfl <| jB9 13 rfl true (by first | rfl | (simp; omega)) ?_
   refine sOn0 ?_
   refine sM rfl rfl <| sOn0 ?_
   refine jI2 rfl rfl rfl <| sP0 ?_
   refine sN (hZ _ _ ?_ ?_)
   ·exact kE rfl (kE (congrArg some (congrArg Value.bool (by simp; omega))) kF)
   ·exact hV _
  refine aC0 (fun h1 => ?_) (fun h1 => ?_)
  ·refine aR (fun Z hZ => sM rfl rfl <| jN0 rfl rfl ((n - 97 : Nat) : Int) (by rw [IntWalk.i32_in _ (by omega)]; omega) rfl ?_)
   refine jB7 rfl rfl ((k : Nat) : Int) (by rw [IntWalk.i32_in _ (by omega)]; omega) rfl ?_
   refine sAN hZ rfl rfl ?_
   refine f1K 3 rfl ?_
   refine aE ?_
   repeat (with_reducible refine nTR ?_)
   exact nR1 rfl rfl ⟨rfl, rfl⟩
  cases h1
 rw [if_neg hb] at h
 subst h
 refine aS <| jA0 [(0, .int .i32 (k : Int)), (16, .bool false)] [.own g 4 [.bool (Nat.beq k 45)]] (fun Z hZ => ?_) ?_
 ·refine sM rfl rfl <| sM rfl rfl <| jB3 9 rfl (fun hb1 => ?_) (fun hb1 => ?_)
  ·refine sOn0 ?_
   refine sM rfl rfl <| sOn0 ?_
   refine jH7 rfl rfl rfl <| sP rfl rfl rfl <| sM rfl rfl <| jB3 13 rfl (fun hb5 => ?_) (fun hb5 => ?_)
   ·refine sOn0 ?_
    refine sM rfl rfl <| sOn0 ?_
    refine jI2 rfl rfl rfl <| sP0 ?_
    refine sN (hZ _ _ ?_ ?_)
    ·exact kE rfl (kE (congrArg some (congrArg Value.bool (by cases b <;> simp at * <;> omega))) kF)
    ·exact hV _
   ·refine sO0 ?_
    refine sO0 ?_
    refine sP0 ?_
    refine sN (hZ _ _ ?_ ?_)
    ·exact kE rfl (kE (congrArg some (congrArg Value.bool (by cases b <;> simp at * <;> omega))) kF)
    ·exact hV _
  ·refine sO0 ?_
   refine sO0 ?_
   refine sP rfl rfl rfl <| sM rfl rfl <| sO0 ?_
   refine sO0 ?_
   refine sP0 ?_
   refine sN (hZ _ _ ?_ ?_)
   ·exact kE rfl (kE (congrArg some (congrArg Value.bool (by cases b <;> simp at * <;> omega))) kF)
   ·exact hV _
 refine aC0 (fun h1 => ?_) (fun h1 => ?_)
 ·cases h1
 refine aK <| nN <| aR fun Z hZ => sM rfl rfl <| sAN hZ rfl rfl <| f1K 3 rfl <| aE <| nR10 ⟨rfl, rfl⟩
def tiB (s : List UInt8) : Nat → Bool
 | 0 => true
 | j + 1 => Nat.beq (s.getD j 0).toNat 45
def titL (s : List UInt8) : List UInt8 := (List.range s.length).map fun j => tiC (tiB s j) (s.getD j 0)
theorem zJ3 (s : List UInt8) (hs : ∀ b ∈ s, b.toNat < 128) (hl : s.length ≤ 1000) : Fn Tryz.prog 76 [.string (str s)] [] fun v _ => v = .string (str (titL s)) := by
 have hlt : ∀ j, (tiC (tiB s j) (s.getD j 0)).toNat < 128 := fun j => by
  have h0 : (s.getD j 0).toNat < 128 := by
   by_cases hj : j < s.length
   ·rw [zF, xF hj]; exact hs _ (zQ hj)
   ·rw [zF, zG (by omega)]; decide
  rw [wC7]; split <;> omega
 refine fE 7 Tryz.func76 rfl (fun w0 => aA rfl rfl <| f1K 0 rfl <| aR (fun Z hZ => sAl tyZ4 rfl (fun g1 => ?_)))
 first | refine sS1 0 rfl rfl rfl tyS4 rfl (by first | (simp only [qS, Nat.reduceAdd]; first | done | rfl) | rfl) (by first | (simp only [qS, Nat.reduceAdd]; first | done | rfl) | rfl) (by first | (simp only [qS]; first | done | rfl) | rfl) ?_
 refine sN (hZ _ _ <| f2K 0 3 rfl ?_)
 have f1 := wG2 s 139 [ptr g1 0] (fun j => [.own g1 4 [.bool (tiB s j)]]) (fun j => tiC (tiB s j) (s.getD j 0)) hs hl hlt (fun _ => fun e he => by rw [List.mem_singleton.1 he]; rfl) (fun j c hc => by
  rw [show s.getD j 0 = c from by rw [zF, hc]; rfl]
  have := zJ4 g1 (tiB s j) c
  have e2 : tiB s (j + 1) = Nat.beq c.toNat 45 := by show Nat.beq (s.getD j 0).toNat 45 = _; rw [show s.getD j 0 = c from by rw [zF, hc]; rfl]
  rw [e2]
  exact this)
 refine aR (fun Z hZ => jL9 rfl rfl <| sM rfl rfl <| jB4 [.own g1 4 [.bool true]] [] f1 rfl (hV _) rfl ?_)
 rintro v H' ⟨rfl, rfl⟩
 refine sAN hZ rfl rfl <| f1K 2 rfl <| aE <| nR10 rfl
def p10L : List Value := [uq 1, uq 10, uq 100, uq 1000]
abbrev TP : Heap := [.ro 1 0 p10L]
theorem jQ4 : Ro TP := fun e he => by rw [List.mem_singleton.1 he]; rfl
theorem zM5 : Lays.n129 Tryz.prog jI8 := by constructor <;> first | kernel_rfl | (intro w; kernel_rfl)
theorem vY6 : Enters Tryz.prog 155 := Enters.mk Tryz.func155 (by kernel_rfl) (by kernel_rfl)
theorem yO3 (x : Nat) (hx : x < 18446744073709551616) : Fn Tryz.prog 155 [uq x] [] fun v _ => v = iq (Lib.bitLen x : Nat) :=
 Fn.of_same vY6 fun w => (Any.bits_Len64 zM5 (x : Int) w (by omega) (by omega)).mono fun e w' ⟨he, hw⟩ => ⟨by rw [he]; rfl, hw.symm⟩
def l10B (n : Nat) : Bool := Nat.blt n 100 || (Nat.beq (Lib.bitLen n * 78913 / 262144) 2 || Nat.beq (Lib.bitLen n * 78913 / 262144) 3)
theorem yW4 : (List.range 1000).all l10B = true := by kernel_rfl
theorem zI4 {n : Nat} (h1 : 100 ≤ n) (h2 : n < 1000) : Lib.bitLen n * 78913 / 262144 = 2 ∨ Lib.bitLen n * 78913 / 262144 = 3 := by
 have := List.all_eq_true.1 yW4 n (List.mem_range.2 h2)
 unfold l10B at this
 simp only [zB, Nat.beq_eq, Nat.blt_eq] at this
 omega
theorem zB9 {n : Nat} (h2 : n < 1000) : Lib.bitLen n ≤ 10 := Lib.bitLen_le n 10 (by omega) (by omega)
theorem zO9 {P : Program} {f : FuncId} {vs : List Value} {T : Heap} {x : Value} (hT : Ro T) (h : Fn P f vs [] fun v _ => v = x) : Fn P f vs T fun v _ => v = x :=
 ⟨h.1, fun w _ => (h.2 w (Sat.nil w)).mono fun e w' he => by
  obtain ⟨v, H', h1, h2, h3⟩ := he
  refine ⟨v, [], h1, h2, ?_⟩
  rw [yJ4 hT]
  exact h3.sub (lO _)⟩
theorem yW3 (k : Nat) (hk : k ≤ 64) : Fn Tryz.prog 276 [iq (k : Nat)] [] fun v _ => v = iq ((k * 78913 / 262144 : Nat) : Int) := by
 refine fE 6 Tryz.func276 rfl (fun w0 => aA rfl rfl <| f1K 0 rfl <| aR fun Z hZ => sM rfl rfl <| kK3 rfl rfl ((k * 78913 : Nat) : Int) (by rw [lT _ (by omega)]; omega) rfl ?_)
 refine yI6 rfl rfl (by decide) ((k * 78913 / 262144 : Nat) : Int) (by show ((k * 78913 : Nat) : Int).fdiv 262144 = _; rw [Int.fdiv_eq_ediv_of_nonneg _ (by omega)]; omega) rfl ?_
 refine sAN hZ rfl rfl <| f1K 2 rfl <| aE <| nR10 rfl
theorem vU4 (b : Bool) : Fn Tryz.prog 277 [.bool b] [] fun v _ => v = iq (if b = true then 1 else 0) := by
 refine fE 4 Tryz.func277 rfl (fun w0 => aA rfl rfl <| f1K 0 rfl <| aS <| aR fun Z hZ => sMN hZ rfl rfl <| f1K 3 rfl <| aC0 (fun h => ?_) (fun h => ?_))
 ·subst h
  refine aA rfl rfl ?_
  refine f1K 2 rfl ?_
  refine aE ?_
  repeat (with_reducible refine nTR ?_)
  exact nR1 rfl rfl rfl
 subst h
 refine aK <| nN <| aA rfl rfl <| f1K 2 rfl <| aE <| nR10 rfl
theorem yV0 (n : Nat) (h1 : 100 ≤ n) (h2 : n < 1000) : Fn Tryz.prog 242 [uq n] TP fun v _ => v = iq 3 := by
 have f1 := yO3 n (by omega)
 have hb := zB9 h2
 have f2 := yW3 (Lib.bitLen n) (by omega)
 rcases zI4 h1 h2 with hk | hk
 ·rw [hk] at f2
  refine fE 15 Tryz.func242 rfl (fun w0 => aA rfl rfl <| f1K 0 rfl <| aR fun Z hZ => sM rfl rfl <| sCP0 f1 ?_)
  refine sCP0 f2 ?_
  refine sAN hZ rfl rfl <| f2K 0 3 rfl <| aR fun Z hZ => sM rfl rfl <| sM rfl rfl <| sM rfl rfl <| jH3 2 Tryz.underlying399 tyS61 rfl rfl (by decide) rfl rfl ?_
  refine jE0 0 rfl rfl 2 rfl tyA61 tyS61 rfl rfl <| jH7 rfl rfl rfl <| sCP0 (vU4 _) ?_
  rw [if_pos (by simp; omega)]
  refine jB7 rfl rfl (3 : Int) (by decide) rfl ?_
  refine sAN hZ rfl rfl <| f1K 2 rfl <| aE <| nR10 rfl
 ·rw [hk] at f2
  refine fE 15 Tryz.func242 rfl (fun w0 => aA rfl rfl <| f1K 0 rfl <| aR fun Z hZ => sM rfl rfl <| sCP0 f1 ?_)
  refine sCP0 f2 ?_
  refine sAN hZ rfl rfl <| f2K 0 3 rfl <| aR fun Z hZ => sM rfl rfl <| sM rfl rfl <| sM rfl rfl <| jH3 3 Tryz.underlying399 tyS61 rfl rfl (by decide) rfl rfl ?_
  refine jE0 0 rfl rfl 3 rfl tyA61 tyS61 rfl rfl <| jH7 rfl rfl rfl <| sCP0 (vU4 _) ?_
  rw [if_neg (by simp; omega)]
  refine jB7 rfl rfl (3 : Int) (by decide) rfl ?_
  refine sAN hZ rfl rfl <| f1K 2 rfl <| aE <| nR10 rfl
def d2T : List UInt8 := (List.range 100).flatMap fun r => [UInt8.ofNat (48 + r / 10), UInt8.ofNat (48 + r % 10)]
def d2B (r : Nat) : Bool := (d2T[2 * r]? == some (UInt8.ofNat (48 + r / 10))) && (d2T[2 * r + 1]? == some (UInt8.ofNat (48 + r % 10)))
theorem zK9 : (List.range 100).all d2B = true := by kernel_rfl
theorem zK8 {l : List UInt8} (hl : l = d2T) {r : Nat} (h : r < 100) : l[2 * r]? = some (UInt8.ofNat (48 + r / 10)) ∧ l[2 * r + 1]? = some (UInt8.ofNat (48 + r % 10)) := by
 subst hl
 have := List.all_eq_true.1 zK9 r (List.mem_range.2 h)
 simpa [d2B] using this
theorem of48 {k : Nat} (h : k < 10) : (UInt8.ofNat (48 + k)).toNat = 48 + k := by rw [UInt8.toNat_ofNat']; omega
def z24 (a b c : Nat) : List Value := [ub 0, ub a, ub b, ub c, ub 0, ub 0, ub 0, ub 0, ub 0, ub 0, ub 0, ub 0, ub 0, ub 0, ub 0, ub 0, ub 0, ub 0, ub 0, ub 0, ub 0, ub 0, ub 0, ub 0]
theorem yZ4 (g n : Nat) (h1 : 100 ≤ n) (h2 : n < 1000) :
  Fn Tryz.prog 243 [.slice (some ⟨g, 1, none⟩) 3 23, uq n] [.own g 366 (z24 0 0 0)] fun v H' => v = .tuple #[] ∧ H' = [.own g 366 (z24 (48 + n / 100) (48 + n % 100 / 10) (48 + n % 10))] := by
 obtain ⟨r, hr⟩ := xZ9 (n % 100)
 have hr100 : r < 100 := by omega
 have e1 : n % 10 = r % 10 := by omega
 rw [hr, e1]
 refine fE 167 Tryz.func243 rfl (fun w0 => aR fun Z hZ => sM rfl rfl <| jE5 Tryz.underlying72 rfl rfl <| sAN hZ rfl rfl <| f3K 0 1 4 rfl <| aS (aB <| jC3 (ι := Unit) (fun _ => [(0, .slice (some ⟨g, 1, none⟩) 3 23), (1, uq n), (4, iq 3)]) (fun _ => [.own g 366 (z24 0 0 0)]) (fun _ => True) (fun _ => 0) () trivial (kR rfl) (hV _) ?_))
 rintro ⟨⟩ _
 refine aS <| aR fun Z hZ => sM rfl rfl <| jH7 rfl rfl rfl <| sN (hZ _ _ <| f4K 0 1 4 20 rfl <| aC0 (fun h3 => ?_) (fun h3 => ?_))
 ·cases h3
 refine jB5 ?_
 repeat (with_reducible refine nTE ?_)
 refine nBE ?_
 refine nN ?_
 refine aR fun Z hZ => sM rfl rfl ?_
 refine jD0 Tryz.underlying61 Tryz.underlying180 rfl ((n : Nat) : Int) (uH _ (by omega)) rfl ?_
 refine sAN hZ rfl rfl <| f3K 0 4 12 rfl <| aS <| aR fun Z hZ => sM rfl rfl <| jH7 rfl rfl rfl <| sN (hZ _ _ <| f4K 0 4 12 99 rfl <| aC0 (fun h4 => ?_) (fun h4 => ?_))
 ·cases h4
 refine aK <| nN <| aS <| aR fun Z hZ => sM rfl rfl <| jH7 rfl rfl rfl <| sN (hZ _ _ <| f4K 0 4 12 139 rfl <| aC0 (fun h5 => ?_) (fun h5 => ?_))
 ·refine aR (fun Z hZ => sM rfl rfl <| vP2 rfl rfl (by decide) ((r : Nat) : Int) (by rw [Int.tmod_eq_emod_of_nonneg (by omega)]; omega) rfl ?_)
  refine kK3 rfl rfl ((2 * r : Nat) : Int) (by rw [uH _ (by omega)]; omega) rfl ?_
  refine sAN hZ rfl rfl <| f4K 0 4 12 16 rfl <| aR fun Z hZ => sM rfl rfl <| vB2 rfl rfl (by decide) ((n / 100 : Nat) : Int) (by rw [Int.tdiv_eq_ediv_of_nonneg (by omega), uH _ (by omega)]; omega) rfl ?_
  refine sAN hZ rfl rfl <| f4K 0 4 12 16 rfl <| jQ3 (fun _ : Unit => [(0, .slice (some ⟨g, 1, none⟩) 3 23), (4, iq 3), (12, .int .u32 ((n / 100 : Nat) : Int))]) (fun _ => [.own g 366 (z24 0 (48 + r / 10) (48 + r % 10))]) (fun _ => True) _ [12, 14] (Tr.step (0, true) (Tr.step (1, true) (Tr.step (2, true) (Tr.step (3, true) (Tr.step (4, true) (Tr.step (5, true) (Tr.step (6, true) (Tr.step (7, true) (Tr.step (8, true) (Tr.step (9, true) (Tr.step (10, true) (Tr.step (11, true) (Tr.step (12, false) (Tr.step (13, true) (Tr.step (14, false) Tr.nil))))))))))))))) jF1 (by kernel_rfl) (HLe.pick [] (by simp) (by simp only [pick, l8, qS]; rfl)) ?_ ?_
  ·refine tt_p rfl <| jA5 ?_
   refine vN <| tt_p rfl <| jA5 ?_
   refine vN <| tt_p rfl <| yI9 rfl rfl (2 : Int) (by decide) rfl ?_
   refine vN <| tt_p rfl <| jA5 ?_
   refine vN <| tt_p rfl <| jA5 ?_
   refine vN <| tt_p rfl <| yI9 rfl rfl (1 : Int) (by decide) rfl ?_
   refine vN <| tt_p rfl <| jA5 ?_
   refine vN <| tt_p rfl <| vP6 rfl rfl ((2 * r + 1 : Nat) : Int) (by rw [uH _ (by omega)]; omega) rfl ?_
   refine vN <| tt_p rfl <| kK9 Tryz.underlying9 rfl rfl (by omega) (by rw [x4]; exact (zK8 (by kernel_rfl) hr100).2) rfl ?_
   refine vN <| tt_p rfl <| jA5 ?_
   refine vN <| tt_p rfl <| kK9 Tryz.underlying9 rfl rfl (by omega) (by rw [x4]; exact (zK8 (by kernel_rfl) hr100).1) rfl ?_
   refine vN <| tt_p rfl <| jH4 3 Tryz.underlying72 tyS5 rfl rfl (by decide) rfl rfl ?_
   refine vN <| tt_g rfl ?_
   first | refine sS1 0 rfl rfl rfl tyS5 rfl (by first | (simp only [qS, Nat.reduceAdd]; first | done | rfl) | rfl) (by first | (simp only [qS, Nat.reduceAdd]; first | done | rfl) | rfl) (by first | (simp only [qS]; first | done | rfl) | rfl) ?_
   refine sN ⟨pH [] rfl, ?_⟩
   refine tt_p rfl <| jH4 2 Tryz.underlying72 tyS5 rfl rfl (by decide) rfl rfl ?_
   refine vN <| tt_g rfl ?_
   first | refine sS1 0 rfl rfl rfl tyS5 rfl (by first | (simp only [qS, Nat.reduceAdd]; first | done | rfl) | rfl) (by first | (simp only [qS, Nat.reduceAdd]; first | done | rfl) | rfl) (by first | (simp only [qS]; first | done | rfl) | rfl) ?_
   refine sN ⟨pH [] rfl, ?_⟩
   refine kK1 ?_
   rw [of48 (by omega), of48 (by omega)]
   exact ⟨(), trivial, kR rfl, hV _⟩
  rintro ⟨⟩ _
  refine aG (fun Z hZ => sM rfl rfl <| jN0 rfl rfl (1 : Int) (by decide) rfl ?_)
  refine sAN hZ rfl rfl <| nF [(0, _), (4, _), (12, _)] (kR rfl) <| nN <| aR fun Z hZ => sM rfl rfl <| jC4 ?_
  refine sN (hZ _ _ <| f3K 0 12 161 rfl <| aC0 (fun h6 => ?_) (fun h6 => ?_))
  ·refine aG (fun Z hZ => ?_)
   refine sM rfl rfl <| sM rfl rfl ?_
   refine jB7 rfl rfl ((48 + n / 100 : Nat) : Int) (by rw [uH _ (by omega)]; omega) rfl ?_
   refine jD0 Tryz.underlying180 Tryz.underlying5 rfl ((48 + n / 100 : Nat) : Int) (IntWalk.u8_in _ (by omega)) rfl ?_
   refine jA8 1 Tryz.underlying72 tyS5 rfl rfl (by decide) rfl rfl ?_
   refine sS10 0 tyS5 ?_
   refine sN (hZ _ _ <| nF [] (kF) <| yU7 rfl ⟨rfl, rfl⟩)
  ·cases h6
 ·cases h5
section
variable {P : Program} {N : Frm} {w0 : World} {Wr : List Nat} {ops : Array Oper} {rest : List Oper} {fr : Fr} {H : Heap} {Z : Fr → Heap → Prop}
variable {d ty : Nat} {pos : String} {after : Array Edge}
theorem kE9 {t e n size i j : Nat} {x : Operand} {lo hi : Option Operand} {g o : Nat} (ht : P.underlying t = some (.array n e)) (hs : tySize P e = some size) (hx : ev fr x = some (ptr g o)) (hl : bnd fr 0 lo = some (i : Int)) (hh : bnd fr (n : Int) hi = some (j : Int)) (h1 : i ≤ j) (h2 : j ≤ n) (h3 : i < n) (hN : bN d N)
  (h : sx P N w0 Wr ops rest ((d, .slice (some ⟨g, o + i * size, none⟩) (j - i) (n - i)) :: fr) H Z) : sx P N w0 Wr ops (⟨some d, .slice t x lo hi none, ty, pos, after, none⟩ :: rest) fr H Z :=
 jE4 _ hN (fun a w ha _ => by
  have hb := jH5 (P := P) (isS := false) (len := n) (cap := n) (w := w) ha hl hh (by omega) (by omega) (by omega)
  have hn' : ¬ n = i := by omega
  simp only [execOp, Instr.sliceAt, ha.eval hx, lJ, run_underlying ht, lR, ptr, Instr.sureAddr, l7, zK, hb, jC5 hs, jG5, x4]
  rw [if_neg hn']) h
end
theorem rd_z {w0 w : World} {Wr : List Nat} {H : Heap} {g : Nat} {t : TypeId} {a b c : UInt8} (hH : H[0]? = some (.own g t (z24 a.toNat b.toNat c.toNat))) (hw : Sat w0 Wr H w) : Rd w 1 (some ⟨g, 1, none⟩) 3 (bv [a, b, c]) :=
 ⟨rfl, fun h => (by cases h), fun _ => ⟨g, 1, rfl, Ent.lt (hw.mem hH), fun j u hu => by
  rw [Ent.cell (hw.mem hH) (1 + j)]
  match j, hu with
  | 0, hu => exact hu
  | 1, hu => exact hu
  | 2, hu => exact hu
  | j + 3, hu => simp [bv] at hu⟩⟩
theorem yY6 (n : Nat) (h1 : 100 ≤ n) (h2 : n < 1000) : Fn Tryz.prog 194 [iq (n : Nat), iq 10] TP fun v _ => v = .string (str (dd n)) := by
 have f1 := yV0 n h1 h2
 have hd : dd n = [UInt8.ofNat (48 + n / 100), UInt8.ofNat (48 + n % 100 / 10), UInt8.ofNat (48 + n % 10)] := by
  rw [jX0 (by omega), jX0 (by omega), jL5 (by omega)]
  rw [show n / 10 / 10 = n / 100 by omega, show n / 10 % 10 = n % 100 / 10 by omega]
  rfl
 refine fE 54 Tryz.func194 rfl (fun w0 => aA rfl rfl <| f2K 0 1 rfl <| aS <| aR fun Z hZ => sM rfl rfl <| jB1 ?_)
 refine sN (hZ _ _ <| f3K 0 1 11 rfl <| aC0 (fun h3 => ?_) (fun h3 => ?_))
 ·refine aS <| jA0 [(0, iq (n : Nat)), (17, .bool false)] TP (fun Z hZ => ?_) ?_
  ·refine sM rfl rfl <| jI2 rfl rfl rfl <| sM rfl rfl <| jB9 14 rfl true (by simp) ?_
   refine sOn0 ?_
   refine sM rfl rfl <| sOn0 ?_
   refine jB0 ?_
   refine sP0 ?_
   refine sN (hZ _ _ ?_ ?_)
   ·exact kE rfl (kE (congrArg some (congrArg Value.bool (by simp; omega))) kF)
   ·exact hV _
  refine aC0 (fun h4 => ?_) (fun h4 => ?_)
  ·cases h4
  refine aK <| nN <| aR (fun Z hZ => sAl tyZ366 rfl (fun g1 => sN (hZ _ _ <| f2K 0 5 rfl <| aR fun Z hZ => sM rfl rfl <| jD0 Tryz.underlying3 Tryz.underlying61 rfl ((n : Nat) : Int) (xK _ (by omega)) rfl ?_)))
  refine sAN hZ rfl rfl <| f3K 0 5 6 rfl <| aS <| aR fun Z hZ => sM rfl rfl <| jB0 ?_
  refine sN (hZ _ _ <| f4K 0 5 6 23 rfl <| aC0 (fun h5 => ?_) (fun h5 => ?_))
  ·simp at h5; omega
  refine aK <| nN <| aR fun Z hZ => sM rfl rfl <| jD7 TP f1 rfl (by repeat (first | exact xO _ | exact lO _ | exact lX _ _ | refine qI ?_ (xE _ _) | exact xJ _ (lO _) | refine qA _ ?_)) jQ4 rfl ?_
  refine sAN hZ rfl rfl ?_
  refine f4K 0 5 6 7 rfl ?_
  refine aR fun Z hZ => sM rfl rfl ?_
  refine jB7 rfl rfl (4 : Int) (by decide) rfl ?_
  refine kE9 (i := 1) (j := 4) Tryz.underlying366 tyS5 rfl rfl rfl (by decide) (by decide) (by decide) rfl ?_
  refine sM rfl rfl <| jB4 [.own g1 366 (z24 0 0 0)] TP (yZ4 g1 n h1 h2) rfl (hV _) rfl ?_
  rintro v H' ⟨rfl, rfl⟩
  refine sN (hZ _ _ <| f3K 0 5 7 rfl <| aS <| aR fun Z hZ => sM rfl rfl <| jB0 ?_)
  refine sN (hZ _ _ <| f3K 5 7 34 rfl <| aC0 (fun h6 => ?_) (fun h6 => ?_))
  ·simp at h6; omega
  refine aK ?_
  refine nN ?_
  refine aR fun Z hZ => sM rfl rfl ?_
  refine jB7 rfl rfl (4 : Int) (by decide) rfl ?_
  refine kE9 (i := 1) (j := 4) Tryz.underlying366 tyS5 rfl rfl rfl (by decide) (by decide) (by decide) rfl ?_
  refine jO9 (l := dd n) Tryz.underlying72 Tryz.underlying5 Tryz.underlying9 rfl (fun w hw => by rw [hd]; exact rd_z (g := g1) (by rw [of48 (by omega), of48 (by omega), of48 (by omega)]; rfl) hw) rfl ?_
  refine sAN hZ rfl rfl ?_
  refine f1K 4 rfl ?_
  refine aE ?_
  repeat (with_reducible refine nTR ?_)
  exact nR1 rfl rfl rfl
 ·cases h3
theorem yX2 (n : Nat) (h1 : 100 ≤ n) (h2 : n < 1000) : Fn Tryz.prog 127 [iq (n : Nat)] TP fun v _ => v = .string (str (dd n)) := by
 have f1 := yY6 n h1 h2
 refine fE 5 Tryz.func127 rfl (fun w0 => aA rfl rfl <| f1K 0 rfl <| aR fun Z hZ => sM rfl rfl <| jD7 TP f1 rfl (by repeat (first | exact xO _ | exact lO _ | exact lX _ _ | refine qI ?_ (xE _ _) | exact xJ _ (lO _) | refine qA _ ?_)) jQ4 rfl ?_)
 refine sAN hZ rfl rfl <| f1K 2 rfl <| aE <| nR10 rfl
theorem yK9 (n : Nat) (h2 : n < 1000) : Fn Tryz.prog 68 [iq (n : Nat)] TP fun v _ => v = .string (str (dd n)) := by
 by_cases h1 : n < 100
 ·exact zO9 jQ4 (yX1 n h1)
 have f1 := yX2 n (by omega) h2
 refine fE 5 Tryz.func68 rfl (fun w0 => aA rfl rfl <| f1K 0 rfl <| aR fun Z hZ => sM rfl rfl <| jD7 TP f1 rfl (by repeat (first | exact xO _ | exact lO _ | exact lX _ _ | refine qI ?_ (xE _ _) | exact xJ _ (lO _) | refine qA _ ?_)) jQ4 rfl ?_)
 refine sAN hZ rfl rfl <| f1K 2 rfl <| aE <| nR10 rfl
theorem vT0 (n : Nat) (h2 : n < 1000) : Fn Tryz.prog 32 [iq (n : Nat)] TP fun v _ => v = .string (str (dd n)) := by
 have f1 := yK9 n h2
 refine fE 7 Tryz.func32 rfl (fun w0 => aA rfl rfl <| f1K 0 rfl <| aS <| aR fun Z hZ => sM rfl rfl <| jB0 ?_)
 refine sN (hZ _ _ <| f2K 0 4 rfl <| aC0 (fun h3 => ?_) (fun h3 => ?_))
 ·simp at h3; omega
 refine aK <| nN <| aR fun Z hZ => sM rfl rfl <| jD7 TP f1 rfl (by repeat (first | exact xO _ | exact lO _ | exact lX _ _ | refine qI ?_ (xE _ _) | exact xJ _ (lO _) | refine qA _ ?_)) jQ4 rfl ?_
 refine sAN hZ rfl rfl <| f1K 2 rfl <| aE <| nR10 rfl
def gapB (b : UInt8) : Bool := Nat.beq b.toNat 32 || Nat.beq b.toNat 9
structure NoGap (v : Bs) : Prop where
 ne : v ≠ []
 hd : ∀ b, v[0]? = some b → gapB b = false
 tl : ∀ b, v[v.length - 1]? = some b → gapB b = false
theorem wM8 {b : UInt8} (h : gapB b = false) : ([32, 9] : Bs).contains b = false := by
 simp only [gapB, Bool.or_eq_false_iff] at h
 have h1 : ¬ b = 32 := fun e => by subst e; simp at h
 have h2 : ¬ b = 9 := fun e => by subst e; simp at h
 simp [h1, h2]
theorem vI1 (x : Bs) {v : Bs} (h : NoGap v) : Lib.trimRightS (x ++ v) [32, 9] = x ++ v := by
 have hl : 0 < v.length := List.length_pos_iff.2 h.ne
 have := Lib.trimRightS_take (x ++ v) [32, 9] (x ++ v).length (xP _) (fun j b hj hb => by have := (List.getElem?_eq_some_iff.1 hb).1; omega) (fun b _ hb => wM8 (h.tl b (by
  rw [lN, qH (by omega), show x.length + v.length - 1 - x.length = v.length - 1 by omega] at hb
  exact hb)))
 rw [this, xY]
theorem yP7 {v : Bs} (h : NoGap v) : Lib.trimLeftS v [32, 9] = v := by
 have := Lib.trimLeftS_drop v [32, 9] 0 (lZ _) (fun j b hj => by omega) (fun b hb => wM8 (h.hd b hb))
 rw [this, lC]
theorem wX5 {v : Bs} (h : NoGap v) : Lib.trimLeftS (32 :: v) [32, 9] = v := by
 have := Lib.trimLeftS_drop (32 :: v) [32, 9] 1 (by simp) (fun j b hj hb => by
  obtain rfl : j = 0 := by omega
  simp at hb
  subst hb
  rfl) (fun b hb => wM8 (h.hd b (by simpa using hb)))
 rw [this, lI, lC]
theorem wX6 {v : Bs} (h : NoGap v) : Lib.trimS v [32, 9] = v := by unfold Lib.trimS; rw [show v = [] ++ v from rfl, vI1 [] h, lE, yP7 h]
theorem wC6 {v : Bs} (h : NoGap v) : Lib.trimS (32 :: v) [32, 9] = v := by unfold Lib.trimS; rw [show (32 :: v : Bs) = [32] ++ v from rfl, vI1 [32] h]; exact wX5 h
theorem asc2 : kS4 [32, 9] := fun j b hb => by
 match j, hb with
 | 0, hb => simp at hb; subst hb; decide
 | 1, hb => simp at hb; subst hb; decide
 | j + 2, hb => simp at hb
theorem zG8 {b : UInt8} (h : plB b = true) : b.toNat < 128 := by simp [plB] at h; omega
theorem yL4 (s : Bs) (h : PlL s) (hl : s.length ≤ 1000000) : Fn Tryz.prog 73 [.string (str s)] [] fun v _ => v = .bool true := by
 have f1 := vD9 s h hl
 refine fE 12 Tryz.func73 rfl (fun w0 => aA rfl rfl <| f1K 0 rfl <| aR fun Z hZ => sM rfl rfl <| sCP0 f1 ?_)
 refine sM rfl rfl <| sX rfl rfl rfl <| sX rfl rfl rfl <| sA rfl rfl <| sAN hZ rfl rfl <| f1K 4 rfl <| aR fun Z hZ => sM rfl rfl <| jA6 ?_
 refine sAN hZ rfl rfl <| f1K 2 rfl <| aE <| nR10 (congrArg Value.bool ?_)
 split <;> rfl
theorem kB6 (N v : Bs) (hN : PlL N) (hc : 58 ∉ N) (hm : zC6 (N.map smC)) (hv : PlL v) (hg : NoGap v) (hl : (N ++ 58 :: 32 :: v).length ≤ 1000) :
  Fn Tryz.prog 118 [.string (str (N ++ 58 :: 32 :: v))] [] fun u _ => u = .tuple #[.agg #[.string (str (N.map smC)), .string (str v)], iq 0] := by
 have hlen : (N ++ 58 :: 32 :: v).length = N.length + 2 + v.length := by rw [lN, lD, lD]; omega
 have f1 := kW0 N (32 :: v) 58 hc (by omega)
 have f2 := yL4 (N ++ 58 :: 32 :: v) (hN.app (PlL.app (a := [58, 32]) rfl hv)) (by omega)
 have f3 := yE7 N (fun b hb => zG8 (hN.mem hb)) (by omega)
 have f4 := wK1 (N.map smC) hm
 have f5 := wC5 (32 :: v) [32, 9] (by rw [lD]; omega) (by decide) asc2
 rw [wC6 hg] at f5
 obtain ⟨s, hs⟩ := xZ9 (N ++ 58 :: 32 :: v)
 rw [hs] at f1 f2 ⊢
 refine fE 31 Tryz.func118 rfl (fun w0 => aR (fun Z hZ => sAl tyZ97 rfl (fun g1 => sAN hZ rfl rfl <| f2K 0 2 rfl <| aR fun Z hZ => sM rfl rfl <| sCP0 f1 ?_)))
 refine sM rfl rfl <| sX rfl rfl rfl <| sX rfl rfl rfl <| sX rfl rfl rfl <| sA rfl rfl <| sA rfl rfl <| sAN hZ rfl rfl <| f5K 0 2 4 5 6 rfl <| aS <| jA0 [(2, ptr g1 0), (4, .string (str N)), (5, .string (str (32 :: v))), (19, .bool false)] [.own g1 97 [.string ⟨#[]⟩, .string ⟨#[]⟩]] (fun Z hZ => ?_) ?_
 ·refine sM rfl rfl <| jE8 rfl rfl <| sM rfl rfl <| jB9 15 rfl false (by rfl) ?_
  refine sOn0 ?_
  refine sM rfl rfl <| sOn0 ?_
  refine sCP0 f2 ?_
  refine sOn0 ?_
  refine jE8 rfl rfl <| sP0 ?_
  refine sN (hZ _ _ ?_ ?_)
  ·exact kR rfl
  ·exact hV _
 refine aC0 (fun h1 => ?_) (fun h1 => ?_)
 ·cases h1
 refine aK <| nN <| aR fun Z hZ => sM rfl rfl <| sCP0 (f3) ?_
 refine sAN hZ rfl rfl <| f3K 2 4 5 rfl <| aS <| aR fun Z hZ => sM rfl rfl <| sCP0 f4 ?_
 refine jE8 rfl rfl <| sN (hZ _ _ <| f4K 2 4 5 25 rfl <| aC0 (fun h2 => ?_) (fun h2 => ?_))
 ·cases h2
 refine aK <| nN <| aR fun Z hZ => sM rfl rfl <| sM rfl rfl <| sCP0 f5 ?_
 refine jB6 tyZ97 tyP97 ?_
 first | refine sS0 0 tyS97 ?_
 refine sAN hZ rfl rfl <| f2K 2 3 rfl <| aE <| jF3 rfl (kH 0 rfl rfl tyA97 tyS97 rfl) rfl rfl
theorem vF2 (n v : Bs) (hn : zC6 n) (hv : PlL v) (hg : NoGap v) (hl : n.length + 2 + v.length ≤ 256) :
  Fn Tryz.prog 34 [.agg #[.string (str n), .string (str v)]] [] fun u _ => u = .tuple #[.string (str (titL n ++ 58 :: 32 :: v)), iq 0] := by
 have hna : ∀ b ∈ n, b.toNat < 128 := fun b hb => wK2 (List.all_eq_true.1 hn.2.2 b hb)
 have htl : (titL n).length = n.length := by simp [titL]
 have f1 := wK1 n hn
 have f2 := yL4 v hv (by omega)
 have f3 := wC5 v [32, 9] (by omega) (by decide) asc2
 rw [wX6 hg] at f3
 have f4 := zJ3 n hna (by omega)
 have f5 := zD9 ((titL n ++ [58, 32]) ++ v) [32, 9] (by simp; omega) (by decide) asc2
 rw [vI1 _ hg] at f5
 have e1 : titL n ++ 58 :: 32 :: v = (titL n ++ [58, 32]) ++ v := by simp
 rw [e1]
 have e2 : ((titL n ++ [58, 32]) ++ v).length = n.length + 2 + v.length := by simp [htl]; omega
 obtain ⟨q, hq⟩ := xZ9 (titL n)
 rw [hq] at f4 f5 e2 htl ⊢
 refine fE 35 Tryz.func34 rfl (fun w0 => aR (fun Z hZ => jB2 (fun g1 => ?_)))
 refine sA rfl rfl <| sAN hZ rfl rfl <| f1K 1 rfl <| aS <| jF0 [(1, ptr g1 0), (22, .bool false)] [.own g1 97 [.string (str n), .string (str v)]] jF1 (by kernel_rfl) (fun Z hZ => ?_) ?_
 ·refine qFA0 kJ5 ?_
  first | refine jA9 0 tyA9 tyS9 ?_
  refine jG2 f1 rfl rfl <| yJ0 rfl rfl <| qM rfl rfl <| jJ1 9 rfl false (by rfl) ?_
  refine jA4 ?_
  refine qFA0 kJ4 ?_
  refine jA4 ?_
  first | refine jA9 0 tyA9 tyS9 ?_
  refine jA4 ?_
  refine jG2 f2 rfl rfl <| jA4 ?_
  refine yJ0 rfl rfl <| jE1 rfl rfl rfl <| qM rfl rfl <| jJ1 15 rfl false (by rfl) ?_
  refine jA4 ?_
  refine qFA0 kJ4 ?_
  refine jA4 ?_
  first | refine jA9 0 tyA9 tyS9 ?_
  refine jA4 ?_
  refine qFA0 kJ4 ?_
  refine jA4 ?_
  first | refine jA9 0 tyA9 tyS9 ?_
  refine jA4 ?_
  refine jG2 f3 rfl rfl <| jA4 ?_
  refine wF3 rfl rfl rfl <| jE1 rfl rfl rfl <| jE9 (hZ _ _ ?_ ?_)
  ·exact kE rfl (kE (congrArg some (congrArg Value.bool (by simp))) kF)
  ·exact hV _
 refine aC0 (fun h1 => ?_) (fun h1 => ?_)
 ·cases h1
 refine aK <| nN <| jC1 jF1 (by kernel_rfl) (fun Z hZ => ?_)
 refine qFA0 kJ5 ?_
 first | refine jA9 0 tyA9 tyS9 ?_
 refine jG2 f4 rfl rfl <| jW9 rfl rfl (by (simp only [qS]; omega)) rfl ?_
 refine qFA0 kJ4 ?_
 first | refine jA9 0 tyA9 tyS9 ?_
 refine jW9 rfl rfl (by (simp only [lN, qS]; omega)) rfl ?_
 refine jG2 f5 rfl rfl <| jB8 rfl rfl <| jE9 (hZ _ _ <| f1K 4 rfl <| aS <| aR fun Z hZ => sM rfl rfl <| jC8 Tryz.underlying9 rfl rfl <| jC4 ?_)
 refine sN (hZ _ _ <| f2K 4 33 rfl <| aC0 (fun h2 => ?_) (fun h2 => ?_))
 ·rw [e2] at h2; simp at h2; omega
 refine aK <| nN <| aR fun Z hZ => sM rfl rfl <| sA rfl rfl <| sAN hZ rfl rfl <| f2K 2 3 rfl <| aE <| jF3 rfl rfl rfl rfl
def fcl (x : Bs × Bs) : List Value := [.string (str x.1), .string (str x.2)]
abbrev fcs (L : List (Bs × Bs)) : List Value := L.flatMap fcl
theorem vL8 (L : List (Bs × Bs)) : (fcs L).length = L.length * 2 := by
 induction L with
 | nil => rfl
 | cons x r ih =>
  show (fcl x ++ fcs r).length = _
  rw [lN, ih]
  simp [fcl]
  omega
theorem wN7 {L : List (Bs × Bs)} {i : Nat} {x : Bs × Bs} (h : L[i]? = some x) : rdV true 2 (fcs L) (i * 2) = some (.agg (fcl x).toArray) := vL5 (f := fcl) (n := 2) (fun _ => rfl) h
theorem kY4 (g o c : Nat) (L : List (Bs × Bs)) (n v : Bs) (k : Nat) (hk : L[k]? = some (n, v)) (hu : ∀ j x, L[j]? = some x → x.1 = n → j = k) (hL : L.length ≤ 100) :
  Fn Tryz.prog 79 [.slice (some ⟨g, o, none⟩) L.length c, .string (str n)] [.ro g o (fcs L)] fun u _ => u = .tuple #[.string (str v), iq 0] := by
 have hkl := (List.getElem?_eq_some_iff.1 hk).1
 refine fE 29 Tryz.func79 rfl (fun w0 => aR fun Z hZ => sA rfl rfl <| sAN hZ rfl rfl <| f2K 0 1 rfl <| aR fun Z hZ => sA rfl rfl <| sAN hZ rfl rfl <| f4K 0 1 6 7 rfl <| aS <| aR fun Z hZ => sM rfl rfl <| jE5 Tryz.underlying50 rfl rfl <| sMN hZ rfl rfl <| f6K 1 6 7 10 11 12 rfl ?_)
 refine aB ?_
 refine jC3 (ι := Nat) (fun i => [(1, .string (str n)), (6, .string (str (if i ≤ k then [] else v))), (7, iq ((if i ≤ k then 6 else 0 : Nat) : Int)), (10, .slice (some ⟨g, o, none⟩) L.length c), (11, iq (L.length : Nat)), (12, iq (i : Nat))]) (fun _ => [.ro g o (fcs L)])
  (fun i => i ≤ L.length) (fun i => L.length - i) 0 (lZ _) (kR rfl) (hV _) ?_
 rintro i hi
 obtain ⟨vi, hvi⟩ := xZ9 ((if i ≤ k then ([] : Bs) else v))
 obtain ⟨ei, hei⟩ := xZ9 ((if i ≤ k then 6 else 0 : Nat))
 refine aF [(1, .string (str n)), (6, .string (str vi)), (7, iq (ei : Nat)), (10, .slice (some ⟨g, o, none⟩) L.length c), (11, iq (L.length : Nat)), (12, iq (i : Nat))] (kE rfl (kE (by rw [← hvi]; rfl) (kE (by rw [← hei]; rfl) (kR rfl)))) ?_
 refine aR (fun Z hZ => jB0 ?_)
 refine sN (hZ _ _ <| f7K 1 6 7 10 11 12 13 rfl <| aS (aC0 (fun h1 => ?_) (fun h1 => ?_)))
 ·have hlt : i < L.length := by simpa using h1
  obtain ⟨x, hx⟩ : ∃ x, L[i]? = some x := ⟨_, xF hlt⟩
  obtain ⟨x1, x2⟩ := x
  have hxu := hu i (x1, x2) hx
  refine aK <| nN <| aS (aB <| aR (fun Z hZ => jA8 (o + i * 2) Tryz.underlying50 tyS97 rfl rfl (by omega) (by simp) rfl ?_))
  refine jE0 0 rfl rfl (i * 2) rfl tyA97 tyS97 (wN7 hx) rfl <| sAl tyZ97 rfl (fun g1 => sS0 0 tyS97 ?_)
  refine sN (hZ _ _ <| f7K 1 6 7 9 10 11 12 rfl <| aB ?_)
  by_cases hik : i = k
  ·subst hik
   rw [hk] at hx
   obtain ⟨rfl, rfl⟩ := Prod.mk.inj (lV hx)
   rw [if_pos (xP _)] at hvi hei
   subst hvi hei
   refine aR (fun Z hZ => sFA0 kJ5 ?_)
   refine sL0 0 tyA9 tyS9 ?_
   refine sM rfl rfl <| jT9 rfl rfl rfl <| sAN hZ rfl rfl <| f8K 1 6 7 9 10 11 12 18 rfl <| aC0 (fun h2 => ?_) (fun h2 => ?_)
   ·simp at h2
   refine aR fun Z hZ => sM rfl rfl <| jB1 ?_
   refine sAN hZ rfl rfl <| f6K 1 9 10 11 12 23 rfl <| aC0 (fun h3 => ?_) (fun h3 => ?_)
   ·cases h3
   refine aG (fun Z hZ => sFA0 kJ4 ?_)
   refine sL0 0 tyA9 tyS9 ?_
   refine sA rfl rfl <| sAN hZ rfl rfl ?_
   refine nF [(1, _), (6, _), (7, _), (10, _), (11, _), (12, _)] (kR rfl) ?_
   repeat (with_reducible refine nBN ?_)
   refine nN ?_
   refine aG (fun Z hZ => ?_)
   refine jB7 rfl rfl ((i + 1 : Nat) : Int) (by rw [lT _ (by omega)]; omega) rfl ?_
   refine sMN hZ rfl rfl <| nF [(1, _), (6, _), (7, _), (10, _), (11, _), (12, _)] (kR rfl) <| jC2 (i + 1) hlt (by omega) (kE rfl (kE (by rw [if_neg (by omega)]; rfl) (kE (by rw [if_neg (by omega)]; rfl) (kR rfl)))) (kC 1 rfl)
  have hne : (x1 != n) = true := by
   rw [bne_iff_ne]
   exact fun e => hik (hxu e)
  refine aR (fun Z hZ => sFA0 kJ5 ?_)
  refine sL0 0 tyA9 tyS9 ?_
  refine sM rfl rfl <| jT9 rfl rfl rfl <| sAN hZ rfl rfl <| f8K 1 6 7 9 10 11 12 18 rfl <| aC0 (fun h2 => ?_) (fun h2 => ?_)
  ·refine aK ?_
   repeat (with_reducible refine nBN ?_)
   refine nN ?_
   refine aG (fun Z hZ => ?_)
   refine jB7 rfl rfl ((i + 1 : Nat) : Int) (by rw [lT _ (by omega)]; omega) rfl ?_
   refine sMN hZ rfl rfl <| nF [(1, _), (6, _), (7, _), (10, _), (11, _), (12, _)] (kR rfl) ?_
   have e1 : (if i + 1 ≤ k then ([] : Bs) else v) = vi := by rw [← hvi]; by_cases h : i ≤ k <;> simp [h, show i + 1 ≤ k ↔ i ≤ k from by omega]
   have e2 : (if i + 1 ≤ k then 6 else 0 : Nat) = ei := by rw [← hei]; by_cases h : i ≤ k <;> simp [h, show i + 1 ≤ k ↔ i ≤ k from by omega]
   exact jC2 (i + 1) hlt (by omega) (kE rfl (kE (by rw [e1]; rfl) (kE (by rw [e2]; rfl) (kR rfl)))) (kC 1 rfl)
  have h3 : (x1 != n) = false := h2
  rw [hne] at h3
  cases h3
 ·refine jB5 ?_
  repeat (with_reducible refine nTE ?_)
  refine nBE ?_
  refine nN ?_
  have hie : i = L.length := by simp at h1; omega
  rw [if_neg (by omega)] at hvi hei
  subst hvi hei
  refine aR fun Z hZ => sM rfl rfl <| sM rfl rfl <| sA rfl rfl <| sAN hZ rfl rfl <| f2K 4 5 rfl <| aE <| jF3 rfl rfl rfl rfl
theorem wN1 (n : Nat) (hn : n ≤ 9007199254740991) : Fn Tryz.prog 123 [.string (str (dd n))] [] fun v _ => v = .tuple #[iq (n : Nat), iq 0] := by
 have hl := kG0 16 n (by omega)
 have f1 := yN4 (dd n) 192 digN wN5 fun b hb => by
  have := List.all_eq_true.1 (kR6 n) b hb
  simp only [digB, xM, Nat.ble_eq] at this
  exact ⟨by omega, by simp [digN]; omega⟩
 have f2 := yM8 (dd n) (by omega) n (yM9 n (by omega))
 obtain ⟨c, r, hcr, hc1, hc2⟩ := wR2 n
 have hz := zA5 n
 have hz0 : n = 0 → (dd n).length = 1 := fun e => by subst e; rw [jL5 (by decide)]; rfl
 rw [hcr] at hl f1 f2 hz hz0 ⊢
 have hcz : 1 < (c :: r).length → ¬ c.toNat = 48 := fun h e => by
  have h0 : c = 48 := UInt8.toNat_inj.1 e
  have h9 := hz0 (hz (by rw [h0]; rfl))
  omega
 have hne : ((c :: r) == []) = false := rfl
 have hz1 : (c :: r)[0]? = some c := rfl
 refine fE 35 Tryz.func123 rfl (fun w0 => aR fun Z hZ => sA rfl rfl <| sAN hZ rfl rfl <| f1K 0 rfl <| aS <| jA0 [(0, .string (str (c :: r))), (22, .bool false)] [] (fun Z hZ => ?_) ?_)
 ·refine sM rfl rfl <| jQ1 rfl rfl rfl <| sM rfl rfl <| jB9 8 rfl false (by rfl) ?_
  refine sOn0 ?_
  refine sM rfl rfl <| sOn0 ?_
  refine sCP0 f1 ?_
  refine sOn0 ?_
  refine jE8 rfl rfl <| sP rfl rfl rfl <| sM rfl rfl <| jB9 13 rfl false (by rfl) ?_
  refine sOn0 ?_
  refine sM rfl rfl <| sOn0 ?_
  refine jC8 Tryz.underlying9 rfl rfl <| sOn0 ?_
  refine jC4 ?_
  refine sOn0 ?_
  refine sM rfl rfl <| jB3 17 rfl (fun hb11 => ?_) (fun hb11 => ?_)
  ·refine sOn0 ?_
   refine sM rfl rfl <| sOn0 ?_
   refine jE6 Tryz.underlying9 rfl rfl (by decide) rfl rfl ?_
   refine sOn0 ?_
   refine jB1 ?_
   refine sOn0 ?_
   refine sP rfl rfl rfl <| sP0 ?_
   refine sN (hZ _ _ ?_ ?_)
   ·exact kE rfl (kE (congrArg some (congrArg Value.bool (by first | rfl | (have h9 := hcz (by simp at hb11 ⊢; omega); simp; omega) | (simp at *; done)))) kF)
   ·exact hV _
  ·refine sO0 ?_
   refine sO0 ?_
   refine sO0 ?_
   refine sOn0 ?_
   refine sP rfl rfl rfl <| sP0 ?_
   refine sN (hZ _ _ ?_ ?_)
   ·exact kE rfl (kE (congrArg some (congrArg Value.bool (by first | rfl | (have h9 := hcz (by simp at hb11 ⊢; omega); simp; omega) | (simp at *; done)))) kF)
   ·exact hV _
 refine aC0 (fun h1 => ?_) (fun h1 => ?_)
 ·cases h1
 refine aK <| nN <| aR fun Z hZ => sM rfl rfl <| sCP0 f2 ?_
 refine sM rfl rfl <| sX rfl rfl rfl <| sX rfl rfl rfl <| sA rfl rfl <| sAN hZ rfl rfl <| f2K 4 5 rfl <| aS <| jA0 [(4, iq (n : Nat)), (33, .bool false)] [] (fun Z hZ => ?_) ?_
 ·refine sM rfl rfl <| wY2 Tryz.underlying86 rfl rfl <| sM rfl rfl <| jB9 30 rfl false (by rfl) ?_
  refine sOn0 ?_
  refine sM rfl rfl <| sOn0 ?_
  refine jC4 ?_
  refine sP0 ?_
  refine sN (hZ _ _ ?_ ?_)
  ·exact kE rfl (kE (congrArg some (congrArg Value.bool (by first | rfl | (simp; omega)))) kF)
  ·exact hV _
 refine aC0 (fun h2 => ?_) (fun h2 => ?_)
 ·cases h2
 refine aK <| nN <| aR fun Z hZ => sM rfl rfl <| sA rfl rfl <| sAN hZ rfl rfl <| f2K 2 3 rfl <| aE <| jF3 rfl rfl rfl rfl
abbrev rgV (a b : Nat) : Value := .agg #[iq (a : Nat), iq (b : Nat)]
theorem kL9 (p x : Bs) : Lib.trimPrefix (p ++ x) p = x ∧ p.isPrefixOf (p ++ x) = true := by
 have h : p.isPrefixOf (p ++ x) = true := List.isPrefixOf_iff_prefix.2 (List.prefix_append p x)
 exact ⟨by simp [Lib.trimPrefix, Lib.hasPrefix, h], h⟩
theorem kL6 (a b : Nat) (h : a ≤ b) (hb : b < 1000) : Fn Tryz.prog 115 [rgV a b] [] fun v _ => v = iq 0 := by
 refine fE 18 Tryz.func115 rfl (fun w0 => aR (fun Z hZ => jB2 (fun g1 => ?_)))
 refine sAN hZ rfl rfl <| f1K 1 rfl <| aS <| jA0 [(17, .bool false)] [] (fun Z hZ => ?_) ?_
 ·refine sFA0 kD1 ?_
  first | refine sL0 0 tyA3 tyS3 ?_
  refine jB0 ?_
  refine sM rfl rfl <| jB9 6 rfl false (by simp; try omega) ?_
  refine sOn0 ?_
  refine sFA0 kD1 ?_
  refine sOn0 ?_
  first | refine sL0 0 tyA3 tyS3 ?_
  refine sOn0 ?_
  refine sFA0 jT2 ?_
  refine sOn0 ?_
  first | refine sL0 0 tyA3 tyS3 ?_
  refine sOn0 ?_
  refine jC4 ?_
  refine sP rfl rfl rfl <| sM rfl rfl <| jB9 13 rfl false (by simp; try omega) ?_
  refine sOn0 ?_
  refine sFA0 jT2 ?_
  refine sOn0 ?_
  first | refine sL0 0 tyA3 tyS3 ?_
  refine sOn0 ?_
  refine jC4 ?_
  refine sP0 ?_
  refine sN (hZ _ _ ?_ ?_)
  ·exact kE (congrArg some (congrArg Value.bool (by simp; omega))) kF
  ·exact kA (lO _)
 refine aC0 (fun h1 => ?_) (fun h1 => ?_)
 ·cases h1
 refine aK <| nN <| aA rfl rfl <| f1K 2 rfl <| aE <| nR10 rfl
theorem vX4 (a b : Nat) (h : a ≤ b) (hb : b < 1000) : Fn Tryz.prog 78 [rgV a b] [] fun v _ => v = iq ((b - a + 1 : Nat) : Int) := by
 have f1 := kL6 a b h hb
 refine fE 12 Tryz.func78 rfl (fun w0 => aR (fun Z hZ => jB2 (fun g1 => ?_)))
 refine sAN hZ rfl rfl <| f1K 1 rfl <| aS <| aR (fun Z hZ => ?_)
 first | refine sLA0 0 tyA54 tyS54 ?_
 refine sCP0 f1 ?_
 refine jA6 ?_
 refine sN (hZ _ _ <| f2K 1 5 rfl <| aC0 (fun h1 => ?_) (fun h1 => ?_))
 ·cases h1
 refine aK <| nN <| aR (fun Z hZ => sFA0 jT2 ?_)
 first | refine sL0 0 tyA3 tyS3 ?_
 refine sFA0 kD1 ?_
 first | refine sL0 0 tyA3 tyS3 ?_
 refine jN0 rfl rfl ((b - a : Nat) : Int) (by rw [lT _ (by omega)]; omega) rfl ?_
 refine jB7 rfl rfl ((b - a + 1 : Nat) : Int) (by rw [lT _ (by omega)]; omega) rfl ?_
 refine sAN hZ rfl rfl <| f1K 2 rfl <| aE <| nR10 rfl
def rtx (a b : Nat) : Bs := dd a ++ 45 :: dd b
theorem dd_3 {n : Nat} (h : n < 1000) : (dd n).length ≤ 3 := kG0 2 n (by omega)
theorem wZ6 (a b : Nat) (ha : a < 1000) (hb : b < 1000) : Fn Tryz.prog 326 [rgV a b] TP fun v _ => v = .string (str (rtx a b)) := by
 have f1 := vT0 a ha
 have f2 := vT0 b hb
 have l1 := dd_3 ha
 have l2 := dd_3 hb
 have e : rtx a b = (dd a ++ [45]) ++ dd b := by simp [rtx]
 rw [e]
 refine fE 11 Tryz.func326 rfl (fun w0 => aR (fun Z hZ => jB2 (fun g1 => ?_)))
 refine sAN hZ rfl rfl <| f1K 1 rfl <| jC1 jF1 (by kernel_rfl) (fun Z hZ => ?_)
 refine qFA0 kD1 ?_
 refine jA9 0 tyA3 tyS3 ?_
 refine kH9 TP f1 rfl (kA (by repeat (first | exact xO _ | exact lO _ | exact lX _ _ | refine qI ?_ (xE _ _) | exact xJ _ (lO _) | refine qA _ ?_))) jQ4 rfl ?_
 refine jW9 rfl rfl (by (simp only [qS]; omega)) rfl ?_
 refine qFA0 jT2 ?_
 refine jA9 0 tyA3 tyS3 ?_
 refine kH9 TP f2 rfl (kA (by repeat (first | exact xO _ | exact lO _ | exact lX _ _ | refine qI ?_ (xE _ _) | exact xJ _ (lO _) | refine qA _ ?_))) jQ4 rfl ?_
 refine jW9 rfl rfl (by (simp only [lN, qS]; omega)) rfl ?_
 refine jB8 rfl rfl <| jE9 (hZ _ _ <| f1K 2 rfl <| aE <| nR10 rfl)
theorem vD0 (a b t : Nat) (h : a ≤ b) (hb : b < t) (ht : t < 1000) : Fn Tryz.prog 143 [.agg #[iq (a : Nat), iq (b : Nat), iq (t : Nat)]] [] fun v _ => v = iq 0 := by
 have f1 := kL6 a b h (by omega)
 refine fE 21 Tryz.func143 rfl (fun w0 => aR (fun Z hZ => jB2 (fun g1 => ?_)))
 refine sAN hZ rfl rfl <| f1K 1 rfl <| aS <| aR (fun Z hZ => sFA0 kG9 ?_)
 first | refine sLA0 0 tyA54 tyS54 ?_
 refine sCP0 f1 ?_
 refine sAN hZ rfl rfl <| f2K 1 3 rfl <| aR fun Z hZ => sM rfl rfl <| jA6 ?_
 refine sN (hZ _ _ <| f3K 1 3 8 rfl <| aC0 (fun h1 => ?_) (fun h1 => ?_))
 ·cases h1
 refine aK <| nN <| aS <| jA0 [(20, .bool false)] [] (fun Z hZ => ?_) ?_
 ·refine sFA0 kG8 ?_
  first | refine sL0 0 tyA3 tyS3 ?_
  refine sFA0 kG9 ?_
  refine sFA0 jT2 ?_
  first | refine sL0 0 tyA3 tyS3 ?_
  refine jI2 rfl rfl rfl <| sM rfl rfl <| jB9 16 rfl false (by simp; try omega) ?_
  refine sOn0 ?_
  refine sFA0 kG8 ?_
  refine sOn0 ?_
  first | refine sL0 0 tyA3 tyS3 ?_
  refine sOn0 ?_
  refine jC4 ?_
  refine sP0 ?_
  refine sN (hZ _ _ ?_ ?_)
  ·exact kE (congrArg some (congrArg Value.bool (by simp; omega))) kF
  ·exact kA (lO _)
 refine aC0 (fun h2 => ?_) (fun h2 => ?_)
 ·cases h2
 refine aK <| nN <| aA rfl rfl <| f1K 2 rfl <| aE <| nR10 rfl
def jF6 (a b t : Nat) : Bs := [98, 121, 116, 101, 115, 32] ++ (rtx a b ++ 47 :: dd t)
theorem yP8 (a b t : Nat) (h : a ≤ b) (hb : b < t) (ht : t < 1000) : Fn Tryz.prog 349 [rgV a b, iq (t : Nat)] TP fun v _ => v = .tuple #[.string (str (jF6 a b t)), iq 0] := by
 have f1 := vD0 a b t h hb ht
 have f2 := wZ6 a b (by omega) (by omega)
 have f3 := vT0 t ht
 have l1 := dd_3 (show a < 1000 by omega)
 have l2 := dd_3 (show b < 1000 by omega)
 have l3 := dd_3 ht
 have lr : (rtx a b).length ≤ 7 := by simp only [rtx, lN, lD]; omega
 have e : jF6 a b t = (([98, 121, 116, 101, 115, 32] ++ rtx a b) ++ [47]) ++ dd t := by simp [jF6]
 rw [e]
 refine fE 25 Tryz.func349 rfl (fun w0 => aR (fun Z hZ => jB2 (fun g1 => ?_)))
 refine sA rfl rfl <| sAN hZ rfl rfl <| f2K 1 2 rfl <| aR (fun Z hZ => sLA0 0 tyA54 tyS54 ?_)
 refine sM rfl rfl <| jB6 tyZ261 tyP261 ?_
 refine sAl tyZ261 rfl (fun g2 => sS0 0 tyS261 ?_)
 refine sN (hZ _ _ <| f1K 6 rfl <| aS <| aR (fun Z hZ => sLA0 0 tyA261 tyS261 ?_))
 refine sCP0 f1 ?_
 refine sAN hZ rfl rfl <| f2K 6 7 rfl <| aR fun Z hZ => sM rfl rfl <| jA6 ?_
 refine sN (hZ _ _ <| f3K 6 7 14 rfl <| aC0 (fun h1 => ?_) (fun h1 => ?_))
 ·cases h1
 refine aK <| nN <| jC1 jF1 (by kernel_rfl) (fun Z hZ => ?_)
 refine qFA0 kG9 ?_
 refine jM6 0 rfl rfl tyA54 tyS54 rfl (by simp only [qS]; rfl) rfl ?_
 refine kH9 TP f2 rfl (kA (by repeat (first | exact xO _ | exact lO _ | exact lX _ _ | refine qI ?_ (xE _ _) | exact xJ _ (lO _) | refine qA _ ?_))) jQ4 rfl ?_
 refine jW9 rfl rfl (by (simp only [qS]; omega)) rfl ?_
 refine jW9 rfl rfl (by (simp only [lN, qS]; omega)) rfl ?_
 refine qFA0 kG8 ?_
 refine jA9 0 tyA3 tyS3 ?_
 refine kH9 TP f3 rfl (kA (by repeat (first | exact xO _ | exact lO _ | exact lX _ _ | refine qI ?_ (xE _ _) | exact xJ _ (lO _) | refine qA _ ?_))) jQ4 rfl ?_
 refine jW9 rfl rfl (by (simp only [lN, qS]; omega)) rfl ?_
 refine jB8 rfl rfl <| jB8 rfl rfl <| jE9 (hZ _ _ <| f2K 4 5 rfl <| aE <| jF3 rfl rfl rfl rfl)
abbrev iqs (L : List Nat) : List Value := L.map fun n => iq (n : Nat)
theorem zP9 : ElemOk Tryz.prog 257 3 1 8 := ElemOk.mk_ (z := iq (0 : Nat)) Tryz.underlying257 (by kernel_rfl) rfl (by omega)
theorem vP5 {L : List Bs} {i : Nat} {x : Bs} (h : L[i]? = some x) : rdV false 1 (svs L) (i * 1) = some (.string (str x)) := by
 show (svs L)[i * 1]? = _
 rw [qN, svs, xZ, h]
 rfl
theorem wJ8 (g c : Nat) (L : List Nat) (hL : L.length ≤ 100) (hn : ∀ n ∈ L, n ≤ 9007199254740991) :
  Fn Tryz.prog 142 [.slice (some ⟨g, 0, none⟩) L.length c] [.ro g 0 (svs (L.map dd))] fun v H' => ∃ A, v = .tuple #[A, iq 0] ∧ RowOk A L.length ∧ H' = rowE A 3 1 (iqs L) := by
 refine fE 29 Tryz.func142 rfl (fun w0 => aR fun Z hZ => sA rfl rfl <| sAN hZ rfl rfl <| f1K 0 rfl <| aA rfl rfl <| f2K 0 4 rfl <| aS <| aR fun Z hZ => sM rfl rfl <| jE5 Tryz.underlying94 rfl rfl <| sMN hZ rfl rfl <| f4K 4 9 10 11 rfl ?_)
 refine aB ?_
 refine jC3 (ι := Nat × Value) (fun i => [(4, i.2), (9, .slice (some ⟨g, 0, none⟩) L.length c), (10, iq (L.length : Nat)), (11, iq (i.1 : Nat))]) (fun i => .ro g 0 (svs (L.map dd)) :: rowE i.2 3 1 (iqs (L.take i.1)))
  (fun i => i.1 ≤ L.length ∧ RowOk i.2 i.1) (fun i => L.length - i.1) (0, .slice none 0 0) ⟨lZ _, kI⟩ (kR rfl) (hV _) ?_
 rintro ⟨i, A⟩ ⟨hi, hA⟩
 simp only at hi hA
 refine aR (fun Z hZ => jB0 ?_)
 refine sN (hZ _ _ <| f5K 4 9 10 11 12 rfl <| aS (aC0 (fun h1 => ?_) (fun h1 => ?_)))
 ·have hlt : i < L.length := by simpa using h1
  obtain ⟨n, hx⟩ : ∃ n, L[i]? = some n := ⟨_, xF hlt⟩
  have hxd : (L.map dd)[i]? = some (dd n) := by rw [xZ, hx]; rfl
  have f1 := wN1 n (hn n (xN hx))
  obtain ⟨A1, c1, rfl, hA1⟩ := hA.form
  refine jA7 (.ro g 0 (svs (L.map dd)) :: rowE (.slice A1 i c1) 3 1 (iqs (L.take i))) (hV _) <| aK <| nN <| aS (aB <| aR (fun Z hZ => jA8 (i * 1) Tryz.underlying94 tyS9 rfl rfl (by omega) (by simp) rfl ?_))
  refine jE0 0 rfl rfl (i * 1) (by omega) tyA9 tyS9 (vP5 hxd) rfl ?_
  refine sAN hZ rfl rfl <| f5K 4 6 9 10 11 rfl <| aR fun Z hZ => sM rfl rfl <| sCP0 f1 ?_
  refine sM rfl rfl <| sX rfl rfl rfl <| sX rfl rfl rfl <| sA rfl rfl <| sAN hZ rfl rfl <| f6K 4 7 8 9 10 11 rfl <| aS <| aR fun Z hZ => sM rfl rfl <| jA6 ?_
  refine sN (hZ _ _ <| f7K 4 7 8 9 10 11 21 rfl <| aC0 (fun h2 => ?_) (fun h2 => ?_))
  ·cases h2
  refine aK <| nN <| aG (fun Z hZ => sM rfl rfl <| sM rfl rfl <| sBS0 Tryz.underlying257 tyS3 tyZ3 (fun g1 => ?_))
  refine jD3 [_, .ro g 0 (svs (L.map dd))] zP9 rfl hA (by simp [xV]; omega) rfl (fun w hw => jI0 (i := 0) (n := 1) (xs := [iq (n : Nat)]) rfl rfl hw) rfl (by show _ ≤ 9223372036854775807; omega) (by omega) (hV _) rfl (fun v2 hv2 => ?_)
  refine sAN hZ rfl rfl ?_
  refine nF [(4, _), (9, _), (10, _), (11, _)] (kR rfl) ?_
  repeat (with_reducible refine nBN ?_)
  refine nN ?_
  refine aG (fun Z hZ => ?_)
  refine jB7 rfl rfl ((i + 1 : Nat) : Int) (by rw [lT _ (by omega)]; omega) rfl ?_
  refine sMN hZ rfl rfl <| nF [(4, _), (9, _), (10, _), (11, _)] (kR rfl) <| jC2 (i + 1, v2) ⟨hlt, hv2⟩ (by simp; omega) (kR rfl) ?_
  simp only
  rw [show iqs (L.take (i + 1)) = iqs (L.take i) ++ [iq (n : Nat)] from by rw [iqs, qC hlt, x0]; simp [(List.getElem?_eq_some_iff.1 hx).2]]
  exact kC 1 rfl
 ·refine jB5 ?_
  repeat (with_reducible refine nTE ?_)
  refine nBE ?_
  refine nN ?_
  have hie : i = L.length := by simp at h1; omega
  subst hie
  rw [xY]
  refine aR fun Z hZ => sM rfl rfl <| sA rfl rfl <| sAN hZ rfl rfl <| f2K 2 3 rfl <| aE <| jD8 _ rfl rfl rfl (kC 1 rfl) ⟨_, rfl, hA, rfl⟩
def eqS : Bs := [98, 121, 116, 101, 115, 61]
def byS : Bs := [98, 121, 116, 101, 115, 32]
theorem no45 (n : Nat) : (45 : UInt8) ∉ dd n := fun h => by have := List.all_eq_true.1 (kR6 n) 45 h; cases this
theorem no47 (n : Nat) : (47 : UInt8) ∉ dd n := fun h => by have := List.all_eq_true.1 (kR6 n) 47 h; cases this
theorem kW3 {a b : Nat} (ha : a < 1000) (hb : b < 1000) : (rtx a b).length ≤ 7 := by
 have l1 := dd_3 ha
 have l2 := dd_3 hb
 simp only [rtx, lN, lD]; omega
theorem yH1 (a b : Nat) (h : a ≤ b) (hb : b < 1000) : Fn Tryz.prog 119 [.string (str (eqS ++ rtx a b))] [] fun v _ => v = .tuple #[rgV a b, iq 0] := by
 have lr := kW3 (show a < 1000 by omega) hb
 have f1 := wR9 (eqS ++ rtx a b) eqS
 rw [(kL9 eqS (rtx a b)).1, (kL9 eqS (rtx a b)).2] at f1
 have f2 := kW0 (dd a) (dd b) 45 (no45 a) (by show (rtx a b).length ≤ _; omega)
 have f3 := fun g => wJ8 g 2 [a, b] (by simp) (fun n hn => by simp at hn; omega)
 have f4 := kL6 a b h hb
 obtain ⟨s, hs⟩ := xZ9 (eqS ++ rtx a b)
 rw [hs] at f1 ⊢
 refine fE 56 Tryz.func119 rfl (fun w0 => aR (fun Z hZ => sAl tyZ54 rfl (fun g1 => sAN hZ rfl rfl <| f2K 0 2 rfl <| aR fun Z hZ => sM rfl rfl <| sCP0 f1 ?_)))
 refine sM rfl rfl <| sX rfl rfl rfl <| sX rfl rfl rfl <| sA rfl rfl <| sAN hZ rfl rfl <| f3K 2 4 5 rfl <| aR fun Z hZ => sM rfl rfl <| sCP0 f2 ?_
 refine sM rfl rfl <| sX rfl rfl rfl <| sX rfl rfl rfl <| sX rfl rfl rfl <| sA rfl rfl <| sA rfl rfl <| sAN hZ rfl rfl <| f5K 2 5 6 7 8 rfl <| aS <| jA0 [(2, ptr g1 0), (6, .string (str (dd a))), (7, .string (str (dd b))), (29, .bool false)] [.own g1 54 [iq 0, iq 0]] (fun Z hZ => ?_) ?_
 ·refine sM rfl rfl <| jE8 rfl rfl <| sM rfl rfl <| jB9 26 rfl false (by rfl) ?_
  refine sOn0 ?_
  refine sM rfl rfl <| sOn0 ?_
  refine jE8 rfl rfl <| sP0 ?_
  refine sN (hZ _ _ ?_ ?_)
  ·exact kR rfl
  ·exact hV _
 refine aC0 (fun h1 => ?_) (fun h1 => ?_)
 ·cases h1
 refine aK <| nN <| aR fun Z hZ => sM rfl rfl <| sM rfl rfl <| sBS0 Tryz.underlying94 tyS9 tyZ9 (fun g2 => ?_)
 refine jC6 [.ro g2 0 (svs ([a, b].map dd)), .own g1 54 [iq 0, iq 0]] (HLe.toRo [] [_]) <| jZ4 [.ro g2 0 (svs ([a, b].map dd))] (f3 g2) rfl (xJ _ (lO _)) (kG (some ⟨g2, 0, none⟩) _) rfl ?_
 rintro v H' ⟨u, rfl, hu, rfl⟩
 rw [jE2]
 obtain ⟨gA, cA, rfl⟩ := hu.some (by simp)
 refine jC6 [.own g1 54 [iq 0, iq 0], .ro gA 0 (iqs [a, b])] ((pH [2, 0] rfl).trans (HLe.rowRo [] _)) <| sM rfl rfl <| sX rfl rfl rfl <| sX rfl rfl rfl <| sA rfl rfl <| sAN hZ rfl rfl <| f3K 2 9 10 rfl <| aS <| aR fun Z hZ => sM rfl rfl <| jA6 ?_
 refine sN (hZ _ _ <| f4K 2 9 10 39 rfl <| aC0 (fun h2 => ?_) (fun h2 => ?_))
 ·cases h2
 refine aK <| nN <| jD5 _ [(0, true), (1, true), (2, true), (3, true), (4, true), (5, true), (6, true), (7, false), (8, false)] jF1 (by kernel_rfl) (HLe.pick [1] (by simp) (by simp only [pick, l8, qS]; rfl)) (fun Z hZ => ?_)
 refine tw_p rfl <| jA5 ?_
 refine vN <| tw_p rfl <| jH4 0 Tryz.underlying257 tyS3 rfl rfl (by simp) rfl rfl ?_
 refine vN <| tw_p rfl <| jU3 0 rfl rfl 0 rfl tyA3 tyS3 rfl rfl <| vN <| tw_p rfl <| jA5 ?_
 refine vN <| tw_p rfl <| jH4 1 Tryz.underlying257 tyS3 rfl rfl (by simp) rfl rfl ?_
 refine vN <| tw_p rfl <| jU3 0 rfl rfl 1 rfl tyA3 tyS3 rfl rfl <| vN <| tw_p rfl <| jZ7 tyZ54 tyP54 rfl rfl (by simp only [qS, Nat.reduceAdd, Value.cells, wrV]; rfl) rfl ?_
 refine vN <| tw_g rfl <| sAl tyZ54 rfl (fun g3 => sN ⟨pH [2] rfl, ?_⟩)
 refine tw_g rfl <| sS0 0 tyS54 ?_
 refine sN ⟨pH [2] rfl, ?_⟩
 refine jH1 (hZ _ _ <| f2K 2 11 rfl <| aS <| aR (fun Z hZ => sLA0 0 tyA54 tyS54 ?_))
 refine sCP0 f4 ?_
 refine sAN hZ rfl rfl <| f3K 2 11 12 rfl <| aR fun Z hZ => sM rfl rfl <| jA6 ?_
 refine sN (hZ _ _ <| f4K 2 11 12 52 rfl <| aC0 (fun h3 => ?_) (fun h3 => ?_))
 ·cases h3
 refine aK <| nN <| aR (fun Z hZ => sLA0 0 tyA54 tyS54 ?_)
 refine sS0 1 tyS54 ?_
 refine sAN hZ rfl rfl <| f2K 2 3 rfl <| aE <| jD8 [] rfl (kH 1 rfl rfl tyA54 tyS54 rfl) rfl (kA (lO _)) rfl
theorem yQ0 (a b t : Nat) (h : a ≤ b) (hb : b < t) (ht : t < 1000) : Fn Tryz.prog 80 [.string (str (jF6 a b t))] [] fun v _ => v = .tuple #[rgV a b, iq (t : Nat), iq 0] := by
 have la := dd_3 (show a < 1000 by omega)
 have lb := dd_3 (show b < 1000 by omega)
 have lt := dd_3 ht
 have hx : jF6 a b t = byS ++ (dd a ++ 45 :: (dd b ++ 47 :: dd t)) := by simp [jF6, byS, rtx]
 have f1 := wR9 (byS ++ (dd a ++ 45 :: (dd b ++ 47 :: dd t))) byS
 rw [(kL9 byS _).1, (kL9 byS _).2] at f1
 have f2 := kW0 (dd a) (dd b ++ 47 :: dd t) 45 (no45 a) (by simp; omega)
 have f2' := kW0 (dd b) (dd t) 47 (no47 b) (by simp; omega)
 have f3 := fun g => wJ8 g 3 [a, b, t] (by simp) (fun n hn => by simp at hn; omega)
 have f4 := vD0 a b t h hb ht
 obtain ⟨s, hs⟩ := xZ9 (byS ++ (dd a ++ 45 :: (dd b ++ 47 :: dd t)))
 rw [hx]
 rw [hs] at f1 ⊢
 refine fE 77 Tryz.func80 rfl (fun w0 => aR (fun Z hZ => sAl tyZ54 rfl (fun g1 => sA rfl rfl <| sAN hZ rfl rfl <| f2K 0 2 rfl <| aR fun Z hZ => sM rfl rfl <| sCP0 f1 ?_)))
 refine sM rfl rfl <| sX rfl rfl rfl <| sX rfl rfl rfl <| sA rfl rfl <| sAN hZ rfl rfl <| f3K 2 5 6 rfl <| aR fun Z hZ => sM rfl rfl <| sCP0 f2 ?_
 refine sM rfl rfl <| sX rfl rfl rfl <| sX rfl rfl rfl <| sX rfl rfl rfl <| sA rfl rfl <| sA rfl rfl <| sAN hZ rfl rfl <| f5K 2 5 6 7 8 rfl <| aR fun Z hZ => sM rfl rfl <| sCP0 f2' ?_
 refine sM rfl rfl <| sX rfl rfl rfl <| sX rfl rfl rfl <| sX rfl rfl rfl <| sA rfl rfl <| sA rfl rfl <| sAN hZ rfl rfl <| f7K 2 6 7 8 9 10 11 rfl <| aS <| jA0 [(2, ptr g1 0), (7, .string (str (dd a))), (9, .string (str (dd b))), (10, .string (str (dd t))), (42, .bool false)] [.own g1 54 [iq 0, iq 0]] (fun Z hZ => ?_) ?_
 ·refine sM rfl rfl <| jE8 rfl rfl <| sM rfl rfl <| jB9 35 rfl false (by rfl) ?_
  refine sOn0 ?_
  refine sM rfl rfl <| sOn0 ?_
  refine jE8 rfl rfl <| sP rfl rfl rfl <| sM rfl rfl <| jB9 39 rfl false (by rfl) ?_
  refine sOn0 ?_
  refine sM rfl rfl <| sOn0 ?_
  refine jE8 rfl rfl <| sP0 ?_
  refine sN (hZ _ _ ?_ ?_)
  ·exact kR rfl
  ·exact hV _
 refine aC0 (fun h1 => ?_) (fun h1 => ?_)
 ·cases h1
 refine aK <| nN <| aR fun Z hZ => sM rfl rfl <| sM rfl rfl <| sM rfl rfl <| sBS0 Tryz.underlying94 tyS9 tyZ9 (fun g2 => ?_)
 refine jC6 [.ro g2 0 (svs ([a, b, t].map dd)), .own g1 54 [iq 0, iq 0]] (HLe.toRo [] [_]) <| jZ4 [.ro g2 0 (svs ([a, b, t].map dd))] (f3 g2) rfl (xJ _ (lO _)) (kG (some ⟨g2, 0, none⟩) _) rfl ?_
 rintro v H' ⟨u, rfl, hu, rfl⟩
 rw [jE2]
 obtain ⟨gA, cA, rfl⟩ := hu.some (by simp)
 refine jC6 [.own g1 54 [iq 0, iq 0], .ro gA 0 (iqs [a, b, t])] ((pH [2, 0] rfl).trans (HLe.rowRo [] _)) <| sM rfl rfl <| sX rfl rfl rfl <| sX rfl rfl rfl <| sA rfl rfl <| sAN hZ rfl rfl <| f3K 2 12 13 rfl <| aS <| aR fun Z hZ => sM rfl rfl <| jA6 ?_
 refine sN (hZ _ _ <| f4K 2 12 13 53 rfl <| aC0 (fun h2 => ?_) (fun h2 => ?_))
 ·cases h2
 refine aK <| nN <| jD5 _ [(0, true), (1, true), (2, true), (3, true), (4, true), (5, true), (6, true), (7, true), (8, true), (9, true), (10, true), (11, false), (12, false)] jF1 (by kernel_rfl) (HLe.pick [1] (by simp) (by simp only [pick, l8, qS]; rfl)) (fun Z hZ => ?_)
 refine tw_p rfl <| jA5 ?_
 refine vN <| tw_p rfl <| jH4 0 Tryz.underlying257 tyS3 rfl rfl (by simp) rfl rfl ?_
 refine vN <| tw_p rfl <| jU3 0 rfl rfl 0 rfl tyA3 tyS3 rfl rfl <| vN <| tw_p rfl <| jA5 ?_
 refine vN <| tw_p rfl <| jH4 1 Tryz.underlying257 tyS3 rfl rfl (by simp) rfl rfl ?_
 refine vN <| tw_p rfl <| jU3 0 rfl rfl 1 rfl tyA3 tyS3 rfl rfl <| vN <| tw_p rfl <| jZ7 tyZ54 tyP54 rfl rfl (by simp only [qS, Nat.reduceAdd, Value.cells, wrV]; rfl) rfl ?_
 refine vN <| tw_p rfl <| jA5 ?_
 refine vN <| tw_p rfl <| jH4 2 Tryz.underlying257 tyS3 rfl rfl (by simp) rfl rfl ?_
 refine vN <| tw_p rfl <| jU3 0 rfl rfl 2 rfl tyA3 tyS3 rfl rfl <| vN <| tw_p rfl <| jZ7 tyZ261 tyP261 rfl rfl (by simp only [qS, Nat.reduceAdd, Value.cells, wrV]; rfl) rfl ?_
 refine vN <| tw_g rfl <| sAl tyZ261 rfl (fun g3 => sN ⟨pH [2] rfl, ?_⟩)
 refine tw_g rfl <| sS0 0 tyS261 ?_
 refine sN ⟨pH [2] rfl, ?_⟩
 refine jH1 (hZ _ _ <| f2K 2 14 rfl <| aS <| aR (fun Z hZ => sLA0 0 tyA261 tyS261 ?_))
 refine sCP0 f4 ?_
 refine sAN hZ rfl rfl <| f3K 2 14 15 rfl <| aR fun Z hZ => sM rfl rfl <| jA6 ?_
 refine sN (hZ _ _ <| f4K 2 14 15 70 rfl <| aC0 (fun h3 => ?_) (fun h3 => ?_))
 ·cases h3
 refine aK <| nN <| jD5 _ [(0, true), (1, true), (2, true), (3, true), (4, false), (5, true), (6, true)] jF1 (by kernel_rfl) (HLe.pick [0] (by simp) (by simp only [pick, l8, qS]; rfl)) (fun Z hZ => ?_)
 refine tw_p rfl <| jA3 kG9 ?_
 refine vN <| tw_p rfl ?_
 first | refine jL1 0 rfl rfl tyA54 tyS54 rfl (by simp only [qS]; rfl) rfl ?_
 refine vN <| tw_p rfl <| jA3 kG8 ?_
 refine vN <| tw_p rfl ?_
 first | refine jD6 0 rfl rfl tyA3 tyS3 rfl rfl ?_
 refine vN <| tw_g rfl <| sS0 1 tyS54 ?_
 refine sN ⟨pH [0] rfl, ?_⟩
 refine tw_p rfl <| jE3 rfl rfl <| vN <| tw_p rfl <| jE3 rfl rfl <| vN <| jH1 (hZ _ _ <| f3K 2 3 4 rfl <| aE <| jF8 [] rfl (kH 1 rfl rfl tyA54 tyS54 rfl) rfl rfl (kA (lO _)) rfl)
theorem zB7 (a b t : Nat) (h : a ≤ b) (hb : b < t) (ht : t < 1000) : Fn Tryz.prog 189 [rgV a b, iq (t : Nat)] [] fun v _ => v = .tuple #[rgV a b, iq 0] := by
 have f1 := kL6 a b h (by omega)
 refine fE 25 Tryz.func189 rfl (fun w0 => aR (fun Z hZ => jB2 (fun g1 => ?_)))
 refine sAl tyZ54 rfl (fun g2 => sAN hZ rfl rfl <| f3K 1 2 4 rfl <| aS <| aR (fun Z hZ => sLA0 1 tyA54 tyS54 ?_))
 refine sCP0 f1 ?_
 refine sAN hZ rfl rfl <| f4K 1 2 4 6 rfl <| aR fun Z hZ => sM rfl rfl <| jA6 ?_
 refine sN (hZ _ _ <| f5K 1 2 4 6 10 rfl <| aC0 (fun h1 => ?_) (fun h1 => ?_))
 ·cases h1
 refine aK <| nN <| aS <| aR (fun Z hZ => sFA0 kD1 ?_)
 refine sL0 1 tyA3 tyS3 ?_
 refine sM rfl rfl <| jH7 rfl rfl rfl <| sN (hZ _ _ <| f4K 1 2 4 16 rfl <| aC0 (fun h2 => ?_) (fun h2 => ?_))
 ·simp at h2; omega
 refine aK <| nN <| aR (fun Z hZ => sFA0 jT2 ?_)
 refine sL0 1 tyA3 tyS3 ?_
 refine sM rfl rfl <| jN0 rfl rfl ((t - 1 : Nat) : Int) (by rw [lT _ (by omega)]; omega) rfl ?_
 refine zE6 rfl rfl ((b : Nat) : Int) (by omega) rfl ?_
 refine sFA0 jT2 ?_
 refine sS10 1 tyS3 ?_
 refine sN (hZ _ _ <| f2K 2 4 rfl <| aR (fun Z hZ => sLA0 1 tyA54 tyS54 ?_))
 refine sS0 0 tyS54 ?_
 refine sAN hZ rfl rfl <| f2K 4 5 rfl <| aE <| jF3 rfl (kH 0 rfl rfl tyA54 tyS54 rfl) rfl rfl
theorem wE2 {P : Program} {N : Frm} {w0 : World} {Wr : List Nat} {ops : Array Oper} {rest : List Oper} {fr : Fr} {H : Heap} {Z : Fr → Heap → Prop} {ty : Nat} {pos : String} {after : Array Edge}
  {f : FuncId} {caps : List Value} {x : Operand} {xs : List Operand} {vs : List Value} {ts : Array TypeId} {dst : Option Nat} {R : Value → Heap → Prop} (Hc U K : Heap) (hc : Fn P f (vs ++ caps) (Hc ++ U) R) (hf : ev fr x = some (.func (.func f) #[] caps.toArray)) (hx : evs fr xs = some vs) (hH : HLe (Hc ++ K) H) (hU : U.Sublist K) (hroU : Ro U) (hN : dstB N dst = true)
  (h : ∀ v H', R v H' → sx P N w0 Wr ops rest (match dst with | some d => (d, v) :: fr | none => fr) (H'.filter Ent.wr ++ K) Z) :
  sx P N w0 Wr ops (⟨dst, .call { callee := .value x, args := xs.toArray, argTypes := ts }, ty, pos, after, none⟩ :: rest) fr H Z :=
 kK6 (R := fun v H2 => ∃ H', R v H' ∧ H2 = H'.filter Ent.wr ++ K) hc.1 hf hx hN (fun w hw => by
  have hw' := hH _ _ _ hw
  have hpre : Sat w (wrs (Hc ++ U)) (Hc ++ U) w := by
   have hsub := hw'.sub (uE hU Hc)
   exact ⟨Only.refl _ _, fun e he => ⟨(hsub.ents e he).1, fun h => .inl (mem_wrs.2 ⟨e, he, h, rfl⟩)⟩, hsub.sep⟩
  exact (hc.2 w hpre).mono fun e w' he => by
   obtain ⟨v, H', h1, h2, h3⟩ := he
   exact ⟨v, _, h1, ⟨H', h2, rfl⟩, hw'.callA hroU h3⟩) (fun v H2 hR => by obtain ⟨H', hR, rfl⟩ := hR; exact h v H' hR)
abbrev rqV (p h : Bs) (a b : Nat) : Value := .agg #[.string (str p), .string (str h), iq (a : Nat), iq (b : Nat)]
theorem vG9 (p h : Bs) (hp : p.length ≤ 1000000) (hh : h.length ≤ 1000000) : ∃ ok : Bool, (ok = true → jQ5 p ∧ jP6 h) ∧ (jQ5 p → jP6 h → ok = true) ∧ Fn Tryz.prog 52 [rqV p h 0 0] [] fun v _ => v = iq ((if ok = true then 0 else 2 : Nat) : Int) := by
 obtain ⟨b1, p1, p2, f1⟩ := vU9 p hp
 obtain ⟨b2, h1, h2, f2⟩ := vV1 h hh
 have f3 := kL6 0 0 (xP _) (by decide)
 refine ⟨b1 && b2, fun e => ?_, fun e1 e2 => ?_, ?_⟩
 ·rw [xM] at e; exact ⟨p1 e.1, h1 e.2⟩
 ·rw [p2 e1, h2 e2]; rfl
 refine fE 16 Tryz.func52 rfl (fun w0 => aR (fun Z hZ => jB2 (fun g1 => ?_)))
 refine sAN hZ rfl rfl <| f1K 1 rfl <| aS <| jA0 [(1, ptr g1 0), (12, .bool (!(b1 && b2)))] [.own g1 81 [.string (str p), .string (str h), iq 0, iq 0]] (fun Z hZ => ?_) ?_
 ·refine sFA0 vH4 ?_
  first | refine sL0 0 tyA9 tyS9 ?_
  refine sCP0 f1 ?_
  refine jE8 rfl rfl <| sM rfl rfl <| jB3 7 rfl (fun hb4 => ?_) (fun hb4 => ?_)
  ·refine sO0 ?_
   refine sO0 ?_
   refine sO0 ?_
   refine sO0 ?_
   refine sP0 ?_
   refine sN (hZ _ _ ?_ ?_)
   ·exact kE rfl (kE (congrArg some (congrArg Value.bool (by cases b1 <;> cases b2 <;> first | rfl | (simp at *)))) kF)
   ·exact hV _
  ·refine sOn0 ?_
   refine sFA0 kT8 ?_
   refine sOn0 ?_
   first | refine sL0 0 tyA9 tyS9 ?_
   refine sOn0 ?_
   refine sCP0 f2 ?_
   refine sOn0 ?_
   refine jE8 rfl rfl <| sP0 ?_
   refine sN (hZ _ _ ?_ ?_)
   ·exact kE rfl (kE (congrArg some (congrArg Value.bool (by cases b1 <;> cases b2 <;> first | rfl | (simp at *)))) kF)
   ·exact hV _
 cases hb : b1 && b2 with
 | false =>
  refine aC0 (fun hc => ?_) (fun hc => ?_)
  ·refine aR (fun Z hZ => ?_)
   refine sAN hZ rfl rfl ?_
   refine f1K 2 rfl ?_
   refine aE ?_
   repeat (with_reducible refine nTR ?_)
   exact nR1 rfl rfl rfl
  cases hc
 | true =>
  refine aC0 (fun hc => ?_) (fun hc => ?_)
  ·cases hc
  refine aK <| nN <| aR (fun Z hZ => sFA0 vH3 ?_)
  first | refine sLA0 0 tyA54 tyS54 ?_
  refine sCP0 f3 ?_
  refine sAN hZ rfl rfl <| f1K 2 rfl <| aE <| nR10 rfl
def getS : Bs := [71, 69, 84]
def htpS : Bs := [72, 84, 84, 80, 47, 49, 46, 49]
def getL (p : Bs) : Bs := getS ++ 32 :: (p ++ 32 :: htpS)
abbrev rdE (g : Nat) (A F : Value) (p h : Bs) (a b : Nat) : Ent := .own g 138 [A, F, .string (str p), .string (str h), iq (a : Nat), iq (b : Nat)]
theorem no32 {p : Bs} (h : jQ5 p) : (32 : UInt8) ∉ p := fun hm => by
 have := List.all_eq_true.1 h.2.2 32 hm
 cases this
theorem wU7 (g gl c : Nat) (F : Value) (p l1 l2 : Bs) (hp : jQ5 p) :
  Fn Tryz.prog 58 [ptr g 0] ([rdE g (.slice (some ⟨gl, 0, none⟩) 3 c) F [] [] 0 0] ++ [.ro gl 0 (svs [getL p, l1, l2])]) fun v H' => v = iq 0 ∧ H' = [rdE g (.slice (some ⟨gl, 0, none⟩) 3 c) F p [] 0 0] := by
 have hpl := hp.2.1
 have f1 := wW6 getS p htpS (by decide) (no32 hp) (by decide) (by simp [getS, htpS]; omega)
 obtain ⟨b1, p1, p2, f2⟩ := vU9 p (by omega)
 rw [p2 hp] at f2
 refine fE 44 Tryz.func58 rfl (fun w0 => aA rfl rfl <| f1K 0 rfl <| aS <| aR fun Z hZ => sM rfl rfl <| jA1 ?_)
 refine sFA0 kU4 ?_
 refine sL0 0 tyA94 tyS94 ?_
 refine jE5 Tryz.underlying94 rfl rfl <| jB1 ?_
 refine sN (hZ _ _ <| f2K 0 9 rfl <| aC0 (fun h1 => ?_) (fun h1 => ?_))
 ·cases h1
 refine aK <| nN <| aR fun Z hZ => sM rfl rfl <| jA1 ?_
 refine sFA0 kU4 ?_
 refine sL0 0 tyA94 tyS94 ?_
 refine jA8 0 Tryz.underlying94 tyS9 rfl rfl (by decide) rfl rfl ?_
 refine jE0 1 rfl rfl 0 rfl tyA9 tyS9 rfl rfl <| jB4 [] ([rdE g (.slice (some ⟨gl, 0, none⟩) 3 c) F [] [] 0 0] ++ [.ro gl 0 (svs [getL p, l1, l2])]) f1 rfl (hV _) rfl ?_
 rintro v H' ⟨gw, rfl, rfl⟩
 refine jC6 [rdE g (.slice (some ⟨gl, 0, none⟩) 3 c) F [] [] 0 0, .own gw 9 (svs [getS, p, htpS])] (pH [1, 0] rfl) <| sAN hZ rfl rfl <| f2K 0 3 rfl <| aS (aB <| aR fun Z hZ => sM rfl rfl <| jE5 Tryz.underlying94 rfl rfl <| jA6 ?_)
 refine sAN hZ rfl rfl <| f3K 0 3 17 rfl <| aC0 (fun h2 => ?_) (fun h2 => ?_)
 ·cases h2
 refine aR fun Z hZ => sM rfl rfl <| jA8 0 Tryz.underlying94 tyS9 rfl rfl (by decide) rfl rfl ?_
 refine sL0 1 tyA9 tyS9 ?_
 refine jT9 rfl rfl rfl <| sAN hZ rfl rfl <| f3K 0 3 21 rfl <| aC0 (fun h3 => ?_) (fun h3 => ?_)
 ·cases h3
 refine aR fun Z hZ => sM rfl rfl <| jA8 2 Tryz.underlying94 tyS9 rfl rfl (by decide) rfl rfl ?_
 refine sL0 1 tyA9 tyS9 ?_
 refine jT9 rfl rfl rfl <| sAN hZ rfl rfl <| f3K 0 3 26 rfl <| aC0 (fun h4 => ?_) (fun h4 => ?_)
 ·cases h4
 refine aR fun Z hZ => sM rfl rfl <| jA8 1 Tryz.underlying94 tyS9 rfl rfl (by decide) rfl rfl ?_
 refine sL0 1 tyA9 tyS9 ?_
 refine sCP0 f2 ?_
 refine jE8 rfl rfl <| sAN hZ rfl rfl <| f3K 0 3 31 rfl <| aC0 (fun h5 => ?_) (fun h5 => ?_)
 ·cases h5
 refine aK ?_
 repeat (with_reducible refine nBN ?_)
 refine nN ?_
 refine aR fun Z hZ => sM rfl rfl <| sM rfl rfl ?_
 refine jA8 1 Tryz.underlying94 tyS9 rfl rfl (by decide) rfl rfl ?_
 refine sL0 1 tyA9 tyS9 ?_
 refine jA1 ?_
 refine sFA0 jZ0 ?_
 refine sFA0 vH4 ?_
 refine sS10 0 tyS9 ?_
 refine sN (hZ _ _ <| aF [] (kF) <| aA rfl rfl <| f1K 2 rfl <| aE <| jD9 _ rfl rfl (kA (xE [_] [_])) ⟨rfl, rfl⟩)
theorem yF3 : ElemOk Tryz.prog 50 97 2 32 := ElemOk.mk_ (z := .agg #[.string ⟨#[]⟩, .string ⟨#[]⟩]) Tryz.underlying50 (by kernel_rfl) rfl (by omega)
abbrev Lf := List (Bs × (Bs × Bs))
def LfOk (M : Lf) : Prop := ∀ x ∈ M, Fn Tryz.prog 118 [.string (str x.1)] [] fun v _ => v = .tuple #[.agg #[.string (str x.2.1), .string (str x.2.2)], iq 0]
theorem wU2 (g gl c : Nat) (l0 : Bs) (M : Lf) (hM : LfOk M) (hl : M.length ≤ 20) (hcap : M.length + 1 ≤ c) (p h : Bs) (a b : Nat) :
  Fn Tryz.prog 59 [ptr g 0] ([rdE g (.slice (some ⟨gl, 0, none⟩) (M.length + 1) c) (.slice none 0 0) p h a b] ++ [.ro gl 0 (svs (l0 :: M.map Prod.fst))]) fun v H' => v = iq 0 ∧ ∃ u, RowOk u M.length ∧ H' = [rdE g (.slice (some ⟨gl, 0, none⟩) (M.length + 1) c) u p h a b] ++ rowE u 97 2 (fcs (M.map Prod.snd)) := by
 refine fE 36 Tryz.func59 rfl (fun w0 => aA rfl rfl <| f1K 0 rfl <| aS <| aR fun Z hZ => sM rfl rfl <| jA1 ?_)
 refine sFA0 kU4 ?_
 refine sL0 0 tyA94 tyS94 ?_
 refine jR6 Tryz.underlying94 tyS9 rfl rfl rfl (by omega) (by omega) (by omega) rfl (fun o1 ho1 => ?_)
 refine jE5 Tryz.underlying94 rfl rfl <| sMN hZ rfl rfl <| f4K 0 11 12 13 rfl <| aB ?_
 refine jC3 (ι := Nat × Value) (fun i => [(0, ptr g 0), (11, .slice (some ⟨gl, o1, none⟩) M.length (c - 1)), (12, iq (M.length : Nat)), (13, iq (i.1 : Nat))]) (fun i => [rdE g (.slice (some ⟨gl, 0, none⟩) (M.length + 1) c) i.2 p h a b, .ro gl 0 (svs (l0 :: M.map Prod.fst))] ++ rowE i.2 97 2 (fcs ((M.take i.1).map Prod.snd)))
  (fun i => i.1 ≤ M.length ∧ RowOk i.2 i.1) (fun i => M.length - i.1) (0, .slice none 0 0) ⟨lZ _, kI⟩ (kE rfl (kE (by simp; rfl) (kE (by simp; rfl) (kE rfl kF)))) (hV _) ?_
 rintro ⟨i, u⟩ ⟨hi, hu⟩
 simp only at hi hu
 obtain ⟨A1, c1, rfl, hA1⟩ := hu.form
 refine jA7 ([rdE g (.slice (some ⟨gl, 0, none⟩) (M.length + 1) c) (.slice A1 i c1) p h a b, .ro gl 0 (svs (l0 :: M.map Prod.fst))] ++ rowE (.slice A1 i c1) 97 2 (fcs ((M.take i).map Prod.snd))) (hV _) <| aR (fun Z hZ => jB0 ?_)
 refine sN (hZ _ _ <| f5K 0 11 12 13 14 rfl <| aS (aC0 (fun h1 => ?_) (fun h1 => ?_)))
 ·have hlt : i < M.length := by simpa using h1
  obtain ⟨x, hx⟩ : ∃ x, M[i]? = some x := ⟨_, xF hlt⟩
  have hf := hM x (xN hx)
  have hxl : (l0 :: M.map Prod.fst)[i + 1]? = some x.1 := by rw [xC, xZ, hx]; rfl
  obtain rfl := ho1 (by omega)
  obtain ⟨xl, xf⟩ := x
  refine aK <| nN <| aS (aB <| aR (fun Z hZ => jA8 (i + 1) Tryz.underlying94 tyS9 rfl rfl (by omega) (by simp; omega) rfl ?_))
  refine jE0 1 rfl rfl ((i + 1) * 1) (by omega) tyA9 tyS9 (vP5 hxl) rfl ?_
  refine sAN hZ rfl rfl <| f5K 0 4 11 12 13 rfl <| aR fun Z hZ => sM rfl rfl <| sCP0 hf ?_
  refine sM rfl rfl <| sX rfl rfl rfl <| sX rfl rfl rfl <| sAl tyZ97 rfl (fun g1 => sS0 0 tyS97 ?_)
  refine sAN hZ rfl rfl <| f6K 0 5 6 11 12 13 rfl <| aS <| aR fun Z hZ => sM rfl rfl <| jA6 ?_
  refine sN (hZ _ _ <| f7K 0 5 6 11 12 13 23 rfl <| aC0 (fun h2 => ?_) (fun h2 => ?_))
  ·cases h2
  refine aK <| nN <| jR2 _ [(0, true), (1, true), (2, true), (3, true), (4, true), (5, true), (6, false), (7, false), (8, true), (9, true)] 10 rfl jF1 (by kernel_rfl) (HLe.pick [0, 1] (by simp) (by simp only [pick, l8, qS]; rfl)) (fun Z hZ => ?_)
  refine tw_p rfl <| jA5 ?_
  refine vN <| tw_p rfl <| jA5 ?_
  refine vN <| tw_p rfl <| jC0 rfl rfl <| vN <| tw_p rfl <| jA3 kH0 ?_
  refine vN <| tw_p rfl <| jD6 1 rfl rfl tyA50 tyS50 rfl rfl <| vN <| tw_p rfl <| jL1 0 rfl rfl tyA97 tyS97 rfl (by simp only [qS]; rfl) rfl ?_
  refine vN <| tw_g rfl <| sBS0 Tryz.underlying50 tyS97 tyZ97 (fun g2 => ?_)
  refine sN ⟨pH [1, 2] rfl, ?_⟩
  refine tw_g rfl <| jD3 [_, .own g1 97 [.string (str xf.1), .string (str xf.2)], rdE g (.slice (some ⟨gl, 0, none⟩) (M.length + 1) c) (.slice A1 i c1) p h a b, .ro gl 0 (svs (l0 :: M.map Prod.fst))] yF3 rfl hu (by rw [vL8, qY, xV]; omega) rfl (fun w hw => jI0 (i := 0) (xs := fcl xf) rfl rfl hw) rfl (by show _ ≤ 9223372036854775807; omega) (by omega) (hV _) rfl (fun v2 hv2 => ?_)
  obtain ⟨A2, c2, rfl, hA2⟩ := hv2.form
  refine sN ⟨pH [1, 2] rfl, ?_⟩
  refine tw_p rfl <| jC0 rfl rfl <| vN <| tw_p rfl <| jA3 kH0 ?_
  refine vN <| jH1 <| sS10 2 tyS50 ?_
  refine sN (hZ _ _ ?_)
  refine nF [(0, _), (11, _), (12, _), (13, _)] (kR rfl) ?_
  repeat (with_reducible refine nBN ?_)
  refine nN ?_
  refine aG (fun Z hZ => ?_)
  refine jB7 rfl rfl ((i + 1 : Nat) : Int) (by rw [lT _ (by omega)]; omega) rfl ?_
  refine sMN hZ rfl rfl <| nF [(0, _), (11, _), (12, _), (13, _)] (kR rfl) <| jC2 (i + 1, .slice A2 (i + 1) c2) ⟨hlt, hv2⟩ (by simp; omega) (kR rfl) ?_
  simp only
  rw [show fcs ((M.take (i + 1)).map Prod.snd) = fcs ((M.take i).map Prod.snd) ++ fcl xf from by rw [qC hlt, x0, fcs, zI]; simp [(List.getElem?_eq_some_iff.1 hx).2]]
  exact kC 2 rfl
 ·refine jB5 ?_
  repeat (with_reducible refine nTE ?_)
  refine nBE ?_
  refine nN ?_
  have hie : i = M.length := by simp at h1; omega
  subst hie
  rw [xY]
  refine aA rfl rfl <| f1K 2 rfl <| aE <| jD9 _ rfl rfl (kA (xJ _ (qX _ _))) ⟨rfl, _, hu, rfl⟩
theorem yG8 (g : Nat) (A : Value) (gf cf : Nat) (fl : List (Bs × Bs)) (k : Nat) (p h : Bs) (hh : jP6 h) (hk : fl[k]? = some ([104, 111, 115, 116], h)) (hu : ∀ j x, fl[j]? = some x → x.1 = [104, 111, 115, 116] → j = k) (hl : fl.length ≤ 20) :
  Fn Tryz.prog 60 [ptr g 0] ([rdE g A (.slice (some ⟨gf, 0, none⟩) fl.length cf) p [] 0 0] ++ [.ro gf 0 (fcs fl)]) fun v H' => v = iq 0 ∧ H' = [rdE g A (.slice (some ⟨gf, 0, none⟩) fl.length cf) p h 0 0] := by
 have hhl := hh.2.1
 have f1 := kY4 gf 0 cf fl [104, 111, 115, 116] h k hk hu (by omega)
 obtain ⟨b1, p1, p2, f2⟩ := vV1 h (by omega)
 rw [p2 hh] at f2
 refine fE 25 Tryz.func60 rfl (fun w0 => aA rfl rfl <| f1K 0 rfl <| aS <| aR fun Z hZ => sM rfl rfl <| sM rfl rfl <| jA1 ?_)
 refine sFA0 kH0 ?_
 refine sL0 0 tyA50 tyS50 ?_
 refine jD7 [.ro gf 0 (fcs fl)] f1 rfl (by repeat (first | exact xO _ | exact lO _ | exact lX _ _ | refine qI ?_ (xE _ _) | exact xJ _ (lO _) | refine qA _ ?_)) (kG (some ⟨gf, 0, none⟩) _) rfl ?_
 refine sM rfl rfl <| sX rfl rfl rfl <| sX rfl rfl rfl <| jA1 ?_
 refine sFA0 jZ0 ?_
 refine sFA0 kT8 ?_
 refine sS10 0 tyS9 ?_
 refine sAN hZ rfl rfl <| f2K 0 2 rfl <| aR fun Z hZ => sM rfl rfl <| jA6 ?_
 refine sN (hZ _ _ <| f3K 0 2 16 rfl <| aC0 (fun h1 => ?_) (fun h1 => ?_))
 ·cases h1
 refine aK <| nN <| aS <| aR fun Z hZ => sM rfl rfl <| jA1 ?_
 refine sFA0 jZ0 ?_
 refine sFA0 kT8 ?_
 refine sL0 0 tyA9 tyS9 ?_
 refine sCP0 f2 ?_
 refine jE8 rfl rfl <| sN (hZ _ _ <| f1K 24 rfl <| aC0 (fun h2 => ?_) (fun h2 => ?_))
 ·cases h2
 refine aK <| nN <| aA rfl rfl <| f1K 2 rfl <| aE <| jD9 _ rfl rfl (kA (xE [_] [_])) ⟨rfl, rfl⟩
theorem yG9 (g : Nat) (A : Value) (gf cf : Nat) (fl : List (Bs × Bs)) (k : Nat) (p h : Bs) (a b : Nat) (hab : a ≤ b) (hb : b < 1000) (hk : fl[k]? = some ([114, 97, 110, 103, 101], eqS ++ rtx a b)) (hu : ∀ j x, fl[j]? = some x → x.1 = [114, 97, 110, 103, 101] → j = k) (hl : fl.length ≤ 20) :
  Fn Tryz.prog 61 [ptr g 0] ([rdE g A (.slice (some ⟨gf, 0, none⟩) fl.length cf) p h 0 0] ++ [.ro gf 0 (fcs fl)]) fun v H' => v = iq 0 ∧ H' = [rdE g A (.slice (some ⟨gf, 0, none⟩) fl.length cf) p h a b] := by
 have f1 := kY4 gf 0 cf fl [114, 97, 110, 103, 101] (eqS ++ rtx a b) k hk hu (by omega)
 have f2 := yH1 a b hab hb
 refine fE 26 Tryz.func61 rfl (fun w0 => aA rfl rfl <| f1K 0 rfl <| aR fun Z hZ => sM rfl rfl <| jA1 ?_)
 refine sFA0 kH0 ?_
 refine sL0 0 tyA50 tyS50 ?_
 refine jD7 [.ro gf 0 (fcs fl)] f1 rfl (by repeat (first | exact xO _ | exact lO _ | exact lX _ _ | refine qI ?_ (xE _ _) | exact xJ _ (lO _) | refine qA _ ?_)) (kG (some ⟨gf, 0, none⟩) _) rfl ?_
 refine sM rfl rfl <| sX rfl rfl rfl <| sX rfl rfl rfl <| sA rfl rfl <| sAN hZ rfl rfl <| f3K 0 3 4 rfl <| aS <| aR fun Z hZ => sM rfl rfl <| jA6 ?_
 refine sN (hZ _ _ <| f4K 0 3 4 14 rfl <| aC0 (fun h1 => ?_) (fun h1 => ?_))
 ·cases h1
 refine aK <| nN <| aR fun Z hZ => sM rfl rfl <| sM rfl rfl <| sCP0 f2 ?_
 refine sM rfl rfl <| sX rfl rfl rfl <| sX rfl rfl rfl <| jA1 ?_
 refine sFA0 jZ0 ?_
 refine sFA0 vH3 ?_
 refine sS0 0 tyS54 ?_
 refine sAN hZ rfl rfl <| f1K 4 rfl <| aR fun Z hZ => sM rfl rfl <| sAN hZ rfl rfl <| f1K 2 rfl <| aE <| jD9 _ rfl rfl (kA (xE [_] [_])) ⟨rfl, rfl⟩
def vE7 (h : Bs) : Bs := [72, 111, 115, 116] ++ 58 :: 32 :: h
def kF5 (a b : Nat) : Bs := [82, 97, 110, 103, 101] ++ 58 :: 32 :: (eqS ++ rtx a b)
def reqL (p h : Bs) (a b : Nat) : List Bs := [getL p, vE7 h, kF5 a b]
def reqB (p h : Bs) (a b : Nat) : Bs := hdB (reqL p h a b)
theorem yL3 {b : UInt8} (h1 : ¬ b.toNat = 32) (h2 : ¬ b.toNat = 9) : (!gapB b) = true := by
 have e1 : Nat.beq b.toNat 32 = false := by
  cases h : Nat.beq b.toNat 32 with
  | false => rfl
  | true => exact absurd (x6 h) h1
 have e2 : Nat.beq b.toNat 9 = false := by
  cases h : Nat.beq b.toNat 9 with
  | false => rfl
  | true => exact absurd (x6 h) h2
 unfold gapB
 rw [e1, e2]
 rfl
theorem kM2 {v : Bs} (hne : v ≠ []) (hv : v.all (fun c => !gapB c) = true) : NoGap v :=
 ⟨hne, fun b hb => by simpa using List.all_eq_true.1 hv b (xN hb), fun b hb => by simpa using List.all_eq_true.1 hv b (xN hb)⟩
theorem wM1 {h : Bs} (hh : jP6 h) : PlL h := List.all_eq_true.2 fun b hb => by
 have := List.all_eq_true.1 hh.2.2 b hb
 simp [hstN] at this
 simp [plB]
 omega
theorem yD6 {h : Bs} (hh : jP6 h) : NoGap h := kM2 hh.1 (List.all_eq_true.2 fun b hb => by
 have := List.all_eq_true.1 hh.2.2 b hb
 simp [hstN] at this
 exact yL3 (by omega) (by omega))
theorem yU1 {p : Bs} (hp : jQ5 p) : PlL p := List.all_eq_true.2 fun b hb => by
 have := List.all_eq_true.1 hp.2.2 b hb
 simp [pthN] at this
 simp [plB]
 omega
theorem zA6 (n : Nat) : (dd n).all (fun c => !gapB c) = true := List.all_eq_true.2 fun b hb => by
 have := List.all_eq_true.1 (kR6 n) b hb
 simp [digB] at this
 exact yL3 (by omega) (by omega)
theorem wH3 (a b : Nat) : PlL (rtx a b) := (vZ1 a).app (PlL.app (a := [45]) rfl (vZ1 b))
theorem yS5 (a b : Nat) : (rtx a b).all (fun c => !gapB c) = true := by
 unfold rtx
 rw [List.all_append, zA6, List.all_cons, zA6]
 rfl
theorem zJ8 (a b : Nat) : NoGap (eqS ++ rtx a b) := kM2 (by simp [eqS]) (by rw [List.all_append, yS5]; rfl)
theorem yL2 {p : Bs} (hp : jQ5 p) : LnOk (getL p) := ⟨PlL.app (a := getS) rfl (PlL.app (a := [32]) rfl ((yU1 hp).app (PlL.app (a := [32]) rfl (show PlL htpS from rfl)))), by simp [getL, getS], by have := hp.2.1; simp [getL, getS, htpS]; omega⟩
theorem wM2 {h : Bs} (hh : jP6 h) : LnOk (vE7 h) := ⟨PlL.app (a := [72, 111, 115, 116]) rfl (PlL.app (a := [58, 32]) rfl (wM1 hh)), by simp [vE7], by have := hh.2.1; simp [vE7]; omega⟩
theorem vQ8 {a b : Nat} (ha : a < 1000) (hb : b < 1000) : LnOk (kF5 a b) := ⟨PlL.app (a := [82, 97, 110, 103, 101]) rfl (PlL.app (a := [58, 32]) rfl (PlL.app (a := eqS) rfl (wH3 a b))), by simp [kF5], by have := kW3 ha hb; simp [kF5, eqS]; omega⟩
theorem yX3 {h : Bs} (hh : jP6 h) : Fn Tryz.prog 118 [.string (str (vE7 h))] [] fun v _ => v = .tuple #[.agg #[.string (str [104, 111, 115, 116]), .string (str h)], iq 0] :=
 kB6 [72, 111, 115, 116] h rfl (by decide) ⟨by decide, by decide, by decide⟩ (wM1 hh) (yD6 hh) (by have := hh.2.1; simp; omega)
theorem yA4 {a b : Nat} (ha : a < 1000) (hb : b < 1000) : Fn Tryz.prog 118 [.string (str (kF5 a b))] [] fun v _ => v = .tuple #[.agg #[.string (str [114, 97, 110, 103, 101]), .string (str (eqS ++ rtx a b))], iq 0] :=
 kB6 [82, 97, 110, 103, 101] (eqS ++ rtx a b) rfl (by decide) ⟨by decide, by decide, by decide⟩ (PlL.app (a := eqS) rfl (wH3 a b)) (zJ8 a b) (by have := kW3 ha hb; simp [eqS]; omega)
abbrev reqF (h : Bs) (a b : Nat) : List (Bs × Bs) := [([104, 111, 115, 116], h), ([114, 97, 110, 103, 101], eqS ++ rtx a b)]
def reqM (h : Bs) (a b : Nat) : Lf := [(vE7 h, ([104, 111, 115, 116], h)), (kF5 a b, ([114, 97, 110, 103, 101], eqS ++ rtx a b))]
theorem yT1 {h : Bs} {a b : Nat} (hh : jP6 h) (ha : a < 1000) (hb : b < 1000) : LfOk (reqM h a b) := fun x hx => by
 rcases List.mem_cons.1 hx with rfl | hx
 ·exact yX3 hh
 ·rw [List.mem_singleton.1 hx]; exact yA4 ha hb
def stW (g : Nat) (A : Value) (p h : Bs) (a b : Nat) : Nat → Value → Heap
 | 0, _ => [rdE g A (.slice none 0 0) [] [] 0 0]
 | 1, _ => [rdE g A (.slice none 0 0) p [] 0 0]
 | 2, u => [rdE g A u p [] 0 0] ++ rowE u 97 2 (fcs (reqF h a b))
 | 3, u => [rdE g A u p h 0 0] ++ rowE u 97 2 (fcs (reqF h a b))
 | _, u => [rdE g A u p h a b] ++ rowE u 97 2 (fcs (reqF h a b))
def stF : Nat → FuncId
 | 0 => 58
 | 1 => 59
 | 2 => 60
 | _ => 61
theorem wN3 {P : Program} {f : FuncId} {vs : List Value} {R : Value → Heap → Prop} (Hc U K : Heap) (h : Fn P f vs (Hc ++ U) R) (hle : HLe (Hc ++ U) (Hc ++ K)) (hro : Ro U) : Fn P f vs (Hc ++ K) fun v H2 => ∃ H', R v H' ∧ H2 = H'.filter Ent.wr ++ K :=
 ⟨h.1, fun w hw => (h.2 w (by
  have h1 := hle _ _ _ hw
  exact ⟨Only.refl _ _, fun e he => ⟨(h1.ents e he).1, fun hh => .inl (mem_wrs.2 ⟨e, he, hh, rfl⟩)⟩, h1.sep⟩)).mono fun e w' he => by
  obtain ⟨v, H', h1, h2, h3⟩ := he
  exact ⟨v, _, h1, ⟨H', h2, rfl⟩, hw.callA hro h3⟩⟩
theorem yR0 (g gl c : Nat) (hc : 3 ≤ c) (p h : Bs) (a b : Nat) (hp : jQ5 p) (hh : jP6 h) (hab : a ≤ b) (hb : b < 1000) (i : Nat) (u : Value) (hi : i < 4) (hu : 2 ≤ i → RowOk u 2) :
  Fn Tryz.prog (stF i) [ptr g 0] (stW g (.slice (some ⟨gl, 0, none⟩) 3 c) p h a b i u ++ [.ro gl 0 (svs (reqL p h a b))]) fun v H' => v = iq 0 ∧ ∃ u', RowOk u' (if 1 ≤ i then 2 else 0) ∧ H'.filter Ent.wr = stW g (.slice (some ⟨gl, 0, none⟩) 3 c) p h a b (i + 1) u' := by
 match i, hi with
 | 0, _ => exact jP3 (wU7 g gl c (.slice none 0 0) p (vE7 h) (kF5 a b) hp) fun v H' hv => ⟨hv.1, .slice none 0 0, kI, by rw [hv.2]; rfl⟩
 | 1, _ =>
  refine jP3 (wU2 g gl c (getL p) (reqM h a b) (yT1 hh (by omega) hb) (by simp [reqM]) hc p [] 0 0) fun v H' hv => ?_
  obtain ⟨h1, u', hu', rfl⟩ := hv
  exact ⟨h1, u', hu', by rw [qJ, jE2]; rfl⟩
 | 2, _ =>
  obtain ⟨gf, cf, rfl⟩ := (hu (xP _)).some (by decide)
  have h1 := yG8 g (.slice (some ⟨gl, 0, none⟩) 3 c) gf cf (reqF h a b) 0 p h hh rfl (fun j x hj hx => by
   match j, hj with
   | 0, _ => rfl
   | 1, hj => obtain rfl := lV hj; cases hx
   | j + 2, hj => simp at hj) (by simp)
  have h2 := wN3 [rdE g (.slice (some ⟨gl, 0, none⟩) 3 c) (.slice (some ⟨gf, 0, none⟩) 2 cf) p [] 0 0] [.ro gf 0 (fcs (reqF h a b))] (rowE (.slice (some ⟨gf, 0, none⟩) 2 cf) 97 2 (fcs (reqF h a b)) ++ [.ro gl 0 (svs (reqL p h a b))]) h1 ((kA (xE [_, _] [_])).trans (HLe.rowRo [_] [_])) (kG (some ⟨gf, 0, none⟩) _)
  refine jP3 h2 fun v H' hv => ?_
  obtain ⟨H2, ⟨rfl, rfl⟩, rfl⟩ := hv
  exact ⟨rfl, .slice (some ⟨gf, 0, none⟩) 2 cf, RowOk.mk _ _ _, rfl⟩
 | 3, _ =>
  obtain ⟨gf, cf, rfl⟩ := (hu (by decide)).some (by decide)
  have h1 := yG9 g (.slice (some ⟨gl, 0, none⟩) 3 c) gf cf (reqF h a b) 1 p h a b hab hb rfl (fun j x hj hx => by
   match j, hj with
   | 0, hj => obtain rfl := lV hj; cases hx
   | 1, _ => rfl
   | j + 2, hj => simp at hj) (by simp)
  have h2 := wN3 [rdE g (.slice (some ⟨gl, 0, none⟩) 3 c) (.slice (some ⟨gf, 0, none⟩) 2 cf) p h 0 0] [.ro gf 0 (fcs (reqF h a b))] (rowE (.slice (some ⟨gf, 0, none⟩) 2 cf) 97 2 (fcs (reqF h a b)) ++ [.ro gl 0 (svs (reqL p h a b))]) h1 ((kA (xE [_, _] [_])).trans (HLe.rowRo [_] [_])) (kG (some ⟨gf, 0, none⟩) _)
  refine jP3 h2 fun v H' hv => ?_
  obtain ⟨H2, ⟨rfl, rfl⟩, rfl⟩ := hv
  exact ⟨rfl, .slice (some ⟨gf, 0, none⟩) 2 cf, RowOk.mk _ _ _, rfl⟩
abbrev fnV (f : FuncId) : Value := .func (.func f) #[] #[]
abbrev stC : List Value := [fnV (stF 0), fnV (stF 1), fnV (stF 2), fnV (stF 3)]
theorem zF4 {i : Nat} (hi : i < 4) : rdV true 1 stC (i * 1) = some (.agg #[fnV (stF i)]) := by
 match i, hi with
 | 0, _ => rfl
 | 1, _ => rfl
 | 2, _ => rfl
 | 3, _ => rfl
theorem kI3 (p h : Bs) (a b : Nat) (hp : jQ5 p) (hh : jP6 h) (ha : a < 1000) (hb : b < 1000) : (reqB p h a b).length ≤ 1000 := by
 have h1 := (yL2 hp).le
 have h2 := (wM2 hh).le
 have h3 := (vQ8 ha hb).le
 simp only [reqB, reqL, jS2, kM6, lN, qS]
 omega
theorem kN6 (s u v p h : Bs) (a b : Nat) (hp : jQ5 p) (hh : jP6 h) (hab : a ≤ b) (hb : b < 1000) (hs : s.length ≤ 1000000) (hc : s ++ u = reqB p h a b ++ v) :
  Fn Tryz.prog 22 [.string (str s)] [] fun w _ => w = if s.length < (reqB p h a b).length then .tuple #[rqV [] [] 0 0, iq 0, iq 3] else .tuple #[rqV p h a b, iq ((reqB p h a b).length : Nat), iq 0] := by
 have hd := wM4 s (reqL p h a b) u v hs (fun l hl => by
  simp only [reqL, lW, List.not_mem_nil, or_false] at hl
  rcases hl with rfl | rfl | rfl
  ·exact yL2 hp
  ·exact wM2 hh
  ·exact vQ8 (by omega) hb) (by simp [reqL]) hc
 by_cases hlt : s.length < (reqB p h a b).length
 ·have hd1 : Fn Tryz.prog 57 [.string (str s)] [] fun w _ => w = .tuple #[.slice none 0 0, iq 0, iq 3] := jP3 hd fun w H' hw => by
   rcases hw with ⟨_, h1, _⟩ | ⟨h1, _⟩
   ·exact h1
   ·exact absurd hlt (by show ¬ s.length < (hdB (reqL p h a b)).length; omega)
  simp only [if_pos hlt]
  refine fE 47 Tryz.func22 rfl (fun w0 => aR (fun Z hZ => sAl tyZ81 rfl (fun g1 => sA rfl rfl <| sAN hZ rfl rfl <| f2K 0 2 rfl <| aR fun Z hZ => sM rfl rfl <| sCP0 hd1 ?_)))
  refine sM rfl rfl <| sX rfl rfl rfl <| sX rfl rfl rfl <| sX rfl rfl rfl <| sA rfl rfl <| sA rfl rfl <| sAN hZ rfl rfl <| f4K 2 3 4 5 rfl <| aS <| aR fun Z hZ => sM rfl rfl <| jA6 ?_
  refine sN (hZ _ _ <| f5K 2 3 4 5 17 rfl <| aC0 (fun h1 => ?_) (fun h1 => ?_))
  ·refine aR (fun Z hZ => jB6 tyZ81 tyP81 ?_)
   refine sM rfl rfl ?_
   first | refine sS0 0 tyS81 ?_
   refine sA rfl rfl <| sAN hZ rfl rfl ?_
   refine f3K 2 3 4 rfl ?_
   refine aE ?_
   repeat (with_reducible refine nTR ?_)
   exact jN6 rfl (kH 0 rfl rfl tyA81 tyS81 rfl) rfl rfl rfl
  cases h1
 have hd1 : Fn Tryz.prog 57 [.string (str s)] [] fun w H' => ∃ A, w = .tuple #[A, iq ((reqB p h a b).length : Nat), iq 0] ∧ RowOk A 3 ∧ H' = rowE A 9 1 (svs (reqL p h a b)) := jP3 hd fun w H' hw => by
  rcases hw with ⟨h1, _⟩ | ⟨_, h1⟩
  ·exact absurd h1 hlt
  ·exact h1
 simp only [if_neg hlt]
 obtain ⟨n, hn⟩ := xZ9 ((reqB p h a b).length)
 rw [hn] at hd1 ⊢
 refine fE 47 Tryz.func22 rfl (fun w0 => aR (fun Z hZ => sAl tyZ81 rfl (fun g1 => sA rfl rfl <| sAN hZ rfl rfl <| f2K 0 2 rfl <| aR fun Z hZ => sM rfl rfl <| jB4 [] [.own g1 81 [.string (str []), .string (str []), iq 0, iq 0]] hd1 rfl (hV _) rfl ?_)))
 rintro w H' ⟨A, rfl, hA, rfl⟩
 rw [jE2]
 obtain ⟨gl, c, rfl⟩ := hA.some (by decide)
 refine sM rfl rfl <| sX rfl rfl rfl <| sX rfl rfl rfl <| sX rfl rfl rfl <| sA rfl rfl <| sA rfl rfl <| sAN hZ rfl rfl <| f4K 2 3 4 5 rfl <| jW4 (fun w hw => row_cap hA (fun x hx => xI _ hx) hw) (fun hcap => jA7 [.own g1 81 [.string (str []), .string (str []), iq 0, iq 0], .ro gl 0 (svs (reqL p h a b))] ((kD [.ro gl 0 (svs (reqL p h a b))] [_]).trans (HLe.rowRo [] [_])) ?_)
 have hst := fun g i u hi hu => yR0 g gl c hcap.1 p h a b hp hh hab hb i u hi hu
 refine aS <| aR fun Z hZ => sM rfl rfl <| jA6 ?_
 refine sN (hZ _ _ <| f5K 2 3 4 5 17 rfl <| aC0 (fun h1 => ?_) (fun h1 => ?_))
 ·cases h1
 refine aK <| nN <| aR fun Z hZ => sM rfl rfl <| jB6 tyZ138 tyP138 ?_
 refine jB2 (fun g2 => ?_)
 refine sAN hZ rfl rfl <| f3K 2 3 6 rfl <| aS <| aR (fun Z hZ => jB6 tyZ141 tyP141 ?_)
 refine jB6 tyZ141 tyP141 ?_
 refine jB6 tyZ141 tyP141 ?_
 refine jB6 tyZ141 tyP141 ?_
 refine sBS0 Tryz.underlying142 tyS141 tyZ141 (fun g3 => ?_)
 refine jE5 Tryz.underlying142 rfl rfl <| sMN hZ rfl rfl <| f6K 2 3 6 27 28 29 rfl <| jA7 (stW g2 (.slice (some ⟨gl, 0, none⟩) 3 c) p h a b 0 (.slice none 0 0) ++ [.ro g3 0 stC, .own g1 81 [.string (str []), .string (str []), iq 0, iq 0], .ro gl 0 (svs (reqL p h a b))]) ((pH [1, 0, 2, 3] rfl).trans (HLe.toRo [] _)) <| aB ?_
 refine jC3 (ι := Nat × Value) (fun i => [(2, ptr g1 0), (3, iq (n : Nat)), (6, ptr g2 0), (27, .slice (some ⟨g3, 0, none⟩) 4 4), (28, iq 4), (29, iq (i.1 : Nat))]) (fun i => stW g2 (.slice (some ⟨gl, 0, none⟩) 3 c) p h a b i.1 i.2 ++ [.ro g3 0 stC, .own g1 81 [.string (str []), .string (str []), iq 0, iq 0], .ro gl 0 (svs (reqL p h a b))])
  (fun i => i.1 ≤ 4 ∧ (2 ≤ i.1 → RowOk i.2 2)) (fun i => 4 - i.1) (0, .slice none 0 0) ⟨by decide, fun h => by omega⟩ (kR rfl) (hV _) ?_
 rintro ⟨i, x⟩ ⟨hi, hx⟩
 simp only at hi hx
 refine aR (fun Z hZ => jB0 ?_)
 refine sN (hZ _ _ <| f7K 2 3 6 27 28 29 30 rfl <| aS (aC0 (fun h2 => ?_) (fun h2 => ?_)))
 ·have hi4 : i < 4 := by simp at h2; omega
  have hsi := hst g2 i x hi4 hx
  obtain ⟨f, hf⟩ := xZ9 (stF i)
  have hat := zF4 hi4
  rw [hf] at hsi hat
  refine jA7 ([.ro g3 0 stC] ++ (stW g2 (.slice (some ⟨gl, 0, none⟩) 3 c) p h a b i x ++ [.ro g3 0 stC, .own g1 81 [.string (str []), .string (str []), iq 0, iq 0], .ro gl 0 (svs (reqL p h a b))])) ?_ ?_
  ·exact (kD _ [_]).trans (HLe.dup ((xJ _ (lO _)).trans (lX _ _)) (kG (some ⟨g3, 0, none⟩) _))
  refine aK <| nN <| aS (aB <| aR (fun Z hZ => jA8 (i * 1) Tryz.underlying142 tyS141 rfl rfl (by omega) (by simp) rfl ?_))
  refine jE0 0 rfl rfl (i * 1) (by omega) tyA141 tyS141 hat rfl ?_
  refine sAl tyZ141 rfl (fun g4 => sS0 0 tyS141 ?_)
  refine sN (hZ _ _ <| f7K 2 3 6 8 27 28 29 rfl <| aR (fun Z hZ => sFA0 wX2 ?_))
  refine sL0 0 tyA139 tyS139 ?_
  refine sM rfl rfl <| wE2 (vs := [ptr g2 0]) (stW g2 (.slice (some ⟨gl, 0, none⟩) 3 c) p h a b i x) [.ro gl 0 (svs (reqL p h a b))] [.ro g3 0 stC, .own g1 81 [.string (str []), .string (str []), iq 0, iq 0], .ro gl 0 (svs (reqL p h a b))] hsi rfl rfl (kA (lX [_, _] _)) (lX [_, _] [_]) (kG (some ⟨gl, 0, none⟩) _) rfl ?_
  rintro w H' ⟨rfl, x', hx', hH'⟩
  rw [hH']
  refine sAN hZ rfl rfl <| f7K 2 3 6 9 27 28 29 rfl <| aR fun Z hZ => sM rfl rfl <| jA6 ?_
  refine sN (hZ _ _ <| f8K 2 3 6 9 27 28 29 38 rfl <| aC0 (fun h3 => ?_) (fun h3 => ?_))
  ·cases h3
  refine aK ?_
  repeat (with_reducible refine nBN ?_)
  refine nN ?_
  refine aG (fun Z hZ => ?_)
  refine jB7 rfl rfl ((i + 1 : Nat) : Int) (by rw [lT _ (by omega)]; omega) rfl ?_
  refine sMN hZ rfl rfl <| nF [(2, _), (3, _), (6, _), (27, _), (28, _), (29, _)] (kR rfl) <| jC2 (i + 1, x') ⟨hi4, fun h => by rw [if_pos (show 1 ≤ i from by simp only at h; omega)] at hx'; exact hx'⟩ (by simp; omega) (kR rfl) (hV _)
 ·refine jB5 ?_
  repeat (with_reducible refine nTE ?_)
  refine nBE ?_
  refine nN ?_
  have hie : i = 4 := by simp at h2; omega
  subst hie
  obtain ⟨gf, cf, rfl⟩ := (hx (by decide)).some (by decide)
  refine jA7 [rdE g2 (.slice (some ⟨gl, 0, none⟩) 3 c) (.slice (some ⟨gf, 0, none⟩) 2 cf) p h a b, .own g1 81 [.string (str []), .string (str []), iq 0, iq 0]] (pH [0, 3] rfl) <| aR fun Z hZ => sM rfl rfl <| jA1 ?_
  refine sFA0 jZ0 ?_
  refine sLA0 0 tyA81 tyS81 ?_
  refine sM rfl rfl <| sS0 1 tyS81 ?_
  refine sA rfl rfl <| sAN hZ rfl rfl <| f3K 2 3 4 rfl <| aE <| jF8 [] rfl (kH 1 rfl rfl tyA81 tyS81 rfl) rfl rfl (kA (lO _)) rfl
section
variable {P : Program} {N : Frm} {w0 : World} {Wr : List Nat} {ops : Array Oper} {rest : List Oper} {fr : Fr} {H : Heap} {Z : Fr → Heap → Prop}
variable {d ty : Nat} {pos : String} {after : Array Edge}
theorem HLe.putAt {e e' : Ent} (A B : Heap) (hw : e.wr = true) (hw' : e'.wr = true) (hg : e'.g = e.g) (hh : ∀ w, e.holds w → e'.holds w) : HLe (A ++ e' :: B) (A ++ e :: B) := fun w0 Wr w h => by
 have hm := h.ents e (by simp)
 refine ⟨h.only, fun x hx => ?_, ?_⟩
 ·rcases List.mem_append.1 hx with hx | hx
  ·exact h.ents x (xI _ hx)
  ·rcases List.mem_cons.1 hx with rfl | hx
   ·exact ⟨hh w hm.1, fun _ => by rw [hg]; exact hm.2 hw⟩
   ·exact h.ents x (x7 _ (lU _ hx))
 ·have hs := h.sep
  simp only [Sep, xW, qL] at hs ⊢
  obtain ⟨h1, ⟨h2, h3⟩, h4⟩ := hs
  refine ⟨h1, ⟨fun b hb _ => by rw [hg]; exact h2 b hb (by simp [hw]), h3⟩, fun a ha b hb => ?_⟩
  rcases List.mem_cons.1 hb with rfl | hb
  ·intro _
   rw [hg]
   exact h4 a ha e lP (by simp [hw])
  ·exact h4 a ha b (lU _ hb)
theorem vN0 {g n c size : Nat} {e : TypeId} {xs : List Value} {k : Code} {Q : Exit → Act → World → Prop} (A B : Heap)
  (h : ∀ ys, ys.length + n * size = c * size → n ≤ c → c ≤ maxLen → awp P N w0 Wr k fr (A ++ .own g e (xs ++ ys) :: B) Q) : awp P N w0 Wr k fr (A ++ .ob g (RowP e size n c xs) :: B) Q := fun a w ha hw => by
 have hm := hw.ents (.ob g (RowP e size n c xs)) (by simp)
 obtain ⟨o, ho, cur, rfl, h1, h2, h3, h4, h5⟩ := hm.1
 have hcs : xs ++ cur.toList.drop (n * size) = cur.toList := by rw [← h4, zZ]
 refine h (cur.toList.drop (n * size)) ?_ h1 h2 a w ha ?_
 ·have : n * size ≤ c * size := z7 _ h1
  rw [qF, Array.length_toList, h3]; omega
 ·rw [hcs]
  have hw2 := hw
  refine ⟨hw.only, fun x hx => ?_, ?_⟩
  ·rcases List.mem_append.1 hx with hx | hx
   ·exact hw.ents x (xI _ hx)
   ·rcases List.mem_cons.1 hx with rfl | hx
    ·exact ⟨by simpa [Ent.holds] using ho, fun _ => hm.2 rfl⟩
    ·exact hw.ents x (x7 _ (lU _ hx))
  ·have hs := hw.sep
   simp only [Sep, xW, qL] at hs ⊢
   obtain ⟨h1, ⟨h2, h3⟩, h4⟩ := hs
   refine ⟨h1, ⟨fun b hb _ => h2 b hb (by simp [Ent.wr]), h3⟩, fun a ha b hb => ?_⟩
   rcases List.mem_cons.1 hb with rfl | hb
   ·intro _
    exact h4 a ha (.ob g (RowP e size n c xs)) lP (by simp [Ent.wr])
   ·exact h4 a ha b (lU _ hb)
theorem HLe.ownRoom {g n c size : Nat} {e : TypeId} {xs ys : List Value} (A B : Heap) (hl : xs.length = n * size) (hy : ys.length + n * size = c * size) (h1 : n ≤ c) (h2 : c ≤ maxLen) : HLe (A ++ .ob g (RowP e size n c xs) :: B) (A ++ .own g e (xs ++ ys) :: B) :=
 HLe.putAt A B rfl rfl rfl fun w h => ⟨_, h, (xs ++ ys).toArray, rfl, h1, h2, by simp; omega, by simp [← hl], hl⟩
theorem kH8 (i : Nat) {dT sT e e' : TypeId} {x y : Operand} {g o n c m c2 size q : Nat} {A : Option Addr} {cs vs : List Value} (hT : P.underlying dT = some (.slice e)) (hz : tySize P e = some size) (hx : ev fr x = some (.slice (some ⟨g, o, none⟩) n c)) (hy : ev fr y = some (.slice A m c2))
  (hq : Nat.min m n = q) (hq0 : 0 < q) (hr : ∀ w, Sat w0 Wr H w → Rd w size A q vs) (h1 : vs.all Value.oneCell' = true) (hH : H[i]? = some (.own g e' cs)) (hl : o + q * size ≤ cs.length) {H2 : Heap} (hs : H.set i (.own g e' (cs.take o ++ vs ++ cs.drop (o + q * size))) = H2) (hN : bN d N)
  (h : sx P N w0 Wr ops rest ((d, iq (q : Nat)) :: fr) H2 Z) : sx P N w0 Wr ops (⟨some d, .call { callee := .builtin .copy, args := #[x, y], argTypes := #[dT, sT] }, ty, pos, after, none⟩ :: rest) fr H Z := by
 refine jI7 (R := fun v H' => v = iq (q : Nat) ∧ H' = H2) hN (fun a w ha hw => ?_) (fun v H' hR => by obtain ⟨rfl, rfl⟩ := hR; exact h)
 have hm := hw.mem hH
 obtain ⟨hvl, _, h3⟩ := hr w hw
 obtain ⟨g2, o2, rfl, hlt, hc⟩ := h3 hq0
 obtain ⟨w', h4, h5, h6⟩ := jM7 (P := P) vs g o 0 cs w hm (by rw [hvl]; omega) (fun u hu => List.all_eq_true.1 h1 u hu)
 rw [hvl, lM] at h6
 refine ⟨_, w', _, ?_, ⟨rfl, rfl⟩, hs ▸ hw.turn hH rfl rfl h5 h6⟩
 have e1 : (sizeOf e).run P w = .ok size w := jC5 hz
 have e2 : (Builtin.firstCells size q (.slice (some ⟨g2, o2, none⟩) m c2)).run P w = .ok vs.toArray w := run_firstCells_some _ _ _ _ _ _ vs hvl (fun j v hv => by rw [jG5]; exact hc j v hv)
 simp only [execOp, resolve, invoke, builtin, uB, xR, qT, ha.eval hx, ha.eval hy, lJ, l7, lR, Builtin.copy_]
 simp [run_underlying hT, Builtin.lenOf, e1, hq, e2, h4, goInt]
theorem vW3 {t tn e : TypeId} {kn : IntKind} {x y : Operand} {g o c k size bytes : Nat} (hE : ElemOk P t e size bytes) (htn : P.underlying tn = some (.int kn))
  (hx : ev fr x = some (.slice (some ⟨g, o, none⟩) 0 c)) (hy : ev fr y = some (iq (k : Nat))) (hg : c < k) (h63 : k ≤ maxLen) (h48 : k * bytes ≤ 281474976710656) (hfit : Builtin.nextslicecap k c * bytes ≤ 281474976710656) (hN : bN d N)
  (h : ∀ g' c' cs, cs.length = c' * size → k ≤ c' → c' ≤ maxLen → sx P N w0 Wr ops rest ((d, .slice (some ⟨g', 0, none⟩) k c') :: fr) (.own g' e cs :: H) Z) :
  sx P N w0 Wr ops (⟨some d, .call { callee := .builtin .append, args := #[x, y], argTypes := #[t, tn] }, ty, pos, after, none⟩ :: rest) fr H Z := by
 refine jI7 (R := fun v H' => ∃ g' c' cs, v = .slice (some ⟨g', 0, none⟩) k c' ∧ H' = .own g' e cs :: H ∧ cs.length = c' * size ∧ k ≤ c' ∧ c' ≤ maxLen) hN (fun a w ha hw => ?_) (fun v H' hR => by obtain ⟨g', c', cs, rfl, rfl, h1, h2, h3⟩ := hR; exact h g' c' cs h1 h2 h3)
 obtain ⟨ht, ti, z, hi, hz, hsize, hbs, hzs, hs⟩ := hE
 rw [← hsize] at hzs hs
 rw [← hbs] at h48 hfit
 have h2 := Lib.run_append_grow_zeros (P := P) w t tn ty e ti z .i64 kn ht htn hi hz (some ⟨g, o, none⟩) 0 c [] (run_firstCells_some _ _ _ _ _ _ [] (by simp) (fun j v hv => by simp at hv)) k (by omega) hs (by omega) (by rw [lA]; have : k ≤ 9223372036854775807 := h63; omega) h48 (by rw [lA]; exact hfit)
 rw [lA] at h2
 have hge := grownCap_ge w k c e
 have hle := grownCap_le_maxLen w k c e h63
 obtain ⟨gc, hgc⟩ := xZ9 (grownCap w k c e)
 rw [hgc] at h2 hge hle
 refine ⟨_, w.drew.alloc (.cells (#[] ++ Builtin.zeroCells z.cells k ++ Builtin.zeroCells z.cells (gc - k)) e), _, ?_, ⟨w.heap.size, gc, (#[] ++ Builtin.zeroCells z.cells k ++ Builtin.zeroCells z.cells (gc - k)).toList, rfl, rfl, ?_, hge, hle⟩, ?_⟩
 ·simp only [execOp, resolve, uB, xR, qT, ha.eval hx, ha.eval hy, lJ, l7, lR, invoke, builtin]
  rw [h2]; rfl
 ·rw [Array.length_toList]
  simp only [Array.size_append, size_zeroCells, List.size_toArray, qS, hzs, ← Nat.add_mul, hsize]
  rw [Nat.add_sub_cancel' hge]
 ·have h3 := hw.drew.alloc (#[] ++ Builtin.zeroCells z.cells k ++ Builtin.zeroCells z.cells (gc - k)).toList e
  rw [Array.toArray_toList] at h3
  exact h3
theorem vI6 {f : FuncId} {fn : Func} {tS tR e eA eB : TypeId} {xs : List Operand} {ts : Array TypeId} {size a b oa ob la ca lb cb : Nat} {csA csB : List Value} (hf : P.funcs[f]? = some fn) (hname : (fn.name == "runtime.NumGoroutine") = false)
  (hb : fn.body.isNone = true) (hn : Extern.findNext fn = none) (he : Extern.find fn = some (Extern.SlicesOverlaps.overlaps #[tS, tS] #[tR])) (ht : P.underlying tS = some (.slice e)) (hz : tySize P e = some size) (hx : evs fr xs = some [.slice (some ⟨a, oa, none⟩) la ca, .slice (some ⟨b, ob, none⟩) lb cb]) (hN : bN d N)
  (i j : Nat) (hA : H[i]? = some (.own a eA csA)) (hB : H[j]? = some (.own b eB csB)) (hij : i ≠ j) (h0 : csB.length ≠ 0)
  (h : sx P N w0 Wr ops rest ((d, .bool false) :: fr) H Z) :
  sx P N w0 Wr ops (⟨some d, .call { callee := .value (.func f), args := xs.toArray, argTypes := ts }, ty, pos, after, none⟩ :: rest) fr H Z :=
 kK5 (R := fun v H' => v = .bool false ∧ H' = H) hf hname hb hn he hx hN (fun w hw => by
  have ha := hw.mem hA
  have hb := hw.mem hB
  have hne : a ≠ b := by
   have hs := List.pairwise_iff_getElem.1 hw.sep
   have hil := (List.getElem?_eq_some_iff.1 hA)
   have hjl := (List.getElem?_eq_some_iff.1 hB)
   rcases Nat.lt_or_gt_of_ne hij with hlt | hlt
   ·have := hs i j hil.1 hjl.1 hlt (by rw [hil.2]; rfl)
    rw [hil.2, hjl.2] at this
    exact this
   ·have := hs j i hjl.1 hil.1 hlt (by rw [hjl.2]; rfl)
    rw [hil.2, hjl.2] at this
    exact fun h => this h.symm
  have hsh : ∀ {g t cs}, (Ent.own g t cs).holds w → w.shape? g = some (t, cs.length) := fun h => by
   simp only [Ent.holds] at h
   simp [World.shape?, h]
  exact ⟨_, _, _, Lib.run_overlaps_apart w tS tR e ht size (fun w => jC5 hz) ⟨a, oa, none⟩ ⟨b, ob, none⟩ la ca lb cb hne eA eB csA.length csB.length (hsh ha) (hsh hb) h0 (Ent.free ha _) (Ent.free ha _), ⟨rfl, rfl⟩, hw⟩) (fun v H' hR => by obtain ⟨rfl, rfl⟩ := hR; exact h)
end
theorem yZ3 (L : List (Bs × Bs)) : (fcs L).all Value.oneCell' = true := by
 induction L with
 | nil => rfl
 | cons x r ih => exact (show (true && (true && (fcs r).all Value.oneCell')) = true from by rw [ih]; rfl)
theorem yT3 {H : Heap} {w0 w : World} {Wr : List Nat} {i g n size : Nat} {e : TypeId} {xs ys : List Value} (hH : H[i]? = some (.own g e (xs ++ ys))) (hl : xs.length = n * size) (hw : Sat w0 Wr H w) : Rd w size (some ⟨g, 0, none⟩) n xs :=
 ⟨hl, fun h => (by cases h), fun _ => ⟨g, 0, rfl, Ent.lt (hw.mem hH), fun j u hu => by
  have hj := (List.getElem?_eq_some_iff.1 hu).1
  rw [lA]
  exact (Ent.cell (hw.mem hH) j).trans (by rw [qE hj]; exact hu)⟩⟩
theorem wN8 (g o c : Nat) (L : List (Bs × Bs)) (hL : L.length ≤ 100) (h0 : 0 < L.length) :
  Fn Tryz.prog 31 [.slice (some ⟨g, o, none⟩) L.length c] [.ro g o (fcs L)] fun v H' => RowOk v L.length ∧ H' = rowE v 97 2 (fcs L) := by
 refine fE 8 Tryz.func31 rfl (fun w0 => aA rfl rfl <| f1K 0 rfl <| aS <| aR fun Z hZ => sM rfl rfl <| jR5 Tryz.underlying50 rfl rfl <| sN (hZ _ _ <| f2K 0 4 rfl <| aC0 (fun h => ?_) (fun h => ?_)))
 ·simp at h
 refine aK <| nN <| aR (fun Z hZ => jM5 Tryz.underlying50 tyS97 rfl (fun g1 => jC6 ([.ro g o (fcs L)] ++ rowE (.slice (some ⟨g1, 0, none⟩) 0 0) 97 2 []) ((HLe.ownRow (size := 2) (n := 0) (cs := []) [.ro g o (fcs L)] [] rfl (lZ _)).trans (pH [1, 0] rfl)) <| sM rfl rfl <| jD3 [.ro g o (fcs L)] yF3 rfl (RowOk.mk g1 0 0) rfl rfl (fun w hw => yA3 (i := 0) rfl (vL8 L) hw) (yZ3 L) (by show _ ≤ 9223372036854775807; omega) (by omega) (hV _) rfl (fun v2 hv2 => ?_)))
 rw [lE]
 rw [lA] at hv2
 refine sAN hZ rfl rfl <| f1K 2 rfl <| aE <| jD9 _ rfl rfl (kA (lX _ _)) ⟨hv2, rfl⟩
theorem zL5 (l : List Value) (h : 4 ≤ l.length) : ∃ a b c d r, l = a :: b :: c :: d :: r := by
 match l, h with
 | a :: b :: c :: d :: r, _ => exact ⟨a, b, c, d, r, rfl⟩
theorem zL6 (l : List Value) (h : 2 ≤ l.length) : ∃ a b r, l = a :: b :: r := by
 match l, h with
 | a :: b :: r, _ => exact ⟨a, b, r, rfl⟩
theorem wL9 (gs c gv cv : Nat) (x y : Bs × Bs) :
  Fn Tryz.prog 30 [.slice (some ⟨gs, 0, none⟩) 1 c, iq 0, .slice (some ⟨gv, 0, none⟩) 1 cv] ([] ++ .ob gs (RowP 97 2 1 c (fcl x)) :: [.own gv 97 (fcl y)]) fun v H' => RowOk v 2 ∧ H' = rowE v 97 2 (fcl y ++ fcl x) := by
 refine fE 95 Tryz.func30 rfl (fun w0 => vN0 [] _ fun ys hys hc1 hc2 => aA rfl rfl <| f3K 0 1 2 rfl <| aR fun Z hZ => sM rfl rfl <| sM rfl rfl <| jR6 (i := 0) (j := 1) Tryz.underlying50 tyS97 rfl rfl rfl (by decide) (by decide) (by omega) rfl (fun o1 ho1 => ?_))
 refine sN (hZ _ _ <| f3K 0 1 2 rfl <| aR fun Z hZ => sM rfl rfl <| jE5 Tryz.underlying50 rfl rfl <| sAN hZ rfl rfl <| f4K 0 1 2 7 rfl <| aS <| aR fun Z hZ => sM rfl rfl <| jB1 ?_)
 refine sN (hZ _ _ <| f5K 0 1 2 7 16 rfl <| aC0 (fun h1 => ?_) (fun h1 => ?_))
 ·cases h1
 refine aK <| nN <| aR fun Z hZ => sM rfl rfl <| jE5 Tryz.underlying50 rfl rfl <| sAN hZ rfl rfl <| f5K 0 1 2 7 8 rfl <| aS <| aR fun Z hZ => sM rfl rfl <| sM rfl rfl <| jB1 ?_
 refine sN (hZ _ _ <| f6K 0 1 2 7 8 22 rfl <| aC0 (fun h2 => ?_) (fun h2 => ?_))
 ·cases h2
 refine aK ?_
 refine nN ?_
 refine aS ?_
 refine aR fun Z hZ => sM rfl rfl <| sM rfl rfl ?_
 refine jB7 rfl rfl (2 : Int) (by decide) rfl ?_
 refine sM rfl rfl <| wD8 Tryz.underlying50 rfl rfl <| jC4 ?_
 refine sN (hZ _ _ <| f6K 0 1 2 7 8 31 rfl <| aC0 (fun h3 => ?_) (fun h3 => ?_))
 ·have hcc : c = 1 := by simp at h3; omega
  subst hcc
  have hys0 : ys = [] := List.length_eq_zero_iff.1 (by omega)
  subst hys0
  refine aR fun Z hZ => sM rfl rfl <| sM rfl rfl <| kP1 (h' := 0) Tryz.underlying50 tyS97 rfl rfl (by decide) rfl ?_
  refine sM rfl rfl <| sM rfl rfl ?_
  refine jB7 rfl rfl (2 : Int) (by decide) rfl ?_
  refine sM rfl rfl <| jN0 rfl rfl (2 : Int) (by decide) rfl ?_
  refine vW3 (k := 2) yF3 Tryz.underlying3 rfl rfl (by decide) (by decide) (by decide) (by decide) rfl (fun g2 c2 zs hz1 hz2 hz3 => ?_)
  obtain ⟨z1, z2, z3, z4, zr, rfl⟩ := zL5 zs (by omega)
  refine sAN hZ rfl rfl <| f5K 0 1 2 7 9 rfl <| aR fun Z hZ => sM rfl rfl <| sM rfl rfl <| jR6 (i := 0) (j := 2) Tryz.underlying50 tyS97 rfl rfl rfl (by decide) (by decide) (by omega) rfl (fun o2 ho2 => ?_)
  obtain rfl : o2 = 0 := ho2 (by decide)
  refine sM rfl rfl <| kH8 0 (q := 1) (vs := fcl y) Tryz.underlying50 tyS97 rfl rfl rfl (by decide) (fun w hw => jI0 (i := 2) rfl rfl hw) rfl rfl (by simp) rfl rfl ?_
  refine sN (hZ _ _ <| f4K 0 1 7 9 rfl <| jX1 [0, 1, 2, 3, 4, 5, 6, 7] [8] jF1 (by kernel_rfl) rfl rfl (fun Z hZ => ?_))
  refine qM rfl rfl <| qM rfl rfl <| qM rfl rfl <| kL2 rfl rfl (1 : Int) (by decide) rfl ?_
  refine jV8 (i := 1) (j := 2) Tryz.underlying50 tyS97 rfl rfl rfl (by decide) (by decide) (by omega) rfl (fun o3 ho3 => ?_)
  obtain rfl : o3 = 2 := ho3 (by decide)
  refine qM rfl rfl <| qM rfl rfl <| jV8 (i := 0) (j := 1) Tryz.underlying50 tyS97 rfl rfl rfl (by decide) (by decide) (by omega) rfl (fun o4 ho4 => ?_)
  obtain rfl : o4 = 0 := ho4 (by decide)
  refine jE9 <| kH8 0 (q := 1) (vs := fcl x) Tryz.underlying50 tyS97 rfl rfl rfl (by decide) (fun w hw => jI0 (i := 1) rfl rfl hw) rfl rfl (by simp [fcl]) rfl rfl ?_
  refine sN (hZ _ _ ?_)
  refine f1K 9 rfl ?_
  refine aR fun Z hZ => sM rfl rfl <| sAN hZ rfl rfl ?_
  refine f1K 6 rfl ?_
  refine aE ?_
  repeat (with_reducible refine nTR ?_)
  refine jD9 (rowE (.slice (some ⟨g2, 0, none⟩) 2 c2) 97 2 (fcl y ++ fcl x)) rfl rfl ?_ ⟨RowOk.mk _ _ _, rfl⟩
  have hzl : zr.length + 2 * 2 = c2 * 2 := by simp only [lD] at hz1; omega
  exact (HLe.ownRoom (xs := fcl y ++ fcl x) (ys := zr) [] [] rfl hzl hz2 hz3).trans (kA (xJ _ (lO _)))
 refine aK <| nN ?_
 have hcc : 2 ≤ c := by simp at h3; omega
 obtain ⟨ya, yb, yr, rfl⟩ := zL6 ys (by omega)
 have hzl : yr.length + 2 * 2 = c * 2 := by simp only [lD] at hys; omega
 refine aR fun Z hZ => sM rfl rfl <| sM rfl rfl <| sM rfl rfl ?_
 refine jB7 rfl rfl (2 : Int) (by decide) rfl ?_
 refine kP1 (h' := 2) Tryz.underlying50 tyS97 rfl rfl hcc rfl ?_
 refine sAN hZ rfl rfl ?_
 refine f5K 0 1 2 7 8 rfl ?_
 refine aS ?_
 refine aR fun Z hZ => sM rfl rfl <| sM rfl rfl <| sM rfl rfl <| sM rfl rfl ?_
 refine jB7 rfl rfl (1 : Int) (by decide) rfl ?_
 refine jR6 (i := 1) (j := 2) Tryz.underlying50 tyS97 rfl rfl rfl (by decide) (by decide) (by omega) rfl (fun o3 ho3 => ?_)
 obtain rfl : o3 = 2 := ho3 (by decide)
 refine vI6 (tR := 4) Tryz.func70 (by kernel_rfl) (by kernel_rfl) (by kernel_rfl) (by kernel_rfl) Tryz.underlying50 tyS97 rfl rfl 1 0 rfl rfl (by decide) (by simp [fcl]) ?_
 refine jE8 rfl rfl <| sN (hZ _ _ <| f6K 0 1 2 7 8 68 rfl <| aC0 (fun h4 => ?_) (fun h4 => ?_))
 ·refine jX1 [0, 1, 2, 3, 4, 5, 6, 7] [8] jF1 (by kernel_rfl) rfl rfl (fun Z hZ => ?_)
  refine qM rfl rfl <| qM rfl rfl <| qM rfl rfl <| kL2 rfl rfl (1 : Int) (by decide) rfl ?_
  refine jV8 (i := 1) (j := 2) Tryz.underlying50 tyS97 rfl rfl rfl (by decide) (by decide) (by omega) rfl (fun o3 ho3 => ?_)
  obtain rfl : o3 = 2 := ho3 (by decide)
  refine qM rfl rfl <| qM rfl rfl <| jV8 (i := 0) (j := 2) Tryz.underlying50 tyS97 rfl rfl rfl (by decide) (by decide) (by omega) rfl (fun o4 ho4 => ?_)
  obtain rfl : o4 = 0 := ho4 (by decide)
  refine jE9 <| kH8 0 (q := 1) (vs := fcl x) Tryz.underlying50 tyS97 rfl rfl rfl (by decide) (fun w hw => yT3 (i := 0) (ys := ya :: yb :: yr) rfl rfl hw) rfl rfl (by simp [fcl]) rfl rfl ?_
  refine sN (hZ _ _ <| f3K 0 1 2 rfl <| aR fun Z hZ => sM rfl rfl <| sM rfl rfl <| jR6 (i := 0) (j := 2) Tryz.underlying50 tyS97 rfl rfl rfl (by decide) (by decide) (by omega) rfl (fun o5 ho5 => ?_))
  obtain rfl : o5 = 0 := ho5 (by decide)
  refine sM rfl rfl <| kH8 0 (q := 1) (vs := fcl y) Tryz.underlying50 tyS97 rfl rfl rfl (by decide) (fun w hw => jI0 (i := 1) rfl rfl hw) rfl rfl (by simp [fcl]) rfl rfl ?_
  refine sN (hZ _ _ ?_)
  refine f1K 0 rfl ?_
  refine aR fun Z hZ => sM rfl rfl <| sAN hZ rfl rfl ?_
  refine f1K 6 rfl ?_
  refine aE ?_
  repeat (with_reducible refine nTR ?_)
  refine jD9 (rowE (.slice (some ⟨gs, 0, none⟩) 2 c) 97 2 (fcl y ++ fcl x)) rfl rfl ?_ ⟨RowOk.mk _ _ _, rfl⟩
  exact (HLe.ownRoom (xs := fcl y ++ fcl x) (ys := yr) [] [] rfl hzl hcc hc2).trans (kA (xJ _ (lO _)))
 cases h4
def verS : Bs := [72, 84, 84, 80, 47, 49, 46, 49, 32]
def parS : Bs := [80, 97, 114, 116, 105, 97, 108, 32, 67, 111, 110, 116, 101, 110, 116]
def sttS : Bs := verS ++ ([50, 48, 54, 32] ++ parS)
theorem vC9 : Fn Tryz.prog 67 [iq 206] [] fun v _ => v = iq 2 := by
 refine fE 11 Tryz.func67 rfl (fun w0 => aA rfl rfl <| f1K 0 rfl <| aS <| jA0 [(0, iq 206), (8, .bool false)] [] (fun Z hZ => ?_) ?_)
 ·refine sM rfl rfl <| jB0 ?_
  refine sM rfl rfl <| jB9 5 rfl false (by rfl) ?_
  refine sOn0 ?_
  refine sM rfl rfl <| sOn0 ?_
  refine jC4 ?_
  refine sP0 ?_
  refine sN (hZ _ _ ?_ ?_)
  ·exact kR rfl
  ·exact hV _
 refine aC0 (fun h1 => ?_) (fun h1 => ?_)
 ·cases h1
 refine aK <| nN <| aR fun Z hZ => sM rfl rfl <| vB2 rfl rfl (by decide) (2 : Int) (by decide) rfl ?_
 refine sAN hZ rfl rfl <| f1K 2 rfl <| aE <| nR10 rfl
theorem vW7 : Fn Tryz.prog 69 [iq 206] [] fun v _ => v = .string (str parS) := by
 refine fE 18 Tryz.func69 rfl (fun w0 => aA rfl rfl <| f1K 0 rfl <| aA rfl rfl <| f2K 0 3 rfl <| aS <| aR fun Z hZ => sMN hZ rfl rfl <| f2K 3 4 rfl <| aB <| aR (fun Z hZ => ?_))
 refine jB1 ?_
 refine sAN hZ rfl rfl <| f3K 3 4 5 rfl <| aC0 (fun h1 => ?_) (fun h1 => ?_)
 ·cases h1
 refine aR (fun Z hZ => jB1 ?_)
 refine sAN hZ rfl rfl <| f3K 3 4 7 rfl <| aC0 (fun h2 => ?_) (fun h2 => ?_)
 ·refine aG (fun Z hZ => ?_)
  refine sAN hZ rfl rfl ?_
  refine nF [(3, _)] (kE rfl (kF)) ?_
  repeat (with_reducible refine nBN ?_)
  refine nN ?_
  refine aR fun Z hZ => sM rfl rfl <| sAN hZ rfl rfl ?_
  refine f1K 2 rfl ?_
  refine aE ?_
  exact nR10 rfl
 ·cases h2
theorem zK6 : dd 206 = [50, 48, 54] := by
 rw [jX0 (by decide), jX0 (by decide), jL5 (by decide)]
 rfl
theorem wF7 : Fn Tryz.prog 29 [iq 206] TP fun v _ => v = .tuple #[.string (str sttS), iq 0] := by
 have f1 := yK9 206 (by decide)
 rw [zK6] at f1
 refine fE 14 Tryz.func29 rfl (fun w0 => aR fun Z hZ => sA rfl rfl <| sAN hZ rfl rfl <| f1K 0 rfl <| aS <| aR fun Z hZ => sM rfl rfl <| sCP0 vC9 ?_)
 refine jB1 ?_
 refine sN (hZ _ _ <| f2K 0 6 rfl <| aC0 (fun h1 => ?_) (fun h1 => ?_))
 ·cases h1
 refine aK <| nN <| aR fun Z hZ => sM rfl rfl <| jD7 TP f1 rfl (by repeat (first | exact xO _ | exact lO _ | exact lX _ _ | refine qI ?_ (xE _ _) | exact xJ _ (lO _) | refine qA _ ?_)) jQ4 rfl ?_
 refine jN3 rfl rfl (by decide) rfl ?_
 refine jN3 rfl rfl (by decide) rfl ?_
 refine sM rfl rfl <| sCP0 vW7 ?_
 refine jN3 rfl rfl (by decide) rfl ?_
 refine sA rfl rfl <| sAN hZ rfl rfl <| f2K 2 3 rfl <| aE <| jF3 rfl rfl rfl rfl
def digs : Bs := [48, 49, 50, 51, 52, 53, 54, 55, 56, 57]
theorem yF4 : kS4 digs := fun j b hb => by
 have hall : digs.all (fun b => Nat.blt b.toNat 128) = true := by decide
 have := List.all_eq_true.1 hall b (xN hb)
 simpa using this
theorem vJ3 (c : UInt8) (h : Lib.trimS [c] digs = []) : Fn Tryz.prog 238 [.string (str [c])] [] fun v _ => v = .bool true := by
 have f1 := wC5 [c] digs (by simp) (by decide) yF4
 rw [h] at f1
 refine fE 6 Tryz.func238 rfl (fun w0 => aA rfl rfl <| f1K 0 rfl <| aR fun Z hZ => sM rfl rfl <| sCP0 f1 ?_)
 refine jQ1 rfl rfl rfl <| sAN hZ rfl rfl <| f1K 2 rfl <| aE <| nR10 rfl
theorem wF1 : Fn Tryz.prog 190 [.string (str ([50, 48, 54, 32] ++ parS))] [] fun v _ => v = .bool true := by
 have f1 := vJ3 50 (by decide)
 have f2 := vJ3 48 (by decide)
 have f3 := vJ3 54 (by decide)
 refine fE 35 Tryz.func190 rfl (fun w0 => aA rfl rfl <| f1K 0 rfl <| aS <| aR fun Z hZ => sM rfl rfl <| jC8 Tryz.underlying9 rfl rfl <| sAN hZ rfl rfl <| f2K 0 3 rfl <| aB <| aS (aB ?_))
 refine aS (aB <| aS (aB <| aS <| aS <| jA0 [(0, .string (str ([50, 48, 54, 32] ++ parS))), (3, iq 19), (6, .bool false)] [] (fun Z hZ => ?_) ?_))
 ·refine sM rfl rfl <| jC4 ?_
  refine sM rfl rfl <| jB9 9 rfl true (by rfl) ?_
  refine sOn0 ?_
  refine sM rfl rfl <| sOn0 ?_
  refine jE6 (c := 32) Tryz.underlying9 rfl rfl (by decide) rfl rfl ?_
  refine sOn0 ?_
  refine jA6 ?_
  refine sP rfl rfl rfl <| sA rfl rfl <| sN (hZ _ _ ?_ ?_)
  ·exact kR rfl
  ·exact hV _
 refine aC0 (fun h1 => ?_) (fun h1 => ?_)
 ·cases h1
 refine aK <| nN <| aS <| aR fun Z hZ => sM rfl rfl <| jC4 ?_
 refine sAN hZ rfl rfl <| f3K 0 3 14 rfl <| aC0 (fun h2 => ?_) (fun h2 => ?_)
 ·refine jB5 ?_
  repeat (with_reducible (first | refine nTE ?_ | refine jI5 (by decide) ?_))
  refine nBE <| nN <| aG (fun Z hZ => sM rfl rfl <| jF7 [50, 48, 54] Tryz.underlying9 rfl rfl rfl (by decide) (by decide) (by decide) rfl rfl ?_)
  refine sAN hZ rfl rfl ?_
  refine nF [(0, _)] (kE rfl (kF)) ?_
  repeat (with_reducible refine nBN ?_)
  refine nN ?_
  refine aS ?_
  refine jA0 [(2, .bool true)] [] (fun Z hZ => ?_) ?_
  ·refine sM rfl rfl <| jF7 [50] Tryz.underlying9 rfl rfl rfl (by decide) (by decide) (by decide) rfl rfl ?_
   refine sCP0 f1 ?_
   refine sM rfl rfl <| jB9 25 rfl true (by rfl) ?_
   refine sOn0 ?_
   refine sM rfl rfl <| sOn0 ?_
   refine jF7 [48] Tryz.underlying9 rfl rfl rfl (by decide) (by decide) (by decide) rfl rfl ?_
   refine sOn0 ?_
   refine sCP0 f2 ?_
   refine sP rfl rfl rfl <| sM rfl rfl <| jB9 30 rfl true (by rfl) ?_
   refine sOn0 ?_
   refine sM rfl rfl <| sOn0 ?_
   refine jF7 [54] Tryz.underlying9 rfl rfl rfl (by decide) (by decide) (by decide) rfl rfl ?_
   refine sOn0 ?_
   refine sCP0 f3 ?_
   refine sP rfl rfl rfl <| sA rfl rfl <| sN (hZ _ _ ?_ ?_)
   ·exact kE rfl kF
   ·exact hV _
  refine aE ?_
  repeat (with_reducible (first | refine nTR ?_ | refine nBR ?_))
  exact nR1 rfl rfl rfl
 ·cases h2
theorem wF8 : Fn Tryz.prog 122 [.string (str sttS)] [] fun v _ => v = .tuple #[iq 206, iq 0] := by
 have f1 := vD9 sttS rfl (by decide)
 rw [if_pos (by decide), if_pos (by decide)] at f1
 have f2 := wR9 sttS verS
 have hq : Lib.trimPrefix sttS verS = [50, 48, 54, 32] ++ parS ∧ verS.isPrefixOf sttS = true := kL9 verS ([50, 48, 54, 32] ++ parS)
 rw [hq.1, hq.2] at f2
 have f3 := yM8 [50, 48, 54] (by decide) 206 (by rw [← zK6]; exact yM9 206 (by decide))
 refine fE 39 Tryz.func122 rfl (fun w0 => aR fun Z hZ => sA rfl rfl <| sAN hZ rfl rfl <| f1K 0 rfl <| aS <| aR fun Z hZ => sM rfl rfl <| sCP0 f1 ?_)
 refine sM rfl rfl <| sX rfl rfl rfl <| sX rfl rfl rfl <| sA rfl rfl <| sAN hZ rfl rfl <| f2K 0 5 rfl <| aR fun Z hZ => sM rfl rfl <| jB1 ?_
 refine sN (hZ _ _ <| f2K 0 16 rfl <| aC0 (fun h1 => ?_) (fun h1 => ?_))
 ·cases h1
 refine aK <| nN <| aR fun Z hZ => sM rfl rfl <| sCP0 f2 ?_
 refine sM rfl rfl <| sX rfl rfl rfl <| sX rfl rfl rfl <| sA rfl rfl <| sAN hZ rfl rfl <| f2K 6 7 rfl <| aS (aB <| aR fun Z hZ => sM rfl rfl <| jE8 rfl rfl <| sAN hZ rfl rfl <| f2K 6 22 rfl <| aC0 (fun h2 => ?_) (fun h2 => ?_))
 ·cases h2
 refine aR fun Z hZ => sM rfl rfl <| sCP0 wF1 ?_
 refine jE8 rfl rfl <| sAN hZ rfl rfl <| f2K 6 25 rfl <| aC0 (fun h3 => ?_) (fun h3 => ?_)
 ·cases h3
 refine aK ?_
 repeat (with_reducible refine nBN ?_)
 refine nN ?_
 refine aR fun Z hZ => sM rfl rfl ?_
 refine jF7 [50, 48, 54] Tryz.underlying9 rfl rfl rfl (by decide) (by decide) (by decide) rfl rfl ?_
 refine sCP0 f3 ?_
 refine sM rfl rfl <| sX rfl rfl rfl <| sX rfl rfl rfl <| sA rfl rfl <| sAN hZ rfl rfl <| f1K 8 rfl <| aS <| aR fun Z hZ => sM rfl rfl <| sCP0 vC9 ?_
 refine jB1 ?_
 refine sN (hZ _ _ <| f2K 8 37 rfl <| aC0 (fun h4 => ?_) (fun h4 => ?_))
 ·cases h4
 refine aK <| nN <| aR fun Z hZ => sM rfl rfl <| sA rfl rfl <| sAN hZ rfl rfl <| f2K 2 3 rfl <| aE <| jF3 rfl rfl rfl rfl
def clS : Bs := [99, 111, 110, 116, 101, 110, 116, 45, 108, 101, 110, 103, 116, 104]
def CLS : Bs := [67, 111, 110, 116, 101, 110, 116, 45, 76, 101, 110, 103, 116, 104]
theorem kX5 (n v : Bs) : Fn Tryz.prog 33 [.agg #[.string (str n), .string (str v)]] [] fun u _ => u = .bool (n == clS) := by
 refine fE 6 Tryz.func33 rfl (fun w0 => aR (fun Z hZ => jB2 (fun g1 => ?_)))
 refine sAN hZ rfl rfl <| f1K 1 rfl <| aR (fun Z hZ => sFA0 kJ5 ?_)
 first | refine sL0 0 tyA9 tyS9 ?_
 refine jQ1 rfl rfl rfl <| sAN hZ rfl rfl <| f1K 2 rfl <| aE <| nR10 rfl
theorem yF9 (n : Nat) (h : n < 1000) : PlL (CLS ++ 58 :: 32 :: dd n) ∧ (CLS ++ 58 :: 32 :: dd n).length ≤ 256 :=
 ⟨PlL.app (a := CLS) rfl (PlL.app (a := [58, 32]) rfl (vZ1 n)), by have := dd_3 h; simp [CLS]; omega⟩
theorem wR3 (n : Nat) : NoGap (dd n) := kM2 (zA7 n) (zA6 n)
theorem zQ4 (n : Nat) (h : n < 1000) : Fn Tryz.prog 34 [.agg (fcl (clS, dd n)).toArray] [] fun u _ => u = .tuple #[.string (str (CLS ++ 58 :: 32 :: dd n)), iq 0] := by
 have h1 := dd_3 h
 exact vF2 clS (dd n) ⟨by decide, by decide, by decide⟩ (vZ1 n) (wR3 n) (by show 14 + 2 + _ ≤ _; omega)
def kB8 (L : List (Bs × Bs × Bs)) : List (Bs × Bs) := L.map Prod.snd
def kB2 (L : List (Bs × Bs × Bs)) : List Bs := L.map Prod.fst
theorem yX4 {L : List Bs} (h : ∀ x ∈ L, x.length ≤ 256) : (hbp L).length ≤ L.length * 258 := by
 induction L with
 | nil => exact lZ _
 | cons x r ih =>
  have h1 := h x lP
  have h2 := ih fun y hy => h y (lU _ hy)
  rw [vS6, lN, lD, lD, lD]
  omega
theorem wH4 (gf o c : Nat) (n v l body : Bs) (f1 : Fn Tryz.prog 34 [.agg (fcl (n, v)).toArray] [] fun u _ => u = .tuple #[.string (str l), iq 0]) (hl : PlL l ∧ l.length ≤ 256) (hne : (n == clS) = false) (hb : body.length < 1000) :
  Fn Tryz.prog 12 [.agg #[iq 206, .slice (some ⟨gf, o, none⟩) 1 c, .string (str body)]] ([.ro gf o (fcs [(n, v)])] ++ TP) fun u _ => u = .tuple #[.string (str (hdB [sttS, CLS ++ 58 :: 32 :: dd body.length, l] ++ body)), iq 0] := by
 have f2 := vT0 body.length hb
 refine fE 92 Tryz.func12 rfl (fun w0 => aR (fun Z hZ => jB2 (fun g1 => ?_)))
 refine sA rfl rfl <| sAN hZ rfl rfl <| f1K 1 rfl <| aR (fun Z hZ => sFA0 vH7 ?_)
 refine sL0 0 tyA3 tyS3 ?_
 refine jD7 TP wF7 rfl (by repeat (first | exact xO _ | exact lO _ | exact lX _ _ | refine qI ?_ (xE _ _) | exact xJ _ (lO _) | refine qA _ ?_)) jQ4 rfl ?_
 refine sM rfl rfl <| sX rfl rfl rfl <| sX rfl rfl rfl <| sA rfl rfl <| sAN hZ rfl rfl <| f3K 1 4 5 rfl <| aS (aB <| aR fun Z hZ => sM rfl rfl <| jA6 ?_)
 refine sAN hZ rfl rfl <| f4K 1 4 5 22 rfl <| aC0 (fun h1 => ?_) (fun h1 => ?_)
 ·cases h1
 refine aR (fun Z hZ => sFA0 jT3 ?_)
 refine sL0 0 tyA50 tyS50 ?_
 refine jE5 Tryz.underlying50 rfl rfl <| jC4 ?_
 refine sAN hZ rfl rfl <| f3K 1 4 26 rfl <| aC0 (fun h2 => ?_) (fun h2 => ?_)
 ·cases h2
 refine aK ?_
 repeat (with_reducible refine nBN ?_)
 refine nN ?_
 refine aR fun Z hZ => sM rfl rfl ?_
 refine sBS0 Tryz.underlying94 tyS9 tyZ9 (fun g2 => ?_)
 refine sAN hZ rfl rfl <| f2K 1 6 rfl <| aS <| jD5 _ [(0, true), (1, true), (2, false), (3, true), (4, true), (5, true), (6, false), (7, true), (8, false), (9, false), (10, true), (11, true)] jF1 (by kernel_rfl) (HLe.pick [1] (by simp) (by simp only [pick, l8, qS]; rfl)) (fun Z hZ => ?_)
 refine tw_p rfl <| jA3 jT3 ?_
 refine vN <| tw_p rfl ?_
 first | refine jD6 0 rfl rfl tyA50 tyS50 rfl rfl ?_
 refine vN <| tw_g rfl <| jZ4 [.ro gf o (fcs [(n, v)])] (wN8 gf o c [(n, v)] (by simp) (by simp)) rfl (by repeat (first | exact xO _ | exact lO _ | exact lX _ _ | refine qI ?_ (xE _ _) | exact xJ _ (lO _) | refine qA _ ?_)) (kG (some ⟨gf, o, none⟩) _) rfl ?_
 rintro v1 H' ⟨hv1, rfl⟩
 rw [jE2]
 obtain ⟨gs, cs, rfl⟩ := hv1.some (by simp)
 refine jC6 (.own g2 9 (svs [sttS]) :: .own g1 52 [iq 206, .slice (some ⟨gf, o, none⟩) 1 c, .string (str body)] :: .ob gs (RowP 97 2 1 cs (fcl (n, v))) :: ([.ro gf o (fcs [(n, v)])] ++ TP)) (pH [1, 2, 0, 3, 4] rfl) <| sN ⟨pH [1] rfl, ?_⟩
 refine tw_p rfl <| jA3 kJ6 ?_
 refine vN <| tw_p rfl ?_
 first | refine jD6 0 rfl rfl tyA9 tyS9 rfl rfl ?_
 refine vN <| tw_p rfl <| yQ9 Tryz.underlying9 rfl rfl <| vN <| tw_g rfl <| jD7 TP f2 rfl (by repeat (first | exact xO _ | exact lO _ | exact lX _ _ | refine qI ?_ (xE _ _) | exact xJ _ (lO _) | refine qA _ ?_)) jQ4 rfl ?_
 refine sN ⟨pH [1] rfl, ?_⟩
 refine tw_p rfl <| jZ7 tyZ97 tyP97 rfl rfl (by simp only [qS, Nat.reduceAdd, Value.cells, wrV]; rfl) rfl ?_
 refine vN <| tw_g rfl <| sBS0 Tryz.underlying50 tyS97 tyZ97 (fun g3 => ?_)
 refine sN ⟨pH [2] rfl, ?_⟩
 refine tw_g rfl <| jB4 ([] ++ .ob gs (RowP 97 2 1 cs (fcl (n, v))) :: [.own g3 97 (fcl (clS, dd body.length))]) (.own g2 9 (svs [sttS]) :: .own g1 52 [iq 206, .slice (some ⟨gf, o, none⟩) 1 c, .string (str body)] :: ([.ro gf o (fcs [(n, v)])] ++ TP)) (wL9 gs cs g3 1 (n, v) (clS, dd body.length)) rfl (pH [3, 0, 1, 2, 4, 5] rfl) rfl ?_
 rintro v2 H' ⟨hv2, rfl⟩
 rw [jE2]
 obtain ⟨gi, ci, rfl⟩ := hv2.some (by decide)
 refine sN ⟨pH [2] rfl, ?_⟩
 refine tw_p rfl <| jZ6 Tryz.underlying50 rfl rfl <| vN <| tw_p rfl <| jA5 ?_
 refine vN <| jH1 (hZ _ _ <| f5K 1 6 42 43 44 rfl ?_)
 have f0 : Fn Tryz.prog 34 [.agg (fcl (clS, dd body.length)).toArray] [] fun u _ => u = .tuple #[.string (str (CLS ++ 58 :: 32 :: dd body.length)), iq 0] := zQ4 body.length hb
 have hL0 : PlL (CLS ++ 58 :: 32 :: dd body.length) ∧ (CLS ++ 58 :: 32 :: dd body.length).length ≤ 256 := yF9 body.length hb
 obtain ⟨M, hM⟩ : ∃ M, M = [(CLS ++ 58 :: 32 :: dd body.length, (clS, dd body.length)), (l, (n, v))] := ⟨_, rfl⟩
 have hF : ∀ i x, M[i]? = some x → (0 < i → (x.2.1 == clS) = false) ∧ (PlL x.1 ∧ x.1.length ≤ 256) ∧ Fn Tryz.prog 34 [.agg (fcl x.2).toArray] [] fun u _ => u = .tuple #[.string (str x.1), iq 0] := fun i x hx => by
  subst hM
  match i, hx with
  | 0, hx => obtain rfl := lV hx; exact ⟨fun h => absurd h (by decide), hL0, f0⟩
  | 1, hx => obtain rfl := lV hx; exact ⟨fun _ => hne, hl, f1⟩
  | i + 2, hx => simp at hx
 have hMl : M.length = 2 := by subst hM; rfl
 have hMf : fcl (clS, dd body.length) ++ fcl (n, v) = fcs (kB8 M) := by subst hM; rfl
 have hML : [sttS, CLS ++ 58 :: 32 :: dd body.length, l] = sttS :: kB2 M := by subst hM; rfl
 rw [hML]
 refine jA7 ([.own g1 52 [iq 206, .slice (some ⟨gf, o, none⟩) 1 c, .string (str body)], .ro gi 0 (fcs (kB8 M))] ++ rowE (.slice (some ⟨g2, 0, none⟩) 1 1) 9 1 (svs (sttS :: kB2 (M.take 0)))) ?_ ?_
 ·rw [← hMf]
  exact ((HLe.ownRow (size := 1) (n := 1) [_, _] [] rfl (by decide)).trans (HLe.rowRo [_] [_])).trans (pH [2, 0, 1] rfl)
 refine aB ?_
 refine jC3 (ι := Nat × Value) (fun i => [(1, ptr g1 0), (6, i.2), (42, .slice (some ⟨gi, 0, none⟩) M.length ci), (43, iq (M.length : Nat)), (44, iq (i.1 : Nat))]) (fun i => [.own g1 52 [iq 206, .slice (some ⟨gf, o, none⟩) 1 c, .string (str body)], .ro gi 0 (fcs (kB8 M))] ++ rowE i.2 9 1 (svs (sttS :: kB2 (M.take i.1))))
  (fun i => i.1 ≤ M.length ∧ RowOk i.2 (i.1 + 1)) (fun i => M.length - i.1) (0, .slice (some ⟨g2, 0, none⟩) 1 1) ⟨lZ _, RowOk.mk _ _ _⟩ (kE rfl (kE rfl (kE (by rw [hMl]; rfl) (kE (by rw [hMl]; rfl) (kE rfl kF))))) (hV _) ?_
 rintro ⟨i, A⟩ ⟨hi, hA⟩
 simp only at hi hA
 refine aR (fun Z hZ => jB0 ?_)
 refine sN (hZ _ _ <| f6K 1 6 42 43 44 45 rfl <| aS (aC0 (fun h3 => ?_) (fun h3 => ?_)))
 ·have hlt : i < M.length := by simpa using h3
  obtain ⟨x, hx⟩ : ∃ x, M[i]? = some x := ⟨_, xF hlt⟩
  obtain ⟨hx1, hx2, hx3⟩ := hF i x hx
  obtain ⟨A1, c1, rfl, hA1⟩ := hA.form
  have hxf : (kB8 M)[i]? = some x.2 := by rw [kB8, xZ, hx]; rfl
  refine jA7 ([.own g1 52 [iq 206, .slice (some ⟨gf, o, none⟩) 1 c, .string (str body)], .ro gi 0 (fcs (kB8 M))] ++ rowE (.slice A1 (i + 1) c1) 9 1 (svs (sttS :: kB2 (M.take i)))) (hV _) <| aK <| nN <| aS (aB <| aR fun Z hZ => sM rfl rfl <| jA8 (i * 2) Tryz.underlying50 tyS97 rfl rfl (by omega) (by simp) rfl ?_)
  refine jE0 1 rfl rfl (i * 2) (by omega) tyA97 tyS97 (wN7 hxf) rfl ?_
  refine sAl tyZ97 rfl (fun g4 => sA rfl rfl <| sS0 0 tyS97 ?_)
  refine sN (hZ _ _ <| f7K 1 6 7 8 42 43 44 rfl <| aS <| jA0 [(1, ptr g1 0), (6, .slice A1 (i + 1) c1), (8, ptr g4 0), (42, .slice (some ⟨gi, 0, none⟩) M.length ci), (43, iq (M.length : Nat)), (44, iq (i : Nat)), (54, .bool false)] ([.own g4 97 (fcl x.2), .own g1 52 [iq 206, .slice (some ⟨gf, o, none⟩) 1 c, .string (str body)], .ro gi 0 (fcs (kB8 M))] ++ rowE (.slice A1 (i + 1) c1) 9 1 (svs (sttS :: kB2 (M.take i)))) (fun Z hZ => ?_) ?_)
  ·refine sM rfl rfl <| jC4 ?_
   refine sM rfl rfl <| jB3 51 rfl (fun hb2 => ?_) (fun hb2 => ?_)
   ·refine sOn0 ?_
    refine sLA0 0 tyA97 tyS97 ?_
    refine sOn0 ?_
    refine sCP0 (kX5 x.2.1 x.2.2) ?_
    refine sP0 ?_
    refine sN (hZ _ _ ?_ ?_)
    ·exact kE rfl (kE rfl (kE rfl (kE rfl (kE rfl (kE rfl (kE (by first | rfl | exact congrArg some (congrArg Value.bool (hx1 (by simpa using hb2)))) kF))))))
    ·exact hV _
   ·refine sO0 ?_
    refine sO0 ?_
    refine sP0 ?_
    refine sN (hZ _ _ ?_ ?_)
    ·exact kE rfl (kE rfl (kE rfl (kE rfl (kE rfl (kE rfl (kE (by first | rfl | exact congrArg some (congrArg Value.bool (hx1 (by simpa using hb2)))) kF))))))
    ·exact hV _
  refine aC0 (fun h4 => ?_) (fun h4 => ?_)
  ·cases h4
  refine aK <| nN <| aR (fun Z hZ => sLA0 0 tyA97 tyS97 ?_)
  refine sCP0 hx3 ?_
  refine sM rfl rfl <| sX rfl rfl rfl <| sX rfl rfl rfl <| sA rfl rfl <| sAN hZ rfl rfl <| f7K 1 6 9 10 42 43 44 rfl <| aS <| aR fun Z hZ => sM rfl rfl <| jA6 ?_
  refine sN (hZ _ _ <| f8K 1 6 9 10 42 43 44 61 rfl <| aC0 (fun h5 => ?_) (fun h5 => ?_))
  ·cases h5
  refine aK <| nN <| aG (fun Z hZ => sM rfl rfl <| sM rfl rfl <| sBS0 Tryz.underlying94 tyS9 tyZ9 (fun g5 => ?_))
  refine jD3 [_, .own g4 97 (fcl x.2), .own g1 52 [iq 206, .slice (some ⟨gf, o, none⟩) 1 c, .string (str body)], .ro gi 0 (fcs (kB8 M))] yZ7 rfl hA (by simp [svs, kB2, xV]; omega) rfl (fun w hw => jI0 (i := 0) (n := 1) (xs := [.string (str x.1)]) rfl rfl hw) rfl (by show _ ≤ 9223372036854775807; omega) (by omega) (hV _) rfl (fun v2 hv2 => ?_)
  refine sAN hZ rfl rfl ?_
  refine nF [(1, _), (6, _), (42, _), (43, _), (44, _)] (kR rfl) ?_
  repeat (with_reducible refine nBN ?_)
  refine nN ?_
  refine aG (fun Z hZ => ?_)
  refine jB7 rfl rfl ((i + 1 : Nat) : Int) (by rw [lT _ (by omega)]; omega) rfl ?_
  refine sMN hZ rfl rfl <| nF [(1, _), (6, _), (42, _), (43, _), (44, _)] (kR rfl) <| jC2 (i + 1, v2) ⟨hlt, hv2⟩ (by simp; omega) (kR rfl) ?_
  simp only
  rw [show svs (sttS :: kB2 (M.take (i + 1))) = svs (sttS :: kB2 (M.take i)) ++ [.string (str x.1)] from by rw [kB2, kB2, qC hlt, x0, ← lL, svs, x0]; simp [(List.getElem?_eq_some_iff.1 hx).2]]
  exact kC 2 rfl
 ·refine jB5 ?_
  repeat (with_reducible refine nTE ?_)
  refine nBE ?_
  refine nN ?_
  have hie : i = M.length := by simp at h3; omega
  subst hie
  rw [xY]
  obtain ⟨A1, c1, rfl, hA1⟩ := hA.form
  obtain ⟨LL, hLL⟩ : ∃ LL, LL = sttS :: kB2 M ++ [[]] := ⟨_, rfl⟩
  have hLl : LL.length = M.length + 2 := by rw [hLL]; simp [kB2]
  have hok : ∀ x ∈ LL, PlL x ∧ x.length ≤ 256 := fun x hx => by
   rw [hLL] at hx
   rcases List.mem_append.1 hx with hx | hx
   ·rcases List.mem_cons.1 hx with rfl | hx
    ·exact ⟨rfl, by decide⟩
    ·obtain ⟨y, hy, rfl⟩ := List.mem_map.1 hx
     obtain ⟨j, hj⟩ := List.mem_iff_getElem?.1 hy
     exact (hF j y hj).2.1
   ·rw [List.mem_singleton.1 hx]; exact ⟨rfl, by decide⟩
  have hend : hbp LL = hdB (sttS :: kB2 M) := by rw [hLL, vL2]; rfl
  rw [← hend]
  have hbl : ∀ i, (hbp (LL.take i)).length ≤ 1100 := fun i => by
   have h1 := yX4 (L := LL.take i) fun x hx => (hok x (List.mem_of_mem_take hx)).2
   have h2 : (LL.take i).length ≤ 4 := by rw [xV, hLl, hMl]; omega
   omega
  refine aA rfl rfl <| f3K 1 6 11 rfl <| aS <| aR fun Z hZ => sM rfl rfl <| sBS0 Tryz.underlying94 tyS9 tyZ9 (fun g6 => ?_)
  refine jD3 [_, .own g1 52 [iq 206, .slice (some ⟨gf, o, none⟩) 1 c, .string (str body)], .ro gi 0 (fcs (kB8 M))] yZ7 rfl hA (by simp [svs, kB2]) rfl (fun w hw => jI0 (i := 0) (n := 1) (xs := [.string (str [])]) rfl rfl hw) rfl (by show _ ≤ 9223372036854775807; omega) (by omega) (hV _) rfl (fun v3 hv3 => ?_)
  obtain ⟨gl, cl, rfl⟩ := hv3.some (by omega)
  refine jE5 Tryz.underlying94 rfl rfl <| sMN hZ rfl rfl <| f5K 1 11 70 71 72 rfl <| jA7 [.own g1 52 [iq 206, .slice (some ⟨gf, o, none⟩) 1 c, .string (str body)], .ro gl 0 (svs LL)] ?_ ?_
  ·rw [hLL]
   simp only [svs, x0]
   exact (HLe.rowRo [_] []).trans (pH [1, 3] rfl)
  refine aB ?_
  refine jC3 (ι := Nat) (fun i => [(1, ptr g1 0), (11, .string (str (hbp (LL.take i)))), (70, .slice (some ⟨gl, 0, none⟩) (M.length + 1 + 1) cl), (71, iq (M.length + 2 : Nat)), (72, iq (i : Nat))]) (fun i => [.own g1 52 [iq 206, .slice (some ⟨gf, o, none⟩) 1 c, .string (str body)], .ro gl 0 (svs LL)])
   (fun i => i ≤ LL.length) (fun i => LL.length - i) 0 (lZ _) (kR rfl) (hV _) ?_
  intro i hi
  refine aR (fun Z hZ => jB0 ?_)
  refine sN (hZ _ _ <| f6K 1 11 70 71 72 73 rfl <| aS (aC0 (fun h4 => ?_) (fun h4 => ?_)))
  ·have hlt : i < LL.length := by simp at h4; omega
   obtain ⟨x, hx⟩ : ∃ x, LL[i]? = some x := ⟨_, xF hlt⟩
   obtain ⟨hx1, hx2⟩ := hok x (xN hx)
   have f3 := vD9 x hx1 (by omega)
   rw [if_pos hx2, if_pos hx2] at f3
   have hsn := vS5 hx
   have hb1 := hbl i
   refine aK <| nN <| aS (aB <| aR (fun Z hZ => jA8 (i * 1) Tryz.underlying94 tyS9 rfl rfl (by omega) (by simp) rfl ?_))
   refine jE0 1 rfl rfl (i * 1) (by omega) tyA9 tyS9 (vP5 hx) rfl ?_
   refine sAN hZ rfl rfl <| f6K 1 11 13 70 71 72 rfl <| aR fun Z hZ => sM rfl rfl <| sCP0 f3 ?_
   refine sM rfl rfl <| sX rfl rfl rfl <| sX rfl rfl rfl <| sA rfl rfl <| sAN hZ rfl rfl <| f7K 1 11 14 15 70 71 72 rfl <| aS <| aR fun Z hZ => sM rfl rfl <| jA6 ?_
   refine sN (hZ _ _ <| f8K 1 11 14 15 70 71 72 82 rfl <| aC0 (fun h5 => ?_) (fun h5 => ?_))
   ·cases h5
   refine aK <| nN <| aG (fun Z hZ => sM rfl rfl <| sM rfl rfl <| jN3 rfl rfl (by (rw [lN]; show _ + (_ + 2) ≤ _; omega)) rfl ?_)
   refine sAN hZ rfl rfl ?_
   refine nF [(1, _), (11, _), (70, _), (71, _), (72, _)] (kR rfl) ?_
   repeat (with_reducible refine nBN ?_)
   refine nN ?_
   refine aG (fun Z hZ => ?_)
   refine jB7 rfl rfl ((i + 1 : Nat) : Int) (by rw [lT _ (by omega)]; omega) rfl ?_
   refine sMN hZ rfl rfl <| nF [(1, _), (11, _), (70, _), (71, _), (72, _)] (kR rfl) <| jC2 (i + 1) hlt (by omega) (kE rfl (kE (by rw [hsn]; rfl) (kR rfl))) (hV _)
  ·refine jB5 ?_
   repeat (with_reducible refine nTE ?_)
   refine nBE ?_
   refine nN ?_
   have hie : i = LL.length := by simp at h4; omega
   subst hie
   have hb1 := hbl LL.length
   rw [xY] at hb1 ⊢
   refine aR fun Z hZ => sM rfl rfl <| sFA0 kJ6 ?_
   refine sL0 0 tyA9 tyS9 ?_
   refine jN3 rfl rfl (by omega) rfl ?_
   refine sA rfl rfl <| sAN hZ rfl rfl <| f2K 2 3 rfl <| aE <| jF3 rfl rfl rfl rfl
def crS : Bs := [99, 111, 110, 116, 101, 110, 116, 45, 114, 97, 110, 103, 101]
def CRS : Bs := [67, 111, 110, 116, 101, 110, 116, 45, 82, 97, 110, 103, 101]
theorem vI2 (a b t : Nat) : PlL (jF6 a b t) := PlL.app (a := [98, 121, 116, 101, 115, 32]) rfl ((wH3 a b).app (PlL.app (a := [47]) rfl (vZ1 t)))
theorem kU9 {a b t : Nat} (ha : a < 1000) (hb : b < 1000) (ht : t < 1000) : (jF6 a b t).length ≤ 17 := by
 have l1 := kW3 ha hb
 have l2 := dd_3 ht
 simp only [jF6, lN, qS]; omega
theorem yX9 {c : UInt8} (x : Bs) {v : Bs} (hc : gapB c = false) (h : NoGap v) : NoGap (c :: x ++ v) := ⟨by simp, fun b hb => by obtain rfl := lV hb; exact hc, fun b hb => h.tl b (by
 have hl : 0 < v.length := List.length_pos_iff.2 h.ne
 rw [lN, qH (by omega), show (c :: x).length + v.length - 1 - (c :: x).length = v.length - 1 by omega] at hb
 exact hb)⟩
theorem vO8 (a b t : Nat) : NoGap (jF6 a b t) := by
 have h := yX9 (c := 98) ([121, 116, 101, 115, 32] ++ (rtx a b ++ [47])) rfl (wR3 t)
 have e : jF6 a b t = 98 :: ([121, 116, 101, 115, 32] ++ (rtx a b ++ [47])) ++ dd t := by simp [jF6]
 rw [e]
 exact h
theorem yF8 {a b t : Nat} (ha : a < 1000) (hb : b < 1000) (ht : t < 1000) : PlL (CRS ++ 58 :: 32 :: jF6 a b t) ∧ (CRS ++ 58 :: 32 :: jF6 a b t).length ≤ 256 :=
 ⟨PlL.app (a := CRS) rfl (PlL.app (a := [58, 32]) rfl (vI2 a b t)), by have := kU9 ha hb ht; simp [CRS]; omega⟩
theorem zQ1 {a b t : Nat} (ha : a < 1000) (hb : b < 1000) (ht : t < 1000) : Fn Tryz.prog 34 [.agg (fcl (crS, jF6 a b t)).toArray] [] fun u _ => u = .tuple #[.string (str (CRS ++ 58 :: 32 :: jF6 a b t)), iq 0] := by
 have h1 := kU9 ha hb ht
 exact vF2 crS (jF6 a b t) ⟨by decide, by decide, by decide⟩ (vI2 a b t) (vO8 a b t) (by show 13 + 2 + _ ≤ _; omega)
def ansL (a b t n : Nat) : List Bs := [sttS, CLS ++ 58 :: 32 :: dd n, CRS ++ 58 :: 32 :: jF6 a b t]
theorem vQ3 (gf o c a b t : Nat) (body : Bs) (ha : a < 1000) (hb : b < 1000) (ht : t < 1000) (hl : body.length < 1000) :
  Fn Tryz.prog 12 [.agg #[iq 206, .slice (some ⟨gf, o, none⟩) 1 c, .string (str body)]] ([.ro gf o (fcs [(crS, jF6 a b t)])] ++ TP) fun u _ => u = .tuple #[.string (str (hdB (ansL a b t body.length) ++ body)), iq 0] :=
 wH4 gf o c crS (jF6 a b t) (CRS ++ 58 :: 32 :: jF6 a b t) body (zQ1 ha hb ht) (yF8 ha hb ht) (by decide) hl
theorem yY9 (g c : Nat) (x y : Bs × Bs) (hx : (x.1 == clS) = true) :
  Fn Tryz.prog 193 [.slice (some ⟨g, 0, none⟩) 2 c, fnV 33] [.ro g 0 (fcs [x, y])] fun v _ => v = iq 0 := by
 have f1 := kX5 x.1 x.2
 rw [hx] at f1
 refine fE 19 Tryz.func193 rfl (fun w0 => aA rfl rfl <| f2K 0 1 rfl <| aS <| aR fun Z hZ => sM rfl rfl <| jE5 Tryz.underlying50 rfl rfl <| sMN hZ rfl rfl <| f4K 0 1 7 8 rfl <| aB <| jC3 (ι := Nat) (fun i => [(0, .slice (some ⟨g, 0, none⟩) 2 c), (1, fnV 33), (7, iq (2 : Nat)), (8, iq (i : Nat))]) (fun _ => [.ro g 0 (fcs [x, y])]) (fun i => i = 0) (fun i => i) 0 rfl (kR rfl) (hV _) ?_)
 rintro i rfl
 refine aR (fun Z hZ => jB0 ?_)
 refine sN (hZ _ _ <| f5K 0 1 7 8 9 rfl <| aS (aC0 (fun h => ?_) (fun h => ?_)))
 ·refine aK <| nN <| aS (aB <| aR fun Z hZ => sM rfl rfl <| sAN hZ rfl rfl <| f5K 0 1 5 7 8 rfl <| aR fun Z hZ => sM rfl rfl <| sM rfl rfl <| sM rfl rfl <| jA8 0 Tryz.underlying50 tyS97 rfl rfl (by decide) rfl rfl ?_)
  refine jE0 0 rfl rfl 0 rfl tyA97 tyS97 rfl rfl <| jZ5 (caps := []) (vs := [.agg (fcl x).toArray]) [] f1 rfl rfl (kA (lO _)) Ro.nil rfl <| sN (hZ _ _ <| f6K 0 1 5 7 8 16 rfl <| aC0 (fun h2 => ?_) (fun h2 => ?_))
  ·refine aR (fun Z hZ => ?_)
   refine sM rfl rfl <| sAN hZ rfl rfl ?_
   refine f1K 4 rfl ?_
   refine aE ?_
   repeat (with_reducible (first | refine nTR ?_ | refine nBR ?_))
   exact nR1 rfl rfl rfl
  cases h2
 ·cases h
theorem wZ9 {g n c m : Nat} {e : TypeId} {xs : List Value} (hm : m ≤ n) (H : Heap) : HLe (.ob g (RowP e 2 m c (xs.take (m * 2))) :: H) (.ob g (RowP e 2 n c xs) :: H) :=
 HLe.putAt [] H rfl rfl rfl fun w h => by
  obtain ⟨ob, hg, cur, rfl, h2, h3, h4, h5, h6⟩ := h
  refine ⟨_, hg, cur, rfl, by omega, h3, h4, ?_, by rw [xV, h6]; omega⟩
  rw [← h5, List.take_take, z8 (by omega)]
theorem yZ1 (g c : Nat) (x y : Bs × Bs) (hx : (x.1 == clS) = true) (hy : (y.1 == clS) = false) :
  Fn Tryz.prog 124 [.slice (some ⟨g, 0, none⟩) 2 c, fnV 33] [.ob g (RowP 97 2 2 c (fcs [x, y]))] fun v H' => v = .slice (some ⟨g, 0, none⟩) 1 c ∧ H' = [.ob g (RowP 97 2 1 c (fcs [y]))] := by
 have f1 := yY9 g c x y hx
 have f2 := kX5 y.1 y.2
 rw [hy] at f2
 refine fE 42 Tryz.func124 rfl (fun w0 => jW4 (fun w hw => row_cap (RowOk.mk g 2 c) (fun x hx => hx) hw) (fun hcap => ?_))
 have hc2 := hcap.1
 refine aA rfl rfl <| f2K 0 1 rfl <| aR fun Z hZ => sM rfl rfl <| sM rfl rfl <| jO0 [.ro g 0 (fcs [x, y])] f1 rfl (HLe.rowRo [] []) (kG (some ⟨g, 0, none⟩) _) rfl <| sAN hZ rfl rfl <| f3K 0 1 5 rfl <| aS <| aR fun Z hZ => sM rfl rfl <| jB1 ?_
 refine sN (hZ _ _ <| f4K 0 1 5 12 rfl <| aC0 (fun h1 => ?_) (fun h1 => ?_))
 ·cases h1
 refine aK ?_
 refine nN ?_
 refine aS ?_
 refine aR fun Z hZ => sM rfl rfl ?_
 refine jB7 rfl rfl (1 : Int) (by decide) rfl ?_
 refine sAN hZ rfl rfl <| f4K 0 1 5 6 rfl <| aB <| jC3 (ι := Nat) (fun i => [(0, .slice (some ⟨g, 0, none⟩) 2 c), (1, fnV 33), (5, iq (i : Nat)), (6, iq ((i + 1 : Nat) : Int))]) (fun i => [.ob g (RowP 97 2 2 c (fcl (if i = 0 then x else y) ++ fcl y))]) (fun i => i ≤ 1) (fun i => 1 - i) 0 (by decide) (kR rfl) (hV _) ?_
 intro i hi
 refine aS <| aR fun Z hZ => sM rfl rfl <| sM rfl rfl <| jE5 Tryz.underlying50 rfl rfl <| jB0 ?_
 refine sN (hZ _ _ <| f5K 0 1 5 6 19 rfl <| aC0 (fun h2 => ?_) (fun h2 => ?_))
 ·obtain rfl : i = 0 := by simp at h2; omega
  refine aK <| nN <| aS (aB <| aR fun Z hZ => sM rfl rfl <| sM rfl rfl <| jA8 2 Tryz.underlying50 tyS97 rfl rfl (by decide) rfl rfl ?_)
  refine jN2 2 rfl rfl (fun w hw => jS6 (i := 0) rfl hw) (by decide) tyA97 tyS97 (v := .agg (fcl y).toArray) rfl rfl ?_
  refine sAl tyZ97 rfl (fun g1 => sS0 0 tyS97 ?_)
  refine sN (hZ _ _ <| f5K 0 1 5 6 7 rfl <| aR fun Z hZ => sM rfl rfl <| sLA0 0 tyA97 tyS97 ?_)
  refine jZ5 (caps := []) (vs := [.agg (fcl y).toArray]) [] f2 rfl rfl (kA (lO _)) Ro.nil rfl <| jE8 rfl rfl <| sN (hZ _ _ <| f6K 0 1 5 6 7 29 rfl <| aC0 (fun h3 => ?_) (fun h3 => ?_))
  ·refine aR (fun Z hZ => sM rfl rfl <| sM rfl rfl <| sLA0 0 tyA97 tyS97 ?_)
   refine jA8 0 Tryz.underlying50 tyS97 rfl rfl (by decide) rfl rfl ?_
   refine vI4 (ys := fcl y ++ fcl y) 1 rfl rfl rfl tyS97 rfl rfl rfl (by decide) rfl rfl ?_
   refine sN (hZ _ _ ?_)
   refine f4K 0 1 5 6 rfl ?_
   refine aG (fun Z hZ => ?_)
   refine sM rfl rfl ?_
   refine jB7 rfl rfl (1 : Int) (by decide) rfl ?_
   refine sAN hZ rfl rfl ?_
   refine nF [(0, _), (1, _), (5, _), (6, _)] (kR rfl) ?_
   repeat (with_reducible refine nBN ?_)
   refine nN ?_
   refine aG (fun Z hZ => ?_)
   refine sM rfl rfl ?_
   refine jB7 rfl rfl (2 : Int) (by decide) rfl ?_
   refine sAN hZ rfl rfl <| nF [(0, _), (1, _), (5, _), (6, _)] (kR rfl) <| jC2 1 (by decide) (by decide) (kR rfl) (kC 1 rfl)
  cases h3
 ·refine jB5 ?_
  repeat (with_reducible refine nTE ?_)
  refine nBE ?_
  refine nN ?_
  obtain rfl : i = 1 := by simp at h2; omega
  refine aR fun Z hZ => sM rfl rfl <| sM rfl rfl <| jR6 (i := 1) (j := 2) Tryz.underlying50 tyS97 rfl rfl rfl (by decide) (by decide) (by omega) rfl (fun o' ho' => ?_)
  obtain rfl : o' = 2 := ho' (by decide)
  refine wY5 0 (size := 2) (k := 1) (m := 1) (n := 2) (c := c) (xs := fcl y ++ fcl y) Tryz.underlying50 rfl tyZ97 rfl rfl rfl (fun _ => rfl) rfl rfl rfl <| sN (hZ _ _ <| f2K 0 5 rfl <| aR fun Z hZ => sM rfl rfl <| sM rfl rfl <| wD2 (j := 1) Tryz.underlying50 tyS97 rfl rfl rfl (by omega) rfl ?_)
  refine sAN hZ rfl rfl <| f1K 4 rfl <| aE <| jD9 [.ob g (RowP 97 2 1 c (fcs [y]))] rfl rfl (wZ9 (m := 1) (by decide) []) ⟨rfl, rfl⟩
section
variable {P : Program} {N : Frm} {w0 : World} {Wr : List Nat} {ops : Array Oper} {rest : List Oper} {fr : Fr} {H : Heap} {Z : Fr → Heap → Prop}
variable {d ty : Nat} {pos : String} {after : Array Edge}
theorem kP8 {x : Operand} {name : String} {ts : Array TypeId} {ρ : Operand → Value} {t : TypeId} {v rv : Value} {f : FuncId} {w : World} (hx : ρ x = .iface t v) (hm : (Go.method (P.types.size + Made.depth) t v name).run P w = .ok (f, rv) w) {dst : Option Nat} :
  (execOp ρ ⟨dst, .call { callee := .invoke x name, args := #[], argTypes := ts }, ty, pos, after, none⟩).run P w = (callFunc f #[rv]).run P w := by
 have h1 : (callMethod (.iface t v) name #[]).run P w = (callFunc f #[rv]).run P w := by
  show (Go.method (P.types.size + Made.depth) t v name >>= fun p => callFunc p.1 (#[p.2] ++ #[])).run P w = _
  rw [lJ, hm]
  rfl
 simp only [execOp, resolve, invoke, hx, lJ, l7, lR]
 simp
 exact h1
theorem vW2 {x : Operand} {name : String} {ts : Array TypeId} {t : TypeId} {v rv r : Value} {f : FuncId} {fn : Func} {ex : Array Value → Sem Value} (hx : ev fr x = some (.iface t v)) (hm : ∀ w, (Go.method (P.types.size + Made.depth) t v name).run P w = .ok (f, rv) w) (hf : P.funcs[f]? = some fn) (hname : (fn.name == "runtime.NumGoroutine") = false)
  (hb : fn.body.isNone = true) (hn : Extern.findNext fn = none) (he : Extern.find fn = some ex) (hr : ∀ w, (ex #[rv]).run P w = .ok r w) (hN : bN d N)
  (h : sx P N w0 Wr ops rest ((d, r) :: fr) H Z) :
  sx P N w0 Wr ops (⟨some d, .call { callee := .invoke x name, args := #[], argTypes := ts }, ty, pos, after, none⟩ :: rest) fr H Z :=
 jE4 _ hN (fun a w ha _ => by
  rw [kP8 (ha.eval hx) (hm w), run_callFunc_extern hf hname hb hn he #[rv] w, hr w]
  rfl) h
theorem wD6 {x : Operand} {name : String} {ts : Array TypeId} {t : TypeId} {v rv : Value} {f : FuncId} {R : Value → Heap → Prop} (Hc U K : Heap) (hx : ev fr x = some (.iface t v)) (hm : ∀ w, (Go.method (P.types.size + Made.depth) t v name).run P w = .ok (f, rv) w) (hc : Fn P f [rv] (Hc ++ U) R) (hH : HLe (Hc ++ K) H) (hU : U.Sublist K) (hroU : Ro U) (hN : bN d N)
  (h : ∀ v H', R v H' → sx P N w0 Wr ops rest ((d, v) :: fr) (H'.filter Ent.wr ++ K) Z) :
  sx P N w0 Wr ops (⟨some d, .call { callee := .invoke x name, args := #[], argTypes := ts }, ty, pos, after, none⟩ :: rest) fr H Z :=
 vB3 rfl fun a w K' Q ha hw hK => by
  obtain ⟨fn, h1, h2, h3⟩ := hc.1
  have h2' : ¬ (fn.name = "runtime.NumGoroutine") := by simpa using h2
  have h3' : ¬ (fn.body = none) := by intro e; rw [e] at h3; cases h3
  unfold Oper.wp
  rw [kP8 (ha.eval hx) (hm w), show (callFunc f #[rv]).run P w = .ok (.enter f #[rv]) w from by simp [callFunc, h1, h2', h3', program, lJ, l7, Sem.run]]
  have hw' := hH _ _ _ hw
  have hpre : Sat w (wrs (Hc ++ U)) (Hc ++ U) w := by
   have hsub := hw'.sub (uE hU Hc)
   exact ⟨Only.refl _ _, fun e he => ⟨(hsub.ents e he).1, fun h => .inl (mem_wrs.2 ⟨e, he, h, rfl⟩)⟩, hsub.sep⟩
  refine (hc.2 w hpre).mono fun e w' he => ?_
  obtain ⟨v, H', rfl, hR, hS⟩ := he
  exact hK v w' _ _ (h v H' hR) (ha.put hN v) (hw'.callA hroU hS)
end
theorem kV2 {P : Program} {N : Frm} {w0 : World} {Wr : List Nat} {ops : Array Oper} {rest : List Oper} {fr : Fr} {H : Heap} {Z : Fr → Heap → Prop} {d ty : Nat} {pos : String} {after : Array Edge}
  {op : BinOp} {t u : TypeId} {x y : Operand} {a b r : Value} (hx : ev fr x = some a) (hy : ev fr y = some b) (hr : ∀ w, (do eqGuard op t x y a b; binOp op t a b : Sem Value).run P w = .ok r w) (hN : bN d N)
  (h : sx P N w0 Wr ops rest ((d, r) :: fr) H Z) : sx P N w0 Wr ops (⟨some d, .binOp op t x y u, ty, pos, after, none⟩ :: rest) fr H Z :=
 jE4 _ hN (fun A w ha _ => by
  have h1 := hr w
  simp only [execOp, ha.eval hx, ha.eval hy]
  rw [lJ, h1]
  rfl) h
abbrev tknV : Value := .iface 146 (.string (str [116, 97, 107, 101, 110]))
theorem zK3 : Fn Tryz.prog 126 [tknV, tknV, .bool true] [] fun v _ => v = .bool true := by
 refine fE 54 Tryz.func126 rfl (fun w0 => aA rfl rfl <| f3K 0 1 2 rfl <| aB <| jC3 (ι := Nat) (fun i => [(0, tknV), (1, tknV), (2, .bool true)]) (fun _ => []) (fun i => i = 0) (fun i => i) 0 rfl (kR rfl) (hV _) ?_)
 rintro i rfl
 refine aB <| aS <| jA0 [(19, .bool true)] [] (fun Z hZ => ?_) ?_
 ·refine sM rfl rfl <| sM rfl rfl <| jB9 15 rfl true (by rfl) ?_
  refine sOn0 ?_
  refine sM rfl rfl <| sOn0 ?_
  refine sM rfl rfl <| sOn0 ?_
  refine kV2 (r := .bool true) rfl rfl (kW) rfl <| sP0 ?_
  refine sN (hZ _ _ ?_ ?_)
  ·exact kE rfl kF
  ·exact hV _
 first | refine aC0 (fun h1 => ?_) (fun h1 => ?_) | refine aS (aC0 (fun h1 => ?_) (fun h1 => ?_))
 ·refine aR (fun Z hZ => sAN hZ rfl rfl <| f1K 6 rfl <| aE ?_)
  repeat (with_reducible (first | refine nTR ?_ | refine nBR ?_ | refine jD4 ?_))
  exact nR10 rfl
 cases h1
theorem zE3 : ∃ h, (∀ w, (Extern.ReflectliteType.typeOf #[tknV]).run Tryz.prog w = .ok (.iface 263 (.agg #[h])) w) ∧ (∀ w, (Go.method (Tryz.prog.types.size + Made.depth) 263 (.agg #[h]) "Comparable").run Tryz.prog w = .ok (337, .agg #[h]) w) ∧
  ∀ w, ((Extern.ReflectliteType.method fun t => do Extern.Rtype.noPackHeld "Comparable" t; pure (.bool (← typeInfo t).comparable)) #[.agg #[h]]).run Tryz.prog w = .ok (.bool true) w :=
 ⟨typeHandle Tryz.prog 146, kW, kW, kW⟩
theorem zO8 : Fn Tryz.prog 65 [tknV, tknV] [] fun v _ => v = .bool true := by
 obtain ⟨tkh, tk_type, tk_meth, tk_comp⟩ := zE3
 refine fE 22 Tryz.func65 rfl (fun w0 => aA rfl rfl <| f2K 0 1 rfl <| aS <| jA0 [(0, tknV), (1, tknV), (11, .bool false)] [] (fun Z hZ => ?_) ?_)
 ·refine sM rfl rfl <| kV2 (r := .bool false) rfl rfl (kW) rfl <| sM rfl rfl <| jB9 8 rfl false (by rfl) ?_
  refine sOn0 ?_
  refine sM rfl rfl <| sOn0 ?_
  refine kV2 (r := .bool false) rfl rfl (kW) rfl <| sP0 ?_
  refine sN (hZ _ _ ?_ ?_)
  ·exact kR rfl
  ·exact hV _
 first | refine aC0 (fun h1 => ?_) (fun h1 => ?_) | refine aS (aC0 (fun h1 => ?_) (fun h1 => ?_))
 ·cases h1
 refine aK ?_
 repeat (with_reducible (first | refine nBN ?_ | refine jL4 ?_))
 with_reducible first | refine nN ?_ | refine jO8 ?_
 refine aR fun Z hZ => sM rfl rfl <| kK5 (R := fun v H' => v = .iface 263 (.agg #[tkh]) ∧ H' = []) Tryz.func125 (by kernel_rfl) (by kernel_rfl) (by kernel_rfl) (by kernel_rfl) rfl rfl (fun w hw => ⟨_, _, _, tk_type w, ⟨rfl, rfl⟩, hw⟩) ?_
 rintro v H' ⟨rfl, rfl⟩
 refine vW2 (r := .bool true) rfl tk_meth Tryz.func337 (by kernel_rfl) (by kernel_rfl) (by kernel_rfl) (by kernel_rfl) tk_comp rfl ?_
 refine sAN hZ rfl rfl <| f3K 0 1 5 rfl <| aR fun Z hZ => sM rfl rfl <| sM rfl rfl <| sM rfl rfl <| sCP0 zK3 ?_
 refine sAN hZ rfl rfl <| f1K 4 rfl <| aE ?_
 repeat (with_reducible (first | refine nTR ?_ | refine nBR ?_ | refine jD4 ?_))
 exact nR10 rfl
end
end Go.Proofs.YteofkgedfjffcaaGreatDoor
