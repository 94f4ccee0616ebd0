/- Walks and plain laws for this claim (texts SxC, Nt1, Nt2, Gva1, Gen1, Gop1, Gop2, Cm1, LayCh, Gch1, LaySort, Zo1, Gch2, Mg1, joined). Each theorem states its own conditions. -/
import Derived.Test.YteofkgedfjffcaaGreatDoorJ03
import Derived.Shelf.Small.Strs
import Derived.Shelf.Strconv.Itoa0
import Derived.ProofKit
import Derived.OpenShut
import Derived.ShutString
import Derived.ChangeOld
import Derived.Lib.SmallJoins
import Derived.Deep.Slices
import Derived.WalkKit
import Derived.Shelf.SlSortCmp.WholeK
import Derived.Shelf.SlSortCmp.NoneTotal
import Derived.Lib.ItoaNum
set_option linter.all false
namespace Go.Proofs.YteofkgedfjffcaaGreatDoor
section
open Go.RowKit
theorem ixb0 : Lays.n137 Tryz.prog jI8 := by constructor <;> first | kernel_rfl | (intro w; kernel_rfl)
theorem wP4 : Enters Tryz.prog 212 := Enters.mk Tryz.func212 (by kernel_rfl) (by kernel_rfl)
theorem zI6 (s : List UInt8) (c : UInt8) : Fn Tryz.prog 212 [.string (str s), .int .u8 (c.toNat : Int)] [] fun v _ => v = iq (Lib.indexByte s c) :=
 Fn.of_same wP4 fun w => (Any.strings_IndexByte ixb0 (str s) (c.toNat : Int) w).mono fun e w' ⟨he, hw⟩ => ⟨by rw [he]; simp [str], hw.symm⟩
abbrev rdr (g : Nat) (s : List UInt8) (at_ e : Nat) : Ent := .own g 287 [.string (str s), iq (at_ : Nat), iq (e : Nat)]
def isBl (c : UInt8) : Bool := decide (0 ≤ Lib.indexByte [32, 9, 10, 13] c)
def jG3 (s : List UInt8) (i : Nat) : Nat := i + ((s.drop i).takeWhile isBl).length
theorem wS9 {s : List UInt8} {i : Nat} {c : UInt8} (h : s[i]? = some c) (hc : isBl c = true) : jG3 s i = jG3 s (i + 1) := by
 obtain ⟨hl, hg⟩ := List.getElem?_eq_some_iff.1 h
 unfold jG3
 rw [zA hl, hg, List.takeWhile_cons_of_pos hc, lD]
 omega
theorem kR8 {s : List UInt8} {i : Nat} (h : ∀ c, s[i]? = some c → isBl c = false) : jG3 s i = i := by
 unfold jG3
 rcases xX i s.length with hl | hl
 ·have := h _ (xF hl)
  rw [zA hl, List.takeWhile_cons_of_neg (by rw [this]; decide)]
  rfl
 ·rw [List.drop_eq_nil_of_le hl]
  rfl
theorem wT0 {s : List UInt8} {i : Nat} (h : i ≤ s.length) : i ≤ jG3 s i ∧ jG3 s i ≤ s.length := by
 unfold jG3
 have h1 := (List.takeWhile_prefix (p := isBl) (l := s.drop i)).length_le
 rw [qF] at h1
 omega
theorem kL7 (g : Nat) (s : List UInt8) (i0 e : Nat) (hi0 : i0 ≤ s.length) (hs : s.length ≤ 1000000) :
  Fn Tryz.prog 156 [ptr g 0] [rdr g s i0 e] fun v H' => v = .tuple #[] ∧ H' = [rdr g s (jG3 s i0) e] := by
 refine fE 32 Tryz.func156 rfl (fun w0 => aB <| jC3 (ι := Nat) (fun i => [(0, ptr g 0)]) (fun i => [rdr g s i e]) (fun i => i ≤ s.length ∧ jG3 s i = jG3 s i0) (fun i => s.length - i) i0 ⟨hi0, rfl⟩ (kE rfl kF) (hV _) ?_)
 rintro i ⟨hi, hb⟩
 rcases xX i s.length with hl | hl
 ·obtain ⟨c, hc⟩ : ∃ c, s[i]? = some c := ⟨_, xF hl⟩
  refine aS <| jF0 [(0, ptr g 0), (24, .bool (isBl c))] [rdr g s i e] jF1 (by kernel_rfl) (fun Z hZ => ?_) ?_
  ·refine qM rfl rfl <| jC7 rfl rfl <| qFA0 jG9 ?_
   first | refine jA9 0 tyA3 tyS3 ?_
   refine qM rfl rfl <| jC7 rfl rfl <| qFA0 jL0 ?_
   first | refine jA9 0 tyA9 tyS9 ?_
   refine jP0 Tryz.underlying9 rfl rfl <| kP5 rfl rfl rfl <| qM rfl rfl <| jJ1 12 rfl true (by simp; omega) ?_
   refine jA4 ?_
   refine qM rfl rfl <| jA4 ?_
   refine jC7 rfl rfl <| jA4 ?_
   refine qFA0 jL0 ?_
   refine jA4 ?_
   first | refine jA9 0 tyA9 tyS9 ?_
   refine jA4 ?_
   refine qM rfl rfl <| jA4 ?_
   refine jC7 rfl rfl <| jA4 ?_
   refine qFA0 jG9 ?_
   refine jA4 ?_
   first | refine jA9 0 tyA3 tyS3 ?_
   refine jA4 ?_
   refine jZ9 Tryz.underlying9 rfl rfl (by omega) (by simpa using hc) rfl ?_
   refine jA4 ?_
   refine jG2 (zI6 [32, 9, 10, 13] c) rfl rfl <| jA4 ?_
   refine wF4 rfl rfl rfl <| jE1 rfl rfl rfl <| jE9 (hZ _ _ ?_ ?_)
   ·exact kR rfl
   ·exact hV _
  refine aC0 (fun h => ?_) (fun h => ?_)
  ·refine aK <| nN <| aB <| aG (fun Z hZ => sM rfl rfl <| jA1 ?_)
   refine sFA0 jG9 ?_
   first | refine sL0 0 tyA3 tyS3 ?_
   refine jB7 rfl rfl ((i + 1 : Nat) : Int) (by rw [lT _ (by omega)]; omega) rfl ?_
   refine jA1 ?_
   refine sFA0 jG9 ?_
   first | refine sS10 0 tyS3 ?_
   refine sN (hZ _ _ ?_)
   refine nF [(0, _)] (kE rfl (kF)) ?_
   repeat (with_reducible refine nBN ?_)
   exact jC2 (i + 1) ⟨by omega, (wS9 hc h).symm.trans hb⟩ (by omega) (kE rfl kF) (hV _)
  ·refine jB5 ?_
   repeat (with_reducible refine nTE ?_)
   refine nBE ?_
   have hb' : jG3 s i = i := kR8 fun c' h' => by rw [hc] at h'; rw [← lV h']; exact h
   exact jM8 _ rfl (hV _) ⟨rfl, by rw [← hb, hb']⟩
 ·refine aS <| jF0 [(0, ptr g 0), (24, .bool false)] [rdr g s i e] jF1 (by kernel_rfl) (fun Z hZ => ?_) ?_
  ·refine qM rfl rfl <| jC7 rfl rfl <| qFA0 jG9 ?_
   first | refine jA9 0 tyA3 tyS3 ?_
   refine qM rfl rfl <| jC7 rfl rfl <| qFA0 jL0 ?_
   first | refine jA9 0 tyA9 tyS9 ?_
   refine jP0 Tryz.underlying9 rfl rfl <| kP5 rfl rfl rfl <| qM rfl rfl <| jJ1 12 rfl false (by simp; omega) ?_
   refine qO0 ?_
   refine qO0 ?_
   refine qO0 ?_
   refine qO0 ?_
   refine qO0 ?_
   refine qO0 ?_
   refine qO0 ?_
   refine qO0 ?_
   refine qO0 ?_
   refine qO0 ?_
   refine qO0 ?_
   refine jE1 rfl rfl rfl <| jE9 (hZ _ _ ?_ ?_)
   ·exact kR rfl
   ·exact hV _
  refine aC0 (fun h => ?_) (fun h => ?_)
  ·cases h
  ·refine jB5 ?_
   repeat (with_reducible refine nTE ?_)
   refine nBE ?_
   have hb' : jG3 s i = i := kR8 fun c' h' => by rw [zG hl] at h'; cases h'
   exact jM8 _ rfl (hV _) ⟨rfl, by rw [← hb, hb']⟩
theorem zD7 (a b : UInt8) : decide ((a.toNat : Int) = (b.toNat : Int)) = (some a == some b) := by
 rw [lS]
 simp only [decide_eq_true_eq, beq_iff_eq, qD]
 constructor
 ·intro h; exact UInt8.toNat_inj.1 (by omega)
 ·intro h; rw [h]
theorem zM6 (a b : UInt8) : ((a.toNat : Int) != (b.toNat : Int)) = !(some a == some b) := by rw [← zD7]; rfl
def jN5 (s : List UInt8) (i : Nat) (c : UInt8) : Bool := s[i]? == some c
theorem wZ7 (g : Nat) (s : List UInt8) (i e : Nat) (c : UInt8) (hi : i ≤ s.length) (hs : s.length ≤ 1000000) :
  Fn Tryz.prog 258 [ptr g 0, .int .u8 (c.toNat : Int)] [rdr g s i e] fun v H' => v = .bool (jN5 s i c) ∧ H' = [rdr g s (if jN5 s i c = true then jG3 s (i + 1) else i) e] := by
 refine fE 37 Tryz.func258 rfl (fun w0 => aA rfl rfl <| f2K 0 1 rfl ?_)
 rcases xX i s.length with hl | hl
 ·obtain ⟨c', hc⟩ : ∃ c, s[i]? = some c := ⟨_, xF hl⟩
  refine aS <| jF0 [(0, ptr g 0), (27, .bool (!jN5 s i c))] [rdr g s i e] jF1 (by kernel_rfl) (fun Z hZ => ?_) ?_
  ·refine qM rfl rfl <| jC7 rfl rfl <| qFA0 jG9 ?_
   first | refine jA9 0 tyA3 tyS3 ?_
   refine qM rfl rfl <| jC7 rfl rfl <| qFA0 jL0 ?_
   first | refine jA9 0 tyA9 tyS9 ?_
   refine jP0 Tryz.underlying9 rfl rfl <| jP1 rfl rfl rfl <| qM rfl rfl <| jJ1 15 rfl false (by simp; omega) ?_
   refine jA4 ?_
   refine qM rfl rfl <| jA4 ?_
   refine jC7 rfl rfl <| jA4 ?_
   refine qFA0 jL0 ?_
   refine jA4 ?_
   first | refine jA9 0 tyA9 tyS9 ?_
   refine jA4 ?_
   refine qM rfl rfl <| jA4 ?_
   refine jC7 rfl rfl <| jA4 ?_
   refine qFA0 jG9 ?_
   refine jA4 ?_
   first | refine jA9 0 tyA3 tyS3 ?_
   refine jA4 ?_
   refine jZ9 Tryz.underlying9 rfl rfl (by omega) (by simpa using hc) rfl ?_
   refine jA4 ?_
   refine qM rfl rfl <| jA4 ?_
   refine vC5 rfl rfl rfl <| jE1 rfl rfl rfl <| jE9 (hZ _ _ ?_ ?_)
   ·exact kE rfl (kE (congrArg some (congrArg Value.bool (by rw [jN5, hc]; exact zM6 c' c))) kF)
   ·exact hV _
  refine aC0 (fun h => ?_) (fun h => ?_)
  ·have h' : jN5 s i c = false := by simpa using h
   rw [h']
   refine aA rfl rfl ?_
   refine f1K 4 rfl ?_
   refine aE ?_
   repeat (with_reducible refine nTR ?_)
   exact nR1 rfl rfl ⟨rfl, rfl⟩
  have h' : jN5 s i c = true := by simpa using h
  rw [h', if_pos rfl]
  refine aK <| nN <| aR fun Z hZ => sM rfl rfl <| jA1 ?_
  refine sFA0 jG9 ?_
  first | refine sL0 0 tyA3 tyS3 ?_
  refine jB7 rfl rfl ((i + 1 : Nat) : Int) (by rw [lT _ (by omega)]; omega) rfl ?_
  refine jA1 ?_
  refine sFA0 jG9 ?_
  first | refine sS10 0 tyS3 ?_
  refine sN (hZ _ _ <| f1K 0 rfl <| aR fun Z hZ => sM rfl rfl <| jD2 [0] [] (kL7 g s (i + 1) e (by omega) hs) rfl rfl (by simp) rfl ?_)
  rintro v H' ⟨rfl, rfl⟩
  refine jD1 ?_
  refine sN (hZ _ _ <| aF [] (kF) <| aA rfl rfl <| f1K 4 rfl <| aE <| nR10 ⟨rfl, rfl⟩)
 ·have h' : jN5 s i c = false := by simp [jN5, zG hl]
  refine aS <| jF0 [(0, ptr g 0), (27, .bool true)] [rdr g s i e] jF1 (by kernel_rfl) (fun Z hZ => ?_) ?_
  ·refine qM rfl rfl <| jC7 rfl rfl <| qFA0 jG9 ?_
   first | refine jA9 0 tyA3 tyS3 ?_
   refine qM rfl rfl <| jC7 rfl rfl <| qFA0 jL0 ?_
   first | refine jA9 0 tyA9 tyS9 ?_
   refine jP0 Tryz.underlying9 rfl rfl <| jP1 rfl rfl rfl <| qM rfl rfl <| jJ1 15 rfl true (by simp; omega) ?_
   refine qO0 ?_
   refine qO0 ?_
   refine qO0 ?_
   refine qO0 ?_
   refine qO0 ?_
   refine qO0 ?_
   refine qO0 ?_
   refine qO0 ?_
   refine qO0 ?_
   refine qO0 ?_
   refine qO0 ?_
   refine jE1 rfl rfl rfl <| jE9 (hZ _ _ ?_ ?_)
   ·exact kR rfl
   ·exact hV _
  refine aC0 (fun h => ?_) (fun h => ?_)
  ·rw [h']
   refine aA rfl rfl ?_
   refine f1K 4 rfl ?_
   refine aE ?_
   repeat (with_reducible refine nTR ?_)
   exact nR1 rfl rfl ⟨rfl, rfl⟩
  ·cases h
theorem yT2 (g : Nat) (s : List UInt8) (i e : Nat) (c : UInt8) (hi : i ≤ s.length) (hs : s.length ≤ 1000000) :
  Fn Tryz.prog 287 [ptr g 0, .int .u8 (c.toNat : Int)] [rdr g s i e] fun v H' => v = .bool (jN5 s i c) ∧ H' = [rdr g s (if jN5 s i c = true then i + 1 else i) e] := by
 refine fE 35 Tryz.func287 rfl (fun w0 => aA rfl rfl <| f2K 0 1 rfl ?_)
 rcases xX i s.length with hl | hl
 ·obtain ⟨c', hc⟩ : ∃ c, s[i]? = some c := ⟨_, xF hl⟩
  refine aS <| jF0 [(0, ptr g 0), (27, .bool (jN5 s i c))] [rdr g s i e] jF1 (by kernel_rfl) (fun Z hZ => ?_) ?_
  ·refine qM rfl rfl <| jC7 rfl rfl <| qFA0 jG9 ?_
   first | refine jA9 0 tyA3 tyS3 ?_
   refine qM rfl rfl <| jC7 rfl rfl <| qFA0 jL0 ?_
   first | refine jA9 0 tyA9 tyS9 ?_
   refine jP0 Tryz.underlying9 rfl rfl <| kP5 rfl rfl rfl <| qM rfl rfl <| jJ1 15 rfl true (by simp; omega) ?_
   refine jA4 ?_
   refine qM rfl rfl <| jA4 ?_
   refine jC7 rfl rfl <| jA4 ?_
   refine qFA0 jL0 ?_
   refine jA4 ?_
   first | refine jA9 0 tyA9 tyS9 ?_
   refine jA4 ?_
   refine qM rfl rfl <| jA4 ?_
   refine jC7 rfl rfl <| jA4 ?_
   refine qFA0 jG9 ?_
   refine jA4 ?_
   first | refine jA9 0 tyA3 tyS3 ?_
   refine jA4 ?_
   refine jZ9 Tryz.underlying9 rfl rfl (by omega) (by simpa using hc) rfl ?_
   refine jA4 ?_
   refine qM rfl rfl <| jA4 ?_
   refine jP1 rfl rfl rfl <| jE1 rfl rfl rfl <| jE9 (hZ _ _ ?_ ?_)
   ·exact kE rfl (kE (congrArg some (congrArg Value.bool (by rw [jN5, hc]; exact zD7 c' c))) kF)
   ·exact hV _
  refine aC0 (fun h => ?_) (fun h => ?_)
  ·rw [h, if_pos rfl]
   refine aR fun Z hZ => sM rfl rfl <| jA1 ?_
   refine sFA0 jG9 ?_
   first | refine sL0 0 tyA3 tyS3 ?_
   refine jB7 rfl rfl ((i + 1 : Nat) : Int) (by rw [lT _ (by omega)]; omega) rfl ?_
   refine jA1 ?_
   refine sFA0 jG9 ?_
   first | refine sS10 0 tyS3 ?_
   refine sN (hZ _ _ ?_)
   refine aF [] (kF) ?_
   refine aA rfl rfl ?_
   refine f1K 4 rfl ?_
   refine aE ?_
   repeat (with_reducible refine nTR ?_)
   exact nR1 rfl rfl ⟨rfl, rfl⟩
  rw [h]
  refine aK <| nN <| aA rfl rfl <| f1K 4 rfl <| aE <| nR10 ⟨rfl, rfl⟩
 ·have h' : jN5 s i c = false := by simp [jN5, zG hl]
  rw [h']
  refine aS <| jF0 [(0, ptr g 0), (27, .bool false)] [rdr g s i e] jF1 (by kernel_rfl) (fun Z hZ => ?_) ?_
  ·refine qM rfl rfl <| jC7 rfl rfl <| qFA0 jG9 ?_
   first | refine jA9 0 tyA3 tyS3 ?_
   refine qM rfl rfl <| jC7 rfl rfl <| qFA0 jL0 ?_
   first | refine jA9 0 tyA9 tyS9 ?_
   refine jP0 Tryz.underlying9 rfl rfl <| kP5 rfl rfl rfl <| qM rfl rfl <| jJ1 15 rfl false (by simp; omega) ?_
   refine qO0 ?_
   refine qO0 ?_
   refine qO0 ?_
   refine qO0 ?_
   refine qO0 ?_
   refine qO0 ?_
   refine qO0 ?_
   refine qO0 ?_
   refine qO0 ?_
   refine qO0 ?_
   refine qO0 ?_
   refine jE1 rfl rfl rfl <| jE9 (hZ _ _ ?_ ?_)
   ·exact kR rfl
   ·exact hV _
  refine aC0 (fun h => ?_) (fun h => ?_)
  ·cases h
  refine aK <| nN <| aA rfl rfl <| f1K 4 rfl <| aE <| nR10 ⟨rfl, rfl⟩
theorem wI2 (g : Nat) (s : List UInt8) (i : Nat) (deep : Nat) (a b : UInt8) (f : Value) (hd : deep ≤ 4) (hi : i < s.length) (hs : s.length ≤ 1000000) (ha : jN5 s i a = true) (hb : jN5 s (jG3 s (i + 1)) b = true) :
  Fn Tryz.prog 253 [ptr g 0, iq (deep : Nat), .int .u8 (a.toNat : Int), .int .u8 (b.toNat : Int), f] [rdr g s i 0] fun v H' => v = .tuple #[] ∧ H' = [rdr g s (jG3 s (i + 1) + 1) 0] := by
 have h1 := wZ7 g s i 0 a (by omega) hs
 rw [ha, if_pos rfl] at h1
 have hle := (wT0 (s := s) (i := i + 1) (by omega)).2
 have h2 := yT2 g s (jG3 s (i + 1)) 0 b hle hs
 rw [hb, if_pos rfl] at h2
 refine fE 70 Tryz.func253 rfl (fun w0 => aS <| aR fun Z hZ => sM rfl rfl <| jC4 ?_)
 refine sN (hZ _ _ <| f5K 0 2 3 4 12 rfl <| aC0 (fun h => ?_) (fun h => ?_))
 ·simp at h; omega
 refine aK <| nN <| aR fun Z hZ => sM rfl rfl <| sM rfl rfl <| jD2 [0] [] h1 rfl rfl (by simp) rfl ?_
 rintro v H' ⟨rfl, rfl⟩
 refine jD1 ?_
 refine sN (hZ _ _ <| f3K 0 3 4 rfl <| aS <| aR fun Z hZ => sM rfl rfl <| sM rfl rfl <| jD2 [0] [] h2 rfl rfl (by simp) rfl ?_)
 rintro v H' ⟨rfl, rfl⟩
 refine jD1 ?_
 refine sN (hZ _ _ <| f4K 0 3 4 24 rfl <| aC0 (fun h => ?_) (fun h => ?_))
 ·refine aE ?_
  repeat (with_reducible refine nTR ?_)
  exact kA7 _ rfl (hV _) ⟨rfl, rfl⟩
 ·cases h
theorem vJ7 (g : Nat) (s : List UInt8) (i : Nat) (deep : Nat) (hd : deep ≤ 4) (hi : i < s.length) (hs : s.length ≤ 1000000) (ha : jN5 s i 123 = true) (hb : jN5 s (jG3 s (i + 1)) 125 = true) :
  Fn Tryz.prog 217 [ptr g 0, iq (deep : Nat)] [rdr g s i 0] fun v H' => (∃ A c, v = .iface 176 (.slice A 0 c)) ∧ H' = [rdr g s (jG3 s (i + 1) + 1) 0] := by
 refine fE 13 Tryz.func217 rfl (fun w0 => aR (fun Z hZ => jB2 (fun g1 => ?_)))
 refine jB2 (fun g2 => ?_)
 refine sAN hZ rfl rfl <| f2K 2 3 rfl <| aR (fun Z hZ => jM5 Tryz.underlying176 tyS380 rfl (fun gs => sAl tyZ176 rfl (fun g3 => sS10 0 tyS176 ?_)))
 refine sN (hZ _ _ <| f3K 2 3 5 rfl <| aR (fun Z hZ => sL0 3 tyA285 tyS285 ?_))
 refine sL0 2 tyA3 tyS3 ?_
 refine jL9 rfl rfl <| jB4 [rdr g s i 0] [.own g3 176 [.slice (some ⟨gs, 0, none⟩) 0 0]] (wI2 g s i deep 123 125 _ hd hi hs ha hb) rfl (pH [4, 0] rfl) rfl ?_
 rintro v H' ⟨rfl, rfl⟩
 refine jC6 [rdr g s (jG3 s (i + 1) + 1) 0, .own g3 176 [.slice (some ⟨gs, 0, none⟩) 0 0]] (hV _) <| sN (hZ _ _ <| f1K 5 rfl <| aR (fun Z hZ => sL0 1 tyA176 tyS176 ?_))
 refine jQ7 Tryz.underlying176 rfl rfl rfl <| sAN hZ rfl rfl <| f1K 4 rfl <| aE <| jD9 [rdr g s (jG3 s (i + 1) + 1) 0] rfl rfl (pH [0] rfl) ⟨⟨_, _, rfl⟩, rfl⟩
theorem vX1 (g : Nat) (s : List UInt8) (i : Nat) (deep : Nat) (hd : deep ≤ 4) (hi : i < s.length) (hs : s.length ≤ 1000000) (ha : jN5 s i 123 = true) (hb : jN5 s (jG3 s (i + 1)) 125 = true) :
  Fn Tryz.prog 157 [ptr g 0, iq (deep : Nat)] [rdr g s i 0] fun v H' => (∃ A c, v = .iface 176 (.slice A 0 c)) ∧ H' = [rdr g s (jG3 s (i + 1) + 1) 0] := by
 have hc : s[i]? = some 123 := by simpa [jN5] using ha
 refine fE 74 Tryz.func157 rfl (fun w0 => aA rfl rfl <| f2K 0 1 rfl <| aS <| jC1 jF1 (by kernel_rfl) (fun Z hZ => ?_))
 refine qM rfl rfl <| jC7 rfl rfl <| qFA0 jG9 ?_
 first | refine jA9 0 tyA3 tyS3 ?_
 refine qM rfl rfl <| jC7 rfl rfl <| qFA0 jL0 ?_
 first | refine jA9 0 tyA9 tyS9 ?_
 refine jP0 Tryz.underlying9 rfl rfl <| jP1 rfl rfl rfl <| jE9 (hZ _ _ <| f3K 0 1 15 rfl <| aC0 (fun h => ?_) (fun h => ?_))
 ·simp at h; omega
 refine aK <| nN <| aS <| jC1 jF1 (by kernel_rfl) (fun Z hZ => ?_)
 refine qM rfl rfl <| jC7 rfl rfl <| qFA0 jL0 ?_
 first | refine jA9 0 tyA9 tyS9 ?_
 refine qM rfl rfl <| jC7 rfl rfl <| qFA0 jG9 ?_
 first | refine jA9 0 tyA3 tyS3 ?_
 refine jZ9 Tryz.underlying9 rfl rfl (by omega) (by simpa using hc) rfl ?_
 refine jB8 rfl rfl <| jE9 (hZ _ _ <| f3K 0 1 5 rfl <| aB <| aR fun Z hZ => sM rfl rfl <| jB1 ?_)
 refine sAN hZ rfl rfl <| f4K 0 1 5 27 rfl <| aC0 (fun h1 => ?_) (fun h1 => ?_)
 ·cases h1
 refine aR fun Z hZ => sM rfl rfl <| jB1 ?_
 refine sAN hZ rfl rfl <| f4K 0 1 5 32 rfl <| aC0 (fun h2 => ?_) (fun h2 => ?_)
 ·cases h2
 refine aR fun Z hZ => sM rfl rfl <| jB1 ?_
 refine sAN hZ rfl rfl <| f4K 0 1 5 38 rfl <| aC0 (fun h3 => ?_) (fun h3 => ?_)
 ·cases h3
 refine aR fun Z hZ => sM rfl rfl <| jB1 ?_
 refine sAN hZ rfl rfl <| f4K 0 1 5 44 rfl <| aC0 (fun h4 => ?_) (fun h4 => ?_)
 ·cases h4
 refine aR fun Z hZ => sM rfl rfl <| jB1 ?_
 refine sAN hZ rfl rfl <| f4K 0 1 5 50 rfl <| aC0 (fun h5 => ?_) (fun h5 => ?_)
 ·cases h5
 refine aR fun Z hZ => sM rfl rfl <| jB1 ?_
 refine sAN hZ rfl rfl <| f4K 0 1 5 56 rfl <| aC0 (fun h6 => ?_) (fun h6 => ?_)
 ·refine aR (fun Z hZ => sM rfl rfl <| sM rfl rfl <| jD2 [0] [] (vJ7 g s i deep hd hi hs ha hb) rfl rfl (by simp) rfl ?_)
  rintro v H' ⟨⟨A, c, rfl⟩, rfl⟩
  refine jD1 ?_
  refine sAN hZ rfl rfl ?_
  refine f1K 4 rfl ?_
  refine aE ?_
  repeat (with_reducible (first | refine nTR ?_ | refine nBR ?_))
  exact jD9 _ rfl rfl (hV _) ⟨⟨A, c, rfl⟩, rfl⟩
 ·cases h6
theorem wX8 (s : List UInt8) (hs : s.length ≤ 4096) (ha : jN5 s (jG3 s 0) 123 = true) (hb : jN5 s (jG3 s (jG3 s 0 + 1)) 125 = true) (he : jG3 s (jG3 s (jG3 s 0 + 1) + 1) = s.length) :
  Fn Tryz.prog 88 [.string (str s)] [] fun v _ => ∃ A c, v = .tuple #[.iface 176 (.slice A 0 c), iq (s.length : Nat), iq 0] := by
 have hi : jG3 s 0 < s.length := by
  have hc : s[jG3 s 0]? = some 123 := by simpa [jN5] using ha
  exact (List.getElem?_eq_some_iff.1 hc).1
 have hj : jG3 s (jG3 s 0 + 1) < s.length := by
  have hc : s[jG3 s (jG3 s 0 + 1)]? = some 125 := by simpa [jN5] using hb
  exact (List.getElem?_eq_some_iff.1 hc).1
 refine fE 52 Tryz.func88 rfl (fun w0 => aR fun Z hZ => sA rfl rfl <| sA rfl rfl <| sAN hZ rfl rfl <| f1K 0 rfl <| aS <| aR fun Z hZ => sM rfl rfl <| jC8 Tryz.underlying9 rfl rfl <| jC4 ?_)
 refine sN (hZ _ _ <| f2K 0 8 rfl <| aC0 (fun h => ?_) (fun h => ?_))
 ·simp at h; omega
 refine aK <| nN <| aR fun Z hZ => sM rfl rfl <| jB6 tyZ287 tyP287 ?_
 refine jB2 (fun g1 => ?_)
 refine sAN hZ rfl rfl <| f2K 0 5 rfl <| aR fun Z hZ => sM rfl rfl <| jD2 [0] [] (kL7 g1 s 0 0 (by omega) (by omega)) rfl rfl (by simp) rfl ?_
 rintro v H' ⟨rfl, rfl⟩
 refine jD1 ?_
 refine sN (hZ _ _ <| f2K 0 5 rfl <| aR fun Z hZ => sM rfl rfl <| jD2 [0] [] (vX1 g1 s _ 1 (by omega) hi (by omega) ha hb) rfl rfl (by simp) rfl ?_)
 rintro v H' ⟨⟨A, c, rfl⟩, rfl⟩
 refine jD1 ?_
 refine sAN hZ rfl rfl <| f3K 0 2 5 rfl <| aS <| aR fun Z hZ => sM rfl rfl <| jA1 ?_
 refine sFA0 vO2 ?_
 first | refine sL0 0 tyA30 tyS30 ?_
 refine jB1 ?_
 refine sN (hZ _ _ <| f4K 0 2 5 20 rfl <| aC0 (fun h => ?_) (fun h => ?_))
 ·refine aR (fun Z hZ => sM rfl rfl <| jD2 [0] [] (kL7 g1 s _ 0 (by omega) (by omega)) rfl rfl (by simp) rfl ?_)
  rintro v H' ⟨rfl, rfl⟩
  refine jD1 ?_
  rw [he]
  refine sN (hZ _ _ <| f3K 0 2 5 rfl <| aR fun Z hZ => sM rfl rfl <| jA1 ?_)
  refine sFA0 jG9 ?_
  first | refine sL0 0 tyA3 tyS3 ?_
  refine sM rfl rfl <| jC8 Tryz.underlying9 rfl rfl <| jB0 ?_
  refine sN (hZ _ _ <| f4K 0 2 5 29 rfl <| aC0 (fun h2 => ?_) (fun h2 => ?_))
  ·simp at h2
  refine aK <| nN <| aS <| aR fun Z hZ => sM rfl rfl <| jA1 ?_
  refine sFA0 vO2 ?_
  first | refine sL0 0 tyA30 tyS30 ?_
  refine jA6 ?_
  refine sN (hZ _ _ <| f4K 0 2 5 40 rfl <| aC0 (fun h3 => ?_) (fun h3 => ?_))
  ·cases h3
  refine aK <| nN <| aR fun Z hZ => sM rfl rfl <| sM rfl rfl <| jC8 Tryz.underlying9 rfl rfl <| sA rfl rfl <| sA rfl rfl <| sAN hZ rfl rfl <| f3K 2 3 4 rfl <| aE <| jF8 [] rfl rfl rfl rfl (kA (lO _)) ⟨A, c, rfl⟩
 ·cases h
end
namespace V
open Go.RowKit
def vb (x : Nat) : List UInt8 := if x < 128 then [UInt8.ofNat x] else UInt8.ofNat (x % 128 + 128) :: vb (x / 128)
theorem kT4 {x : Nat} (h : x < 128) : vb x = [UInt8.ofNat x] := by rw [vb, if_pos h]
theorem vH2 {x : Nat} (h : 128 ≤ x) : vb x = UInt8.ofNat (x % 128 + 128) :: vb (x / 128) := by rw [vb, if_neg (by omega)]
theorem vA4 (x : Nat) : 0 < (vb x).length := by
 rw [vb]; split <;> simp
theorem vA5 : ∀ (k x : Nat), x < 128 ^ (k + 1) → (vb x).length ≤ k + 1
 | 0, x, h => by rw [kT4 (by simpa using h)]; simp
 | k + 1, x, h => by
  rcases xX x 128 with h1 | h1
  ·rw [kT4 h1]; simp
  ·rw [vH2 h1, lD]
   have := vA5 k (x / 128) (by rw [Nat.div_lt_iff_lt_mul (by omega)]; rw [qV] at h; exact h)
   omega
theorem kT5 {x : Nat} (h : x < 18446744073709551616) : (vb x).length ≤ 10 := vA5 9 x (by omega)
theorem zN8 : ∀ m : Nat, m < 256 → vZ2 .or .u8 (m : Int) 128 = ((m % 128 + 128 : Nat) : Int) := by decide +kernel
theorem wQ5 : ElemOk Tryz.prog 72 5 1 1 := ElemOk.mk_ (z := .int .u8 0) Tryz.underlying72 (by kernel_rfl) rfl (by omega)
theorem wS6 (b : List UInt8) : (bv b).all Value.oneCell' = true := List.all_eq_true.2 (wS7 b)
theorem wA9 (x : Nat) : IntKind.u8.wrap (x : Int) = ((x % 256 : Nat) : Int) := by simp [IntKind.wrap, IntKind.bits, IntKind.signed]
theorem or_y (y : Nat) : vZ2 .or .u8 (IntKind.u8.wrap (y : Int)) 128 = ((y % 128 + 128 : Nat) : Int) := by
 rw [wA9, zN8 _ (by omega), Nat.mod_mod_of_dvd y (by decide : 128 ∣ 256)]
theorem zP0 (y : Nat) : (y : Int).fdiv (2 ^ (min (7 : Int).toNat IntKind.u64.bits)) = ((y / 128 : Nat) : Int) := by
 show (y : Int).fdiv 128 = _
 rw [Int.fdiv_eq_ediv_of_nonneg _ (by omega)]
 omega
theorem zI3 (v : Value) (b : List UInt8) (x : Nat) (hv : RowOk v b.length) (hx : x < 18446744073709551616) (hb : b.length ≤ 1000000) :
  Fn Tryz.prog 170 [v, uq x] (rowE v 5 1 (bv b)) fun u H' => RowOk u (b ++ vb x).length ∧ H' = rowE u 5 1 (bv (b ++ vb x)) := by
 refine fE 20 Tryz.func170 rfl (fun w0 => aA rfl rfl <| f2K 0 1 rfl <| aS (aB ?_))
 refine jC3 (ι := Value × List UInt8 × Nat) (fun i => [(0, i.1), (1, uq i.2.2)]) (fun i => rowE i.1 5 1 (bv i.2.1))
  (fun i => RowOk i.1 i.2.1.length ∧ i.2.2 < 18446744073709551616 ∧ i.2.1 ++ vb i.2.2 = b ++ vb x) (fun i => i.2.2) (v, b, x) ⟨hv, hx, rfl⟩ (kR rfl) (hV _) ?_
 rintro ⟨u, c, y⟩ ⟨hu, hy, hc⟩
 simp only at hu hy hc
 have hcl : c.length ≤ 1000010 := by
  have h1 := congrArg List.length hc
  have h2 := kT5 hx
  simp at h1
  omega
 refine aS <| aR fun Z hZ => sM rfl rfl <| jC4 ?_
 refine sN (hZ _ _ <| f3K 0 1 6 rfl <| aC0 (fun h => ?_) (fun h => ?_))
 ·have hge : 128 ≤ y := by simp at h; omega
  refine aK <| nN <| aB <| aR fun Z hZ => sM rfl rfl <| sM rfl rfl <| jD0 Tryz.underlying61 Tryz.underlying5 rfl _ rfl rfl <| kV1 (.inr (.inl rfl)) rfl rfl ((y % 128 + 128 : Nat) : Int) (or_y y) rfl <| sBS0 Tryz.underlying72 tyS5 tyZ5 (fun g1 => ?_)
  refine jD3 [_] wQ5 rfl hu (by simp [jF9]) rfl (fun w hw => jI0 (i := 0) (xs := bv [UInt8.ofNat (y % 128 + 128)]) (by show some (Ent.own _ _ [Value.int .u8 _]) = some (Ent.own _ _ [Value.int .u8 _]); rw [show (UInt8.ofNat (y % 128 + 128)).toNat = y % 128 + 128 by simp; omega]) (by rw [jF9]; rfl) hw) (wS6 _) (by show _ ≤ 9223372036854775807; omega) (by omega) (hV _) rfl (fun v2 hv2 => ?_)
  rw [← jP4]
  refine sAN hZ rfl rfl <| f2K 0 1 rfl <| aG (fun Z hZ => sM rfl rfl <| yI6 rfl rfl (by decide) ((y / 128 : Nat) : Int) (zP0 y) rfl ?_)
  refine sAN hZ rfl rfl ?_
  refine nF [(0, _), (1, _)] (kR rfl) ?_
  repeat (with_reducible refine nBN ?_)
  refine jC2 (v2, c ++ [UInt8.ofNat (y % 128 + 128)], y / 128) ⟨by simpa using hv2, by show y / 128 < _; omega, ?_⟩ (by simp; omega) (kR rfl) (kA (lX _ _))
  rw [← hc, vH2 hge]; simp
 ·refine jB5 ?_
  repeat (with_reducible refine nTE ?_)
  refine nBE ?_
  refine nN ?_
  have hlt : y < 128 := by simp at h; omega
  rw [kT4 hlt] at hc
  refine aR fun Z hZ => sM rfl rfl <| sM rfl rfl <| jD0 Tryz.underlying61 Tryz.underlying5 rfl _ rfl rfl <| sBS0 Tryz.underlying72 tyS5 tyZ5 (fun g2 => ?_)
  refine jD3 [_] wQ5 rfl hu (by simp [jF9]) rfl (fun w hw => jI0 (i := 0) (xs := bv [UInt8.ofNat y]) (by show some (Ent.own _ _ [Value.int .u8 _]) = some (Ent.own _ _ [Value.int .u8 _]); rw [show (UInt8.ofNat y).toNat = y % 256 by simp, wA9]) (by rw [jF9]; rfl) hw) (wS6 _) (by show _ ≤ 9223372036854775807; omega) (by omega) (hV _) rfl (fun v2 hv2 => ?_)
  rw [← jP4, hc]
  refine sAN hZ rfl rfl <| f1K 4 rfl <| aE <| jD9 _ rfl rfl (kA (lX _ _)) ⟨by rw [← hc]; simpa using hv2, rfl⟩
end V
namespace V
open Go.RowKit
theorem len0 : Lays.n129 Tryz.prog jI8 := by constructor <;> first | kernel_rfl | (intro w; kernel_rfl)
theorem vM0 : Enters Tryz.prog 155 := Enters.mk Tryz.func155 (by kernel_rfl) (by kernel_rfl)
theorem yC7 (x : Nat) (hx : x < 18446744073709551616) : Fn Tryz.prog 155 [uq x] [] fun v _ => v = iq (Lib.bitLen x : Nat) :=
 Fn.of_same vM0 fun w => (Any.bits_Len64 len0 (x : Int) w (by omega) (by omega)).mono fun e w' ⟨he, hw⟩ => ⟨by rw [he]; rfl, hw.symm⟩
theorem zL9 {x : Nat} (h0 : x ≠ 0) (h : x < 2 ^ 64) : 1 ≤ Lib.bitLen x := by rw [Lib.bitLen_half x h0 h]; omega
theorem yR8 (x : Nat) : x < 18446744073709551616 → max 1 ((Lib.bitLen x + 6) / 7) = (vb x).length := by
 induction x using Nat.strongRecOn with
 | _ x ih =>
  intro hx
  rcases xX x 128 with h | h
  ·rw [kT4 h]
   have := Lib.bitLen_le x 7 (by omega) (by omega)
   simp only [zY]
   omega
  ·rw [vH2 h, lD, ← ih (x / 128) (by omega) (by omega), Lib.bitLen_shift 7 x (by omega) (by omega)]
   have := zL9 (x := x / 128) (by omega) (by omega)
   rw [show (2 : Nat) ^ 7 = 128 from rfl]
   omega
theorem wW9 (x : Nat) (hx : x < 18446744073709551616) : Fn Tryz.prog 166 [uq x] [] fun v _ => v = iq ((vb x).length : Nat) := by
 have hb := Lib.bitLen_le x 64 (by omega) (by omega)
 refine fE 8 Tryz.func166 rfl (fun w0 => aA rfl rfl <| f1K 0 rfl <| aR fun Z hZ => sM rfl rfl <| sCP0 (yC7 x hx) ?_)
 refine jB7 rfl rfl ((Lib.bitLen x + 6 : Nat) : Int) (by rw [lT _ (by omega)]; omega) rfl ?_
 refine vB2 rfl rfl (by decide) (((Lib.bitLen x + 6) / 7 : Nat) : Int) (by rw [Int.tdiv_eq_ediv_of_nonneg (by omega), lT _ (by omega)]; omega) rfl ?_
 refine yI8 rfl rfl (((vb x).length : Nat) : Int) (by rw [← yR8 x hx]; omega) rfl ?_
 refine sAN hZ rfl rfl <| f1K 2 rfl <| aE <| nR10 rfl
def allB (xs : List Nat) : List UInt8 := xs.flatMap vb
theorem jS4 {xs : List Nat} (h : ∀ x ∈ xs, x < 18446744073709551616) : (allB xs).length ≤ 10 * xs.length := by
 induction xs with
 | nil => simp [allB]
 | cons x r ih =>
  have h1 := kT5 (h x lP)
  have h2 := ih fun y hy => h y (lU _ hy)
  simp only [allB, x5, lN, lD] at h2 ⊢
  omega
theorem kN7 {xs : List Nat} {k : Nat} (h : k < xs.length) : allB (xs.take (k + 1)) = allB (xs.take k) ++ vb xs[k] := by
 simp only [allB]
 rw [qC h, zI]
 simp only [x5, List.flatMap_nil, lH]
abbrev uqL (l : List Nat) : List Value := l.map uq
theorem wU3 (g c : Nat) (xs : List Nat) (hx : ∀ x ∈ xs, x < 18446744073709551616) (hl : xs.length ≤ 50000) :
  Fn Tryz.prog 101 [.slice (some ⟨g, 0, none⟩) xs.length c] [.ob g (RowP 61 1 xs.length c (uqL xs))] fun u H' => RowOk u (allB xs).length ∧ H' = rowE u 5 1 (bv (allB xs)) := by
 refine fE 17 Tryz.func101 rfl (fun w0 => aA rfl rfl <| f1K 0 rfl <| aA rfl rfl <| f2K 0 3 rfl <| aS <| aR fun Z hZ => sM rfl rfl <| jE5 Tryz.underlying201 rfl rfl <| sMN hZ rfl rfl <| f4K 3 6 7 8 rfl ?_)
 refine aB ?_
 refine jC3 (ι := Nat × Value) (fun i => [(3, i.2), (6, .slice (some ⟨g, 0, none⟩) xs.length c), (7, iq (xs.length : Nat)), (8, iq (i.1 : Nat))]) (fun i => .ob g (RowP 61 1 xs.length c (uqL xs)) :: rowE i.2 5 1 (bv (allB (xs.take i.1))))
  (fun i => i.1 ≤ xs.length ∧ RowOk i.2 (allB (xs.take i.1)).length) (fun i => xs.length - i.1) (0, .slice none 0 0) ⟨by simp, kI⟩ (kR rfl) (hV _) ?_
 rintro ⟨k, u⟩ ⟨hk, hu⟩
 simp only at hk hu
 have hlen := jS4 (xs := xs.take k) fun x h => hx x (List.mem_of_mem_take h)
 rw [xV, z8 hk] at hlen
 refine aR (fun Z hZ => jB0 ?_)
 refine sN (hZ _ _ <| f5K 3 6 7 8 9 rfl <| aS (aC0 (fun h => ?_) (fun h => ?_)))
 ·have hlt : k < xs.length := by simpa using h
  have hxk : xs[k] < 18446744073709551616 := hx _ (zQ _)
  have hrd : rdV false 1 (uqL xs) k = some (uq xs[k]) := by show (uqL xs)[k]? = _; simp [hlt]
  refine aK <| nN <| aS (aB <| aR (fun Z hZ => jA8 (k * 1) Tryz.underlying201 tyS61 rfl rfl (by omega) (by simp) rfl ?_))
  refine jN2 (o := 0) k rfl (by omega) (fun w hw => jS6 (i := 0) rfl hw) (by omega) tyA61 tyS61 hrd rfl ?_
  refine sAN hZ rfl rfl <| f5K 3 5 6 7 8 rfl <| aG (fun Z hZ => sM rfl rfl <| sM rfl rfl <| jB4 (rowE u 5 1 (bv (allB (xs.take k)))) [_] (zI3 u (allB (xs.take k)) xs[k] hu hxk (by omega)) rfl (kD [_] _) rfl ?_)
  rintro u2 H' ⟨hu2, rfl⟩
  rw [jE2, ← kN7 hlt]
  rw [← kN7 hlt] at hu2
  refine sAN hZ rfl rfl ?_
  refine nF [(3, _), (6, _), (7, _), (8, _)] (kR rfl) ?_
  repeat (with_reducible refine nBN ?_)
  refine nN ?_
  refine aG (fun Z hZ => ?_)
  refine jB7 rfl rfl ((k + 1 : Nat) : Int) (by rw [lT _ (by omega)]; omega) rfl ?_
  refine sMN hZ rfl rfl <| nF [(3, _), (6, _), (7, _), (8, _)] (kR rfl) <| jC2 (k + 1, u2) ⟨by show k + 1 ≤ _; omega, hu2⟩ (by simp; omega) (kR rfl) (kD _ [_])
 ·refine jB5 ?_
  repeat (with_reducible refine nTE ?_)
  refine nBE ?_
  refine nN ?_
  have hke : k = xs.length := by simp at h; omega
  subst hke
  rw [xY] at hu ⊢
  refine aR fun Z hZ => sM rfl rfl <| sAN hZ rfl rfl <| f1K 2 rfl <| aE <| jD9 _ rfl rfl (kA (qX _ _)) ⟨hu, rfl⟩
end V
namespace V
open Go.RowKit
def dat (t : List UInt8) (i : Nat) : Nat := (t.getD i 0).toNat
def valL : List UInt8 → Nat
 | [] => 0
 | b :: r => b.toNat % 128 + 128 * valL r
def cnt : Nat → List UInt8 → Nat
 | 0, _ => 0
 | _ + 1, [] => 0
 | k + 1, b :: r => if 128 ≤ b.toNat then cnt k r + 1 else 0
theorem wS1 : ∀ (k : Nat) (t : List UInt8), cnt k t ≤ k ∧ cnt k t ≤ t.length
 | 0, t => by simp [cnt]
 | k + 1, [] => by simp [cnt]
 | k + 1, b :: r => by
  have := wS1 k r
  simp only [cnt, lD]
  split <;> omega
theorem kZ2 (b : UInt8) (r : List UInt8) (i : Nat) : dat (b :: r) (i + 1) = dat r i := by simp [dat]
theorem yM3 : ∀ (k : Nat) (t : List UInt8) (i : Nat), i < cnt k t → 128 ≤ dat t i
 | 0, t, i, h => by simp [cnt] at h
 | k + 1, [], i, h => by simp [cnt] at h
 | k + 1, b :: r, i, h => by
  simp only [cnt] at h
  split at h
  ·cases i with
   | zero => simpa [dat] using ‹128 ≤ b.toNat›
   | succ i => rw [kZ2]; exact yM3 k r i (by omega)
  ·omega
theorem wS2 : ∀ (k : Nat) (t : List UInt8), cnt k t < k → cnt k t < t.length → dat t (cnt k t) < 128
 | 0, t, h, _ => by omega
 | k + 1, [], _, h => by simp [cnt] at h
 | k + 1, b :: r, h1, h2 => by
  simp only [cnt] at h1 h2 ⊢
  split
  ·rename_i hb
   rw [if_pos hb] at h1 h2
   rw [kZ2]
   exact wS2 k r (by omega) (by simpa using h2)
  ·rename_i hb
   simpa [dat] using hb
def jG0 (t : List UInt8) : Nat × Nat :=
 if cnt 10 t = 10 then (11, 0) else if cnt 10 t = t.length then (3, 0) else if cnt 10 t = 9 ∧ 1 < dat t 9 then (11, 0) else if 0 < cnt 10 t ∧ dat t (cnt 10 t) = 0 then (4, 0) else (0, cnt 10 t + 1)
def getQ (s : List UInt8) (p : Nat) : Nat × Nat × Nat :=
 if (jG0 (s.drop p)).1 = 0 then (valL ((s.drop p).take (jG0 (s.drop p)).2), p + (jG0 (s.drop p)).2, 0) else (0, p, (jG0 (s.drop p)).1)
def scV (s : List UInt8) (p e : Nat) : Value := .agg #[.string (str s), iq p, iq e]
def getV (g : Nat × Nat × Nat) (s : List UInt8) : Value := .tuple #[uq g.1, scV s g.2.1 g.2.2]
theorem wM7 {t : List UInt8} {i : Nat} (h : i < t.length) : t[i]? = some (t.getD i 0) := by simp [h]
theorem kT3 (s : List UInt8) (p e0 e : Nat) : Fn Tryz.prog 234 [scV s p e0, iq e] [] fun v _ => v = .tuple #[uq 0, scV s p e] := by
 refine fE 9 Tryz.func234 rfl (fun w0 => aR (fun Z hZ => jB2 (fun g1 => ?_)))
 refine sA rfl rfl <| sAl tyZ317 rfl (fun g2 => sN (hZ _ _ <| f3K 1 2 5 rfl <| aR fun Z hZ => sM rfl rfl <| sFA0 jV4 ?_))
 refine sS10 1 tyS30 ?_
 refine sN (hZ _ _ <| f2K 2 5 rfl <| jX3 [0, 1, 2] jF1 (by kernel_rfl) rfl (fun Z hZ => ?_))
 refine sLA0 1 tyA317 tyS317 ?_
 refine sA rfl rfl <| sS0 0 tyS317 ?_
 refine sN (hZ _ _ <| f2K 4 5 rfl <| aE <| jF3 rfl rfl (kH 0 rfl rfl tyA317 tyS317 rfl) rfl)
theorem wA6 : ∀ l : List UInt8, valL l < 128 ^ l.length
 | [] => by simp [valL]
 | b :: r => by
  have := wA6 r
  rw [lD, qV]
  simp only [valL]
  omega
theorem vA6 : ∀ (l : List UInt8) (b : UInt8), valL (l ++ [b]) = valL l + b.toNat % 128 * 128 ^ l.length
 | [], b => by simp [valL]
 | a :: r, b => by
  rw [lL, valL, valL, vA6 r b, lD, qV, Nat.mul_add, qP]
  congr 2
  rw [qU 128, Nat.mul_assoc]
theorem kJ1 {t : List UInt8} {i : Nat} (h : i < t.length) : valL (t.take (i + 1)) = valL (t.take i) + dat t i % 128 * 128 ^ i := by
 rw [qC h, vA6, xV, z8 (by omega)]
 simp [dat, h]
theorem zM1 : ∀ m : Nat, m < 256 → vZ2 .and .u8 (m : Int) 127 = ((m % 128 : Nat) : Int) := by decide +kernel
theorem pow7 (i : Nat) : 128 ^ i = 2 ^ (7 * i) := by rw [Nat.pow_mul]
theorem zF9 {x b i : Nat} (hi : i ≤ 9) (hx : x < 128 ^ i) : vZ2 .or .u64 (x : Int) (IntKind.u64.wrap ((b : Int) * 2 ^ (min ((7 * i : Nat) : Int).toNat IntKind.u64.bits))) = (((x + b * 128 ^ i) % 18446744073709551616 : Nat) : Int) := by
 have h1 : (min ((7 * i : Nat) : Int).toNat IntKind.u64.bits) = 7 * i := by
  show min (7 * i) 64 = 7 * i
  omega
 have h2 : ((b : Int) * 2 ^ (7 * i)) = ((b * 2 ^ (7 * i) : Nat) : Int) := by push_cast; rfl
 have h64 : (18446744073709551616 : Nat) = 2 ^ (64 - 7 * i) * 2 ^ (7 * i) := by rw [← Nat.pow_add, show 64 - 7 * i + 7 * i = 64 by omega]
 have h3 : b * 2 ^ (7 * i) % 18446744073709551616 = (b % 2 ^ (64 - 7 * i)) * 2 ^ (7 * i) := by
  conv => lhs; rw [h64]
  rw [Nat.mul_mod_mul_right]
 have hw : ∀ m : Nat, IntKind.u64.wrap (m : Int) = ((m % 18446744073709551616 : Nat) : Int) := fun m => by simp [IntKind.wrap, IntKind.bits, IntKind.signed]
 have hb : ∀ m : Nat, m < 18446744073709551616 → (BitVec.ofInt IntKind.u64.bits (m : Int)).toNat = m := fun m hm => by
  show (BitVec.ofInt 64 (m : Int)).toNat = m
  rw [BitVec.toNat_ofInt]
  omega
 rw [pow7] at hx ⊢
 have hxs : x < 18446744073709551616 := uJ hx (by rw [show (18446744073709551616 : Nat) = 2 ^ 64 from rfl]; exact uG (by omega) (by omega))
 have hq : b % 2 ^ (64 - 7 * i) < 2 ^ (64 - 7 * i) := Nat.mod_lt _ (Nat.pow_pos (by omega))
 have hsum : b % 2 ^ (64 - 7 * i) * 2 ^ (7 * i) + x < 18446744073709551616 := by
  rw [h64]
  calc b % 2 ^ (64 - 7 * i) * 2 ^ (7 * i) + x < b % 2 ^ (64 - 7 * i) * 2 ^ (7 * i) + 2 ^ (7 * i) := by omega
   _ = (b % 2 ^ (64 - 7 * i) + 1) * 2 ^ (7 * i) := by rw [Nat.add_mul, Nat.one_mul]
   _ ≤ 2 ^ (64 - 7 * i) * 2 ^ (7 * i) := z7 _ hq
 rw [h1, h2, hw, h3]
 have hm : b % 2 ^ (64 - 7 * i) * 2 ^ (7 * i) < 18446744073709551616 := by omega
 show IntKind.u64.wrap (((BitVec.ofInt IntKind.u64.bits (x : Int)) ||| (BitVec.ofInt IntKind.u64.bits ((b % 2 ^ (64 - 7 * i) * 2 ^ (7 * i) : Nat) : Int))).toNat : Int) = _
 rw [BitVec.toNat_or, hb x hxs, hb _ hm, Nat.or_comm, ← Nat.shiftLeft_eq, ← Nat.shiftLeft_add_eq_or_of_lt hx, Nat.shiftLeft_eq, hw, zX hsum]
 rw [show x + b * 2 ^ (7 * i) = b * 2 ^ (7 * i) + x by omega, Nat.add_mod, h3, zX hxs, zX hsum]
end V
namespace V
open Go.RowKit
theorem zK7 (t : List UInt8) (i : Nat) : dat t i < 256 := (t.getD i 0).toNat_lt
theorem add7 (i : Nat) (hi : i ≤ 9) : IntKind.i64.wrap ((7 : Int) * (i : Int)) = ((7 * i : Nat) : Int) := by rw [lT _ (by omega)]; omega
theorem zD4 {t : List UInt8} {i : Nat} (hi : i ≤ 9) : valL (t.take i) < 128 ^ i :=
 uJ (wA6 _) (uG (by omega) (by rw [xV]; omega))
theorem kT6 {t : List UInt8} {k : Nat} (hk : k ≤ 9) (hl : k < t.length) (h9 : k = 9 → dat t 9 ≤ 1) : valL (t.take (k + 1)) % 18446744073709551616 = valL (t.take (k + 1)) := by
 have hb := zD4 (t := t) (i := k) hk
 refine zX ?_
 rw [kJ1 hl]
 have hp : (128 : Nat) ^ k ≤ 128 ^ 9 := uG (by omega) hk
 by_cases h : k = 9
 ·subst h
  have := h9 rfl
  have : dat t 9 % 128 ≤ 1 := by omega
  omega
 ·have hp : (128 : Nat) ^ (k + 1) ≤ 128 ^ 9 := uG (by omega) (by omega)
  rw [qV] at hp
  have h2 : dat t k % 128 * 128 ^ k ≤ 127 * 128 ^ k := z7 _ (by omega)
  omega
theorem yO6 (s : List UInt8) (p : Nat) (hp : p ≤ s.length) (hs : s.length ≤ 1000000) : Fn Tryz.prog 180 [scV s p 0] [] fun v _ => v = getV (getQ s p) s := by
 obtain ⟨t, ht⟩ := xZ9 (s.drop p)
 have htl : t.length + p = s.length := by rw [← ht, qF]; omega
 obtain ⟨hc10, hcl⟩ := wS1 10 t
 refine fE 121 Tryz.func180 rfl (fun w0 => aR (fun Z hZ => jB2 (fun g1 => ?_)))
 refine sA rfl rfl <| sAl tyZ317 rfl (fun g2 => sN (hZ _ _ <| f2K 1 3 rfl <| vG4 <| aS <| aR (fun Z hZ => sFA0 jV4 ?_)))
 refine sL0 1 tyA30 tyS30 ?_
 refine jA6 ?_
 refine sN (hZ _ _ <| f3K 1 3 12 rfl <| aC0 (fun h => ?_) (fun h => ?_))
 ·cases h
 refine aK <| nN <| aS <| jA0 [(1, ptr g1 0), (3, ptr g2 0), (24, .bool false)] [.own g2 317 [.string (str []), iq 0, iq 0], .own g1 317 [.string (str s), iq p, iq 0]] (fun Z hZ => ?_) ?_
 ·refine sFA0 jN8 ?_
  refine sL0 1 tyA3 tyS3 ?_
  refine jB0 ?_
  refine sM rfl rfl <| jB9 17 rfl false (by simp) ?_
  refine sOn0 ?_
  refine sFA0 jN8 ?_
  refine sOn0 ?_
  refine sL0 1 tyA3 tyS3 ?_
  refine sOn0 ?_
  refine sFA0 vO1 ?_
  refine sOn0 ?_
  refine sL0 1 tyA9 tyS9 ?_
  refine sOn0 ?_
  refine jC8 Tryz.underlying9 rfl rfl <| sOn0 ?_
  refine jC4 ?_
  refine sP0 ?_
  refine sN (hZ _ _ ?_ ?_)
  ·exact kE rfl (kE rfl (kE (congrArg some (congrArg Value.bool (by simp; omega))) kF))
  ·exact hV _
 refine aC0 (fun h => ?_) (fun h => ?_)
 ·cases h
 refine aK <| nN <| aR fun Z hZ => sA rfl rfl <| sA rfl rfl <| sAN hZ rfl rfl <| f5K 1 3 4 5 6 rfl <| aR (fun Z hZ => sFA0 vO1 ?_)
 refine sL0 1 tyA9 tyS9 ?_
 refine sFA0 jN8 ?_
 refine sL0 1 tyA3 tyS3 ?_
 refine jF7 t Tryz.underlying9 rfl rfl rfl (by omega) (by omega) (by omega) (by rw [← ht]; exact zN (by rw [qF]; omega)) rfl ?_
 refine sAN hZ rfl rfl <| f6K 1 3 4 5 6 7 rfl <| aS (kN4 <| nN <| aS <| aR fun Z hZ => sM rfl rfl <| jC8 Tryz.underlying9 rfl rfl <| sMN hZ rfl rfl <| f8K 1 3 4 5 6 7 35 36 rfl ?_)
 refine kI9 (ι := Nat × Nat × Bool) (fun j => [(1, ptr g1 0), (3, ptr g2 0), (4, uq j.1), (5, iq j.2.1), (6, .bool j.2.2), (7, .string (str t))]) (fun _ => [.own g2 317 [.string (str []), iq 0, iq 0], .own g1 317 [.string (str s), iq p, iq 0]])
  (fun j => (j.2.2 = false ∧ j.2.1 = cnt 10 t ∧ (j.2.1 = 10 ∨ j.2.1 = t.length)) ∨ (j.2.2 = true ∧ j.2.1 = cnt 10 t + 1 ∧ cnt 10 t < 10 ∧ cnt 10 t < t.length ∧ j.1 = valL (t.take j.2.1) % 18446744073709551616)) ?_ ?_
 ·refine aB ?_
  refine jC3 (ι := Nat × Nat) (fun i => [(1, ptr g1 0), (3, ptr g2 0), (4, uq i.2), (5, iq (i.1 : Nat)), (6, .bool false), (7, .string (str t)), (35, iq (t.length : Nat)), (36, iq (i.1 : Nat))]) (fun _ => [.own g2 317 [.string (str []), iq 0, iq 0], .own g1 317 [.string (str s), iq p, iq 0]])
   (fun i => i.1 ≤ cnt 10 t ∧ (i.1 ≤ 9 → i.2 = valL (t.take i.1))) (fun i => t.length - i.1) (0, 0) ⟨by omega, fun _ => rfl⟩ (kR rfl) (hV _) ?_
  rintro ⟨i, x⟩ ⟨hi, hx⟩
  simp only at hi hx
  refine aR (fun Z hZ => jB0 ?_)
  refine sN (hZ _ _ <| f9K 1 3 4 5 6 7 35 36 37 rfl <| aS (aC0 (fun h => ?_) (fun h => ?_)))
  ·have hlt : i < t.length := by simpa using h
   have hd := wM7 hlt
   refine aK <| nN <| aS (aB <| aR fun Z hZ => sM rfl rfl <| sAN hZ rfl rfl <| f9K 1 3 4 5 6 7 8 35 36 rfl <| aR fun Z hZ => sM rfl rfl <| sM rfl rfl <| jE6 (l := t) (c := t.getD i 0) Tryz.underlying9 rfl rfl (by omega) hd rfl ?_)
   refine sAN hZ rfl rfl <| f10K 1 3 4 5 6 7 8 9 35 36 rfl <| aB <| aR fun Z hZ => sM rfl rfl <| jB1 ?_
   refine sAN hZ rfl rfl <| f11K 1 3 4 5 6 7 8 9 35 36 52 rfl <| aC0 (fun h2 => ?_) (fun h2 => ?_)
   ·have hi10 : i = 10 := by simp at h2; omega
    refine jB5 ?_
    repeat (with_reducible (first | refine nTE ?_ | refine jI5 (by decide) ?_))
    refine nBE <| jJ9 (x, i, false) (.inl ⟨rfl, by show i = _; omega, .inl hi10⟩) (kR rfl) (hV _)
   have hi9 : i ≤ 9 := by simp at h2; omega
   have hx := hx hi9
   have hb := zD4 (t := t) (i := i) hi9
   have hdd : dat t i < 256 := zK7 t i
   refine aR fun Z hZ => sM rfl rfl <| jB0 ?_
   refine sAN hZ rfl rfl <| f10K 1 3 4 6 7 8 9 35 36 55 rfl <| aC0 (fun h3 => ?_) (fun h3 => ?_)
   ·have hd1 : dat t i < 128 := by
     have : (((t.getD i 0).toNat : Int)) < 128 := by simpa using h3
     simp only [dat]
     omega
    have hic : i = cnt 10 t := by
     rcases xX i (cnt 10 t) with h4 | h4
     ·have := yM3 10 t i h4
      omega
     ·omega
    refine aR fun Z hZ => sM rfl rfl <| sM rfl rfl <| jD0 Tryz.underlying5 Tryz.underlying61 rfl ((dat t i : Nat) : Int) (by rw [xK _ (by have := (t.getD i 0).toNat_lt; omega)]; rfl) rfl ?_
    refine sM rfl rfl <| kK3 rfl rfl ((7 * i : Nat) : Int) (add7 i hi9) rfl <| yI7 rfl rfl (by omega) _ rfl rfl ?_
    refine kV1 (.inr (.inl rfl)) rfl rfl ((valL (t.take (i + 1)) % 18446744073709551616 : Nat) : Int) (by rw [hx, zF9 hi9 hb, kJ1 hlt, zX hd1]) rfl ?_
    refine sAN hZ rfl rfl ?_
    refine f5K 1 3 4 7 8 rfl ?_
    refine aR fun Z hZ => sM rfl rfl ?_
    refine jB7 rfl rfl ((i + 1 : Nat) : Int) (by rw [lT _ (by omega)]; omega) rfl ?_
    refine sA rfl rfl <| sAN hZ rfl rfl <| f6K 1 3 4 5 6 7 rfl <| jB5 ?_
    repeat (with_reducible (first | refine nTE ?_ | refine jI5 (by decide) ?_))
    refine nBE <| jJ9 (valL (t.take (i + 1)) % 18446744073709551616, i + 1, true) (.inr ⟨rfl, by show i + 1 = _; omega, by omega, by omega, rfl⟩) (kR rfl) (hV _)
   have hd1 : 128 ≤ dat t i := by
    have : ¬ (((t.getD i 0).toNat : Int)) < 128 := by simpa using h3
    simp only [dat]
    omega
   have hic : i < cnt 10 t := by
    rcases xX i (cnt 10 t) with h4 | h4
    ·exact h4
    ·obtain rfl : i = cnt 10 t := by omega
     have := wS2 10 t (by omega) hlt
     omega
   refine aR fun Z hZ => sM rfl rfl <| sM rfl rfl <| kV1 (.inl rfl) rfl rfl ((dat t i % 128 : Nat) : Int) (zM1 _ (t.getD i 0).toNat_lt) rfl <| jD0 Tryz.underlying5 Tryz.underlying61 rfl ((dat t i % 128 : Nat) : Int) (by rw [xK _ (by omega)]) rfl ?_
   refine sM rfl rfl <| kK3 rfl rfl ((7 * i : Nat) : Int) (add7 i hi9) rfl <| yI7 rfl rfl (by omega) _ rfl rfl ?_
   refine kV1 (.inr (.inl rfl)) rfl rfl ((valL (t.take (i + 1)) % 18446744073709551616 : Nat) : Int) (by rw [hx, zF9 hi9 hb, kJ1 hlt]) rfl ?_
   refine sAN hZ rfl rfl ?_
   refine f8K 1 3 4 6 7 8 35 36 rfl ?_
   refine aG (fun Z hZ => ?_)
   refine sM rfl rfl ?_
   refine jB7 rfl rfl ((i + 1 : Nat) : Int) (by rw [lT _ (by omega)]; omega) rfl ?_
   refine sAN hZ rfl rfl ?_
   refine nF [(1, _), (3, _), (4, _), (5, _), (6, _), (7, _), (35, _), (36, _)] (kR rfl) ?_
   repeat (with_reducible refine nBN ?_)
   refine nN ?_
   refine aG (fun Z hZ => ?_)
   refine jB7 rfl rfl ((i + 1 : Nat) : Int) (by rw [lT _ (by omega)]; omega) rfl ?_
   refine sMN hZ rfl rfl <| nF [(1, _), (3, _), (4, _), (5, _), (6, _), (7, _), (35, _), (36, _)] (kR rfl) <| jC2 (i + 1, valL (t.take (i + 1)) % 18446744073709551616) ⟨by show i + 1 ≤ _; omega, fun h9 => ?_⟩ (by simp; omega) (kR rfl) (hV _)
   exact kT6 (by omega) hlt (fun h => by simp at h9; omega)
  ·have hge : i = t.length := by simp at h; omega
   refine jB5 ?_
   repeat (with_reducible refine nTE ?_)
   refine nBE ?_
   exact jJ9 (x, i, false) (.inl ⟨rfl, by show i = _; omega, .inr hge⟩) (kR rfl) (hV _)
 rintro ⟨x, n, b⟩ hj
 simp only at hj
 refine nN ?_
 show awp _ _ _ _ _ [(1, ptr g1 0), (3, ptr g2 0), (4, uq x), (5, iq n), (6, .bool b), (7, .string (str t))] _ _
 have done : ∀ e : Nat, jG0 t = (e, 0) → e ≠ 0 → getQ s p = (0, p, e) := fun e he h0 => by
  unfold getQ
  rw [ht, he, if_neg h0]
 refine aS (aB ?_)
 rcases hj with ⟨hb, hn, hor⟩ | ⟨hb, hn, h10, hcl2, hx⟩
 ·subst hb hn
  refine jA0 [(1, ptr g1 0), (3, ptr g2 0), (4, uq x), (5, iq (cnt 10 t : Nat)), (6, .bool false), (7, .string (str t)), (68, .bool (decide (cnt 10 t = 10)))] [.own g2 317 [.string (str []), iq 0, iq 0], .own g1 317 [.string (str s), iq p, iq 0]] (fun Z hZ => ?_) ?_
  ·refine sM rfl rfl <| jE8 rfl rfl <| sM rfl rfl <| jB9 71 rfl true (by rfl) ?_
   refine sOn0 ?_
   refine sM rfl rfl <| sOn0 ?_
   refine jB1 ?_
   refine sP rfl rfl rfl <| sA rfl rfl <| sN (hZ _ _ ?_ ?_)
   ·exact kE rfl (kE rfl (kE rfl (kE rfl (kE rfl (kE rfl (kE (congrArg some (congrArg Value.bool (by rw [lS]; simp; omega))) kF))))))
   ·exact hV _
  refine aC0 (fun h => ?_) (fun h => ?_)
  ·have h10 : cnt 10 t = 10 := by simpa using h
   rw [done 11 (by unfold jG0; rw [if_pos h10]) (by decide)]
   refine aR (fun Z hZ => sLA0 1 tyA317 tyS317 ?_)
   refine sCP0 (kT3 s p 0 11) ?_
   refine sX rfl rfl rfl <| sX rfl rfl rfl <| sA rfl rfl <| sS0 0 tyS317 ?_
   refine sN (hZ _ _ <| f2K 2 3 rfl <| aE ?_)
   repeat (with_reducible (first | refine nTR ?_ | refine nBR ?_ | refine jD4 ?_))
   exact jF3 rfl rfl (kH 0 rfl rfl tyA317 tyS317 rfl) rfl
  ·have h10 : cnt 10 t ≠ 10 := by simpa using h
   rw [done 3 (by unfold jG0; rw [if_neg h10, if_pos (hor.resolve_left h10)]) (by decide)]
   refine aR fun Z hZ => sM rfl rfl <| jE8 rfl rfl <| sAN hZ rfl rfl <| f6K 1 3 4 5 7 79 rfl <| aC0 (fun h2 => ?_) (fun h2 => ?_)
   ·refine aR (fun Z hZ => sLA0 1 tyA317 tyS317 ?_)
    refine sCP0 (kT3 s p 0 3) ?_
    refine sX rfl rfl rfl <| sX rfl rfl rfl <| sA rfl rfl <| sS0 0 tyS317 ?_
    refine sN (hZ _ _ <| f2K 2 3 rfl <| aE ?_)
    repeat (with_reducible (first | refine nTR ?_ | refine nBR ?_ | refine jD4 ?_))
    exact jF3 rfl rfl (kH 0 rfl rfl tyA317 tyS317 rfl) rfl
   ·cases h2
 ·subst hb hn
  have hdk := wS2 10 t h10 hcl2
  have hdx := wM7 hcl2
  have hdd : (t.getD (cnt 10 t) 0).toNat = dat t (cnt 10 t) := rfl
  have e9 : cnt 10 t = 9 → dat t 9 = dat t (cnt 10 t) := fun h => by rw [h]
  refine jA0 [(1, ptr g1 0), (3, ptr g2 0), (4, uq x), (5, iq (cnt 10 t + 1 : Nat)), (6, .bool true), (7, .string (str t)), (68, .bool false)] [.own g2 317 [.string (str []), iq 0, iq 0], .own g1 317 [.string (str s), iq p, iq 0]] (fun Z hZ => ?_) ?_
  ·refine sM rfl rfl <| jE8 rfl rfl <| sM rfl rfl <| jB3 71 rfl (fun hb2 => ?_) (fun hb2 => ?_)
   ·refine sOn0 ?_
    refine sM rfl rfl <| sOn0 ?_
    refine jB1 ?_
    refine sP rfl rfl rfl <| sA rfl rfl <| sN (hZ _ _ ?_ ?_)
    ·(exfalso; revert hb2; decide)
    ·exact hV _
   ·refine sO0 ?_
    refine sO0 ?_
    refine sP rfl rfl rfl <| sA rfl rfl <| sN (hZ _ _ ?_ ?_)
    ·exact kR rfl
    ·exact hV _
  refine aC0 (fun h => ?_) (fun h => ?_)
  ·cases h
  refine aR fun Z hZ => sM rfl rfl <| jE8 rfl rfl <| sAN hZ rfl rfl <| f6K 1 3 4 5 7 79 rfl <| aC0 (fun h2 => ?_) (fun h2 => ?_)
  ·cases h2
  refine jA0 [(1, ptr g1 0), (3, ptr g2 0), (4, uq x), (5, iq (cnt 10 t + 1 : Nat)), (7, .string (str t)), (86, .bool (decide (cnt 10 t = 9 ∧ 1 < dat t 9)))] [.own g2 317 [.string (str []), iq 0, iq 0], .own g1 317 [.string (str s), iq p, iq 0]] (fun Z hZ => ?_) ?_
  ·refine sM rfl rfl <| jB1 ?_
   refine sM rfl rfl <| jB3 89 rfl (fun hb2 => ?_) (fun hb2 => ?_)
   ·refine sOn0 ?_
    refine sM rfl rfl <| sOn0 ?_
    refine sM rfl rfl <| sOn0 ?_
    refine jN0 rfl rfl ((cnt 10 t : Nat) : Int) (by rw [lT _ (by omega)]; omega) rfl ?_
    refine sOn0 ?_
    refine jE6 (l := t) (c := t.getD (cnt 10 t) 0) Tryz.underlying9 rfl rfl (by omega) hdx rfl ?_
    refine sOn0 ?_
    refine jC4 ?_
    refine sP rfl rfl rfl <| sA rfl rfl <| sN (hZ _ _ ?_ ?_)
    ·exact kE rfl (kE rfl (kE rfl (kE rfl (kE rfl (kE (congrArg some (congrArg Value.bool (by simp at hb2; rw [lS]; simp only [decide_eq_true_eq, hdd]; omega))) kF)))))
    ·exact hV _
   ·refine sO0 ?_
    refine sO0 ?_
    refine sO0 ?_
    refine sO0 ?_
    refine sO0 ?_
    refine sP rfl rfl rfl <| sA rfl rfl <| sN (hZ _ _ ?_ ?_)
    ·exact kE rfl (kE rfl (kE rfl (kE rfl (kE rfl (kE (congrArg some (congrArg Value.bool (by simp at hb2; rw [lS]; simp only [decide_eq_true_eq, zV, false_iff]; omega))) kF)))))
    ·exact hV _
  refine aC0 (fun h3 => ?_) (fun h3 => ?_)
  ·have h9 : cnt 10 t = 9 ∧ 1 < dat t 9 := by simpa using h3
   rw [done 11 (by unfold jG0; rw [if_neg (by omega), if_neg (by omega), if_pos h9]) (by decide)]
   refine aR (fun Z hZ => sLA0 1 tyA317 tyS317 ?_)
   refine sCP0 (kT3 s p 0 11) ?_
   refine sX rfl rfl rfl <| sX rfl rfl rfl <| sA rfl rfl <| sS0 0 tyS317 ?_
   refine sN (hZ _ _ <| f2K 2 3 rfl <| aE ?_)
   repeat (with_reducible (first | refine nTR ?_ | refine nBR ?_ | refine jD4 ?_))
   exact jF3 rfl rfl (kH 0 rfl rfl tyA317 tyS317 rfl) rfl
  have h9 : ¬ (cnt 10 t = 9 ∧ 1 < dat t 9) := by simpa using h3
  refine jA0 [(1, ptr g1 0), (3, ptr g2 0), (4, uq x), (5, iq (cnt 10 t + 1 : Nat)), (100, .bool (decide (0 < cnt 10 t ∧ dat t (cnt 10 t) = 0)))] [.own g2 317 [.string (str []), iq 0, iq 0], .own g1 317 [.string (str s), iq p, iq 0]] (fun Z hZ => ?_) ?_
  ·refine sM rfl rfl <| jC4 ?_
   refine sM rfl rfl <| jB3 103 rfl (fun hb2 => ?_) (fun hb2 => ?_)
   ·refine sOn0 ?_
    refine sM rfl rfl <| sOn0 ?_
    refine sM rfl rfl <| sOn0 ?_
    refine jN0 rfl rfl ((cnt 10 t : Nat) : Int) (by rw [lT _ (by omega)]; omega) rfl ?_
    refine sOn0 ?_
    refine jE6 (l := t) (c := t.getD (cnt 10 t) 0) Tryz.underlying9 rfl rfl (by omega) hdx rfl ?_
    refine sOn0 ?_
    refine jB1 ?_
    refine sP rfl rfl rfl <| sA rfl rfl <| sN (hZ _ _ ?_ ?_)
    ·exact kE rfl (kE rfl (kE rfl (kE rfl (kE (congrArg some (congrArg Value.bool (by simp at hb2; rw [lS]; simp only [beq_iff_eq, decide_eq_true_eq, hdd]; omega))) kF))))
    ·exact hV _
   ·refine sO0 ?_
    refine sO0 ?_
    refine sO0 ?_
    refine sO0 ?_
    refine sO0 ?_
    refine sP rfl rfl rfl <| sA rfl rfl <| sN (hZ _ _ ?_ ?_)
    ·exact kE rfl (kE rfl (kE rfl (kE rfl (kE (congrArg some (congrArg Value.bool (by simp at hb2; rw [lS]; simp only [decide_eq_true_eq, zV, false_iff]; omega))) kF))))
    ·exact hV _
  refine aC0 (fun h4 => ?_) (fun h4 => ?_)
  ·have h0 : 0 < cnt 10 t ∧ dat t (cnt 10 t) = 0 := by simpa using h4
   rw [done 4 (by unfold jG0; rw [if_neg (by omega), if_neg (by omega), if_neg h9, if_pos h0]) (by decide)]
   refine aR (fun Z hZ => sLA0 1 tyA317 tyS317 ?_)
   refine sCP0 (kT3 s p 0 4) ?_
   refine sX rfl rfl rfl <| sX rfl rfl rfl <| sA rfl rfl <| sS0 0 tyS317 ?_
   refine sN (hZ _ _ <| f2K 2 3 rfl <| aE ?_)
   repeat (with_reducible (first | refine nTR ?_ | refine nBR ?_ | refine jD4 ?_))
   exact jF3 rfl rfl (kH 0 rfl rfl tyA317 tyS317 rfl) rfl
  have h0 : ¬ (0 < cnt 10 t ∧ dat t (cnt 10 t) = 0) := by simpa using h4
  refine aK ?_
  repeat (with_reducible refine nBN ?_)
  refine nN ?_
  have hw : jG0 t = (0, cnt 10 t + 1) := by unfold jG0; rw [if_neg (by omega), if_neg (by omega), if_neg h9, if_neg h0]
  have hg : getQ s p = (x, p + (cnt 10 t + 1), 0) := by
   unfold getQ
   rw [ht, hw, if_pos rfl, hx, kT6 (by omega) hcl2 (fun h => by have : ¬ 1 < dat t 9 := fun h' => h9 ⟨h, h'⟩; omega)]
  rw [hg]
  refine aR (fun Z hZ => sFA0 jN8 ?_)
  refine sL0 1 tyA3 tyS3 ?_
  refine sM rfl rfl ?_
  refine jB7 rfl rfl ((p + (cnt 10 t + 1) : Nat) : Int) (by rw [lT _ (by omega)]; omega) rfl ?_
  refine sFA0 jN8 ?_
  refine sS10 1 tyS3 ?_
  refine sN (hZ _ _ <| f3K 1 3 4 rfl <| jX3 [0, 1, 2, 3] jF1 (by kernel_rfl) rfl (fun Z hZ => ?_))
  refine sM rfl rfl <| sLA0 1 tyA317 tyS317 ?_
  refine sA rfl rfl <| sS0 0 tyS317 ?_
  refine sN (hZ _ _ <| f2K 2 3 rfl <| aE ?_)
  repeat refine jD4 ?_
  exact jF3 rfl rfl (kH 0 rfl rfl tyA317 tyS317 rfl) rfl
end V
namespace V
open Go.RowKit
theorem wW1 {t : List UInt8} (h : (jG0 t).1 = 0) : (jG0 t).2 = cnt 10 t + 1 ∧ cnt 10 t < 10 ∧ cnt 10 t < t.length ∧ (cnt 10 t = 9 → dat t 9 ≤ 1) := by
 obtain ⟨hc10, hcl⟩ := wS1 10 t
 unfold jG0 at h ⊢
 by_cases h1 : cnt 10 t = 10
 ·rw [if_pos h1] at h; cases h
 rw [if_neg h1] at h ⊢
 by_cases h2 : cnt 10 t = t.length
 ·rw [if_pos h2] at h; cases h
 rw [if_neg h2] at h ⊢
 by_cases h3 : cnt 10 t = 9 ∧ 1 < dat t 9
 ·rw [if_pos h3] at h; cases h
 rw [if_neg h3] at h ⊢
 by_cases h4 : 0 < cnt 10 t ∧ dat t (cnt 10 t) = 0
 ·rw [if_pos h4] at h; cases h
 rw [if_neg h4]
 exact ⟨rfl, by omega, by omega, fun h9 => by omega⟩
abbrev wq4 (x : Nat) : Value := .int .u32 (x : Int)
structure En where
 (id off len run : Nat)
def En.ok (e : En) : Prop := e.id < 18446744073709551616 ∧ e.off < 18446744073709551616 ∧ e.len < 4294967296 ∧ e.run < 4294967296
abbrev En.cells (e : En) : List Value := [uq e.id, uq e.off, wq4 e.len, wq4 e.run]
abbrev En.val (e : En) : Value := .agg e.cells.toArray
def En.wide (e : En) : Nat := max 1 e.run
def En.next (e : En) : Nat := (e.off + e.len) % 18446744073709551616
def chkE (e : En) : Nat :=
 if e.len = 0 then 2 else if 6004799503160661 - e.wide < e.id then 8 else if 1099511627776 < e.off ∨ 1099511627776 < e.next then 8 else 0
def jK4 (e : En) : Nat := if chkE e = 0 then e.id + e.wide - 1 else 0
theorem wX0 (x : Nat) : IntKind.u64.wrap (x : Int) = ((x % 18446744073709551616 : Nat) : Int) := by simp [IntKind.wrap, IntKind.bits, IntKind.signed]
theorem vT2 (e : En) (h : e.ok) : Fn Tryz.prog 219 [e.val] [] fun v _ => v = uq e.wide := by
 obtain ⟨h1, h2, h3, h4⟩ := h
 refine fE 7 Tryz.func219 rfl (fun w0 => aR (fun Z hZ => jB2 (fun g1 => ?_)))
 refine sAN hZ rfl rfl <| f1K 1 rfl <| aR (fun Z hZ => sFA0 jM4 ?_)
 first | refine sL0 0 tyA180 tyS180 ?_
 refine yI8 rfl rfl ((e.wide : Nat) : Int) (by simp only [En.wide]; omega) rfl ?_
 refine jD0 Tryz.underlying180 Tryz.underlying61 rfl ((e.wide : Nat) : Int) (by rw [xK _ (by simp only [En.wide]; omega)]) rfl ?_
 refine sAN hZ rfl rfl <| f1K 2 rfl <| aE <| nR10 rfl
theorem yZ9 (e : En) (h : e.ok) : Fn Tryz.prog 223 [e.val] [] fun v _ => v = uq e.next := by
 obtain ⟨h1, h2, h3, h4⟩ := h
 refine fE 9 Tryz.func223 rfl (fun w0 => aR (fun Z hZ => jB2 (fun g1 => ?_)))
 refine sAN hZ rfl rfl <| f1K 1 rfl <| aR (fun Z hZ => sFA0 jH0 ?_)
 first | refine sL0 0 tyA61 tyS61 ?_
 refine sFA0 jJ6 ?_
 first | refine sL0 0 tyA180 tyS180 ?_
 refine jD0 Tryz.underlying180 Tryz.underlying61 rfl ((e.len : Nat) : Int) (by rw [xK _ (by omega)]) rfl ?_
 refine kD6 ((e.next : Nat) : Int) (by rw [← Int.natCast_add, wX0]; rfl) ?_
 refine sAN hZ rfl rfl <| f1K 2 rfl <| aE <| nR10 rfl
theorem vF7 (e : En) (h : e.ok) : Fn Tryz.prog 164 [e.val] [] fun v _ => v = iq (chkE e) := by
 have hok := h
 obtain ⟨h1, h2, h3, h4⟩ := h
 have hw : e.wide ≤ 4294967296 := by simp only [En.wide]; omega
 refine fE 23 Tryz.func164 rfl (fun w0 => aR (fun Z hZ => jB2 (fun g1 => ?_)))
 refine sAN hZ rfl rfl <| f1K 1 rfl <| aS (aB <| aR (fun Z hZ => sFA0 jJ6 ?_))
 first | refine sL0 0 tyA180 tyS180 ?_
 refine jB1 ?_
 refine sAN hZ rfl rfl <| f2K 1 3 rfl <| aC0 (fun ha => ?_) (fun ha => ?_)
 ·have h0 : e.len = 0 := by simp at ha; omega
  rw [show chkE e = 2 by unfold chkE; rw [if_pos h0]]
  refine aA rfl rfl ?_
  refine f1K 2 rfl ?_
  refine aE ?_
  repeat (with_reducible (first | refine nTR ?_ | refine nBR ?_))
  exact nR1 rfl rfl rfl
 have h0 : e.len ≠ 0 := by simp at ha; omega
 refine jC1 jF1 (by kernel_rfl) (fun Z hZ => ?_)
 refine qFA0 jJ7 ?_
 first | refine jA9 0 tyA61 tyS61 ?_
 first | refine jM6 0 rfl rfl tyA182 tyS182 rfl (by simp only [qS, Value.cells]; rfl) rfl ?_
 refine jG2 (vT2 e hok) rfl rfl <| vP7 rfl rfl ((6004799503160661 - e.wide : Nat) : Int) (by rw [xK _ (by omega)]; omega) rfl ?_
 refine kP6 rfl rfl rfl <| jB8 rfl rfl <| jE9 (hZ _ _ <| f2K 1 7 rfl <| aC0 (fun hb => ?_) (fun hb => ?_))
 ·have hb' : 6004799503160661 - e.wide < e.id := by simp at hb; omega
  rw [show chkE e = 8 by unfold chkE; rw [if_neg h0, if_pos hb']]
  refine aA rfl rfl ?_
  refine f1K 2 rfl ?_
  refine aE ?_
  repeat (with_reducible (first | refine nTR ?_ | refine nBR ?_))
  exact nR1 rfl rfl rfl
 have hb' : ¬ 6004799503160661 - e.wide < e.id := by simp at hb; omega
 refine jA0 [(14, .bool (decide (1099511627776 < e.off ∨ 1099511627776 < e.next)))] [] (fun Z hZ => ?_) ?_
 ·refine sFA0 jH0 ?_
  first | refine sL0 0 tyA61 tyS61 ?_
  refine jC4 ?_
  refine sM rfl rfl <| jB3 18 rfl (fun hb3 => ?_) (fun hb3 => ?_)
  ·refine sO0 ?_
   refine sO0 ?_
   refine sO0 ?_
   refine sP rfl rfl rfl <| sA rfl rfl <| sN (hZ _ _ ?_ ?_)
   ·exact kE (congrArg some (congrArg Value.bool (by simp at hb3; rw [lS]; simp; omega))) kF
   ·exact pH [] rfl
  ·refine sOn0 ?_
   first | refine sLA0 0 tyA182 tyS182 ?_
   refine sOn0 ?_
   refine sCP0 (yZ9 e hok) ?_
   refine sOn0 ?_
   refine jC4 ?_
   refine sP rfl rfl rfl <| sA rfl rfl <| sN (hZ _ _ ?_ ?_)
   ·exact kE (congrArg some (congrArg Value.bool (by simp at hb3; rw [lS]; simp; omega))) kF
   ·exact pH [] rfl
 refine aC0 (fun hc => ?_) (fun hc => ?_)
 ·have hc' : 1099511627776 < e.off ∨ 1099511627776 < e.next := by simpa using hc
  rw [show chkE e = 8 by unfold chkE; rw [if_neg h0, if_neg hb', if_pos hc']]
  refine aA rfl rfl ?_
  refine f1K 2 rfl ?_
  refine aE ?_
  repeat (with_reducible (first | refine nTR ?_ | refine nBR ?_))
  exact nR1 rfl rfl rfl
 have hc' : ¬ (1099511627776 < e.off ∨ 1099511627776 < e.next) := by simpa using hc
 rw [show chkE e = 0 by unfold chkE; rw [if_neg h0, if_neg hb', if_neg hc']]
 refine aK ?_
 repeat (with_reducible refine nBN ?_)
 refine nN ?_
 refine aA rfl rfl ?_
 refine f1K 2 rfl ?_
 refine aE ?_
 exact nR10 rfl
theorem wQ4 (e : En) (h : e.ok) : Fn Tryz.prog 176 [e.val] [] fun v _ => v = .bool (decide (chkE e = 0)) := by
 refine fE 6 Tryz.func176 rfl (fun w0 => aR (fun Z hZ => jB2 (fun g1 => ?_)))
 refine sAN hZ rfl rfl <| f1K 1 rfl <| aR (fun Z hZ => ?_)
 first | refine sLA0 0 tyA182 tyS182 ?_
 refine sCP0 (vF7 e h) ?_
 refine jB1 ?_
 refine sAN hZ rfl rfl ?_
 refine f1K 2 rfl ?_
 refine aE ?_
 exact nR1 rfl rfl (congrArg Value.bool (by rw [lS]; simp))
theorem En.ok.wide {e : En} (h : e.ok) : 1 ≤ e.wide ∧ e.wide ≤ 4294967296 := by
 obtain ⟨_, _, _, h4⟩ := h
 simp only [En.wide]; omega
theorem kG1 {e : En} (ho : e.ok) (h : chkE e = 0) : e.len ≠ 0 ∧ e.id + e.wide ≤ 6004799503160661 ∧ e.off ≤ 1099511627776 ∧ e.next ≤ 1099511627776 := by
 have hw := ho.wide
 unfold chkE at h
 split at h
 ·cases h
 split at h
 ·cases h
 split at h
 ·cases h
 ·rename_i a b c
  exact ⟨a, by omega, by omega, by omega⟩
theorem vT4 (e : En) (h : e.ok) : Fn Tryz.prog 159 [e.val] [] fun v _ => v = uq (jK4 e) := by
 have hok := h
 obtain ⟨h1, h2, h3, h4⟩ := h
 have hw : 1 ≤ e.wide ∧ e.wide ≤ 4294967296 := by simp only [En.wide]; omega
 refine fE 12 Tryz.func159 rfl (fun w0 => aR (fun Z hZ => jB2 (fun g1 => ?_)))
 refine sAN hZ rfl rfl <| f1K 1 rfl <| aS <| aR (fun Z hZ => ?_)
 first | refine sLA0 0 tyA182 tyS182 ?_
 refine sCP0 (wQ4 e hok) ?_
 refine jE8 rfl rfl <| sN (hZ _ _ <| f2K 1 5 rfl <| aC0 (fun ha => ?_) (fun ha => ?_))
 ·have h0 : chkE e ≠ 0 := by simpa using ha
  rw [show jK4 e = 0 by unfold jK4; rw [if_neg h0]]
  refine aA rfl rfl ?_
  refine f1K 2 rfl ?_
  refine aE ?_
  repeat (with_reducible refine nTR ?_)
  exact nR1 rfl rfl rfl
 have h0 : chkE e = 0 := by simpa using ha
 obtain ⟨_, h5, _, _⟩ := kG1 hok h0
 rw [show jK4 e = e.id + e.wide - 1 by unfold jK4; rw [if_pos h0]]
 refine aK <| nN <| jC1 jF1 (by kernel_rfl) (fun Z hZ => ?_)
 refine qFA0 jJ7 ?_
 first | refine jA9 0 tyA61 tyS61 ?_
 first | refine jM6 0 rfl rfl tyA182 tyS182 rfl (by simp only [qS, Value.cells]; rfl) rfl ?_
 refine jG2 (vT2 e hok) rfl rfl <| kL2 rfl rfl ((e.id + e.wide : Nat) : Int) (by rw [xK _ (by omega)]; omega) rfl ?_
 refine vP7 rfl rfl ((e.id + e.wide - 1 : Nat) : Int) (by rw [xK _ (by omega)]; omega) rfl ?_
 refine jB8 rfl rfl <| jE9 (hZ _ _ <| f1K 2 rfl <| aE <| nR10 rfl)
end V
namespace V
open Go.RowKit
abbrev jA2 (L : List En) : List Value := L.flatMap En.cells
theorem jV0 (e : En) : e.cells.length = 4 := rfl
theorem jI6 (L : List En) : (jA2 L).length = L.length * 4 := kM8 jV0 L
theorem jK6 {L : List En} {i : Nat} {x : En} (h : L[i]? = some x) : rdV true 4 (jA2 L) (i * 4) = some x.val := vL5 jV0 h
def rowQ : Nat → List En → Nat
 | _, [] => 0
 | free, e :: r => if chkE e = 0 then (if e.id < free then 10 else rowQ (jK4 e + 1) r) else chkE e
def rowC (L : List En) : Nat := if 4096 < L.length then 21 else rowQ 0 L
def jF5 (L : List En) : Prop := ∀ e ∈ L, e.ok
theorem wK9 {e : En} (h : e.ok) : jK4 e < 6004799503160661 := by
 have := h.wide
 unfold jK4
 split
 ·rename_i h0
  have := kG1 h h0
  omega
 ·omega
theorem jY3 (A : Option Addr) (c : Nat) (L : List En) (T : Heap) (hA : jK9 A L.length) (hT : 0 < L.length → T = roE A (jA2 L)) (hro : Ro T) (hL : L.length ≤ maxLen) (hE : jF5 L) :
  Fn Tryz.prog 94 [.slice A L.length c] T fun v _ => v = iq (rowC L) := by
 have hL' : L.length ≤ 9223372036854775807 := hL
 refine fE 29 Tryz.func94 rfl (fun w0 => aA rfl rfl <| f1K 0 rfl <| aS <| aR fun Z hZ => sM rfl rfl <| jE5 Tryz.underlying114 rfl rfl <| jC4 ?_)
 refine sN (hZ _ _ <| f2K 0 9 rfl <| aC0 (fun ha => ?_) (fun ha => ?_))
 ·have h0 : 4096 < L.length := by simp at ha; omega
  rw [show rowC L = 21 by unfold rowC; rw [if_pos h0]]
  refine aA rfl rfl ?_
  refine f1K 2 rfl ?_
  refine aE ?_
  repeat (with_reducible refine nTR ?_)
  exact nR1 rfl rfl rfl
 have h0 : ¬ 4096 < L.length := by simp at ha; omega
 rw [show rowC L = rowQ 0 L by unfold rowC; rw [if_neg h0]]
 refine aK <| nN <| aA rfl rfl <| f2K 0 3 rfl <| aS <| aR fun Z hZ => sM rfl rfl <| jE5 Tryz.underlying114 rfl rfl <| sMN hZ rfl rfl <| f4K 3 10 11 12 rfl <| aB ?_
 refine jC3 (ι := Nat × Nat) (fun i => [(3, uq i.2), (10, .slice A L.length c), (11, iq (L.length : Nat)), (12, iq (i.1 : Nat))]) (fun i => T)
  (fun i => i.1 ≤ L.length ∧ i.2 < 9000000000000000 ∧ rowQ i.2 (L.drop i.1) = rowQ 0 L) (fun i => L.length - i.1) (0, 0) ⟨by simp, by simp, rfl⟩ (kR rfl) (hV _) ?_
 rintro ⟨k, free⟩ ⟨hk, hf, hq⟩
 simp only at hk hf hq
 refine aR (fun Z hZ => jB0 ?_)
 refine sN (hZ _ _ <| f5K 3 10 11 12 13 rfl <| aS (aC0 (fun h => ?_) (fun h => ?_)))
 ·have hlt : k < L.length := by simpa using h
  obtain ⟨x, hx⟩ : ∃ x, L[k]? = some x := ⟨_, xF hlt⟩
  have hxe : L[k] = x := lV ((xF hlt).symm.trans hx)
  have hok : x.ok := hE x (xN hx)
  have hl := wK9 hok
  obtain ⟨g, o, rfl⟩ := hA (by omega)
  obtain rfl := hT (by omega)
  have hdr : L.drop k = x :: L.drop (k + 1) := by rw [zA hlt, hxe]
  rw [hdr, rowQ] at hq
  refine aK <| nN <| aS (aB <| aR (fun Z hZ => jA8 (o + k * 4) Tryz.underlying114 tyS182 rfl rfl (by omega) (by simp) rfl ?_))
  refine jE0 0 rfl rfl (k * 4) rfl tyA182 tyS182 (jK6 hx) rfl <| sAl tyZ182 rfl (fun g1 => sS0 0 tyS182 ?_)
  refine sN (hZ _ _ <| f5K 3 5 10 11 12 rfl <| aS <| aR (fun Z hZ => sLA0 0 tyA182 tyS182 ?_))
  refine sCP0 (vF7 x hok) ?_
  refine sAN hZ rfl rfl <| f6K 3 5 6 10 11 12 rfl <| aR fun Z hZ => sM rfl rfl <| jA6 ?_
  refine sN (hZ _ _ <| f7K 3 5 6 10 11 12 19 rfl <| aC0 (fun hb => ?_) (fun hb => ?_))
  ·have hb' : chkE x ≠ 0 := by simp at hb; omega
   rw [if_neg hb'] at hq
   rw [← hq]
   refine aR fun Z hZ => sM rfl rfl <| sAN hZ rfl rfl ?_
   refine f1K 2 rfl ?_
   refine aE ?_
   repeat (with_reducible (first | refine nTR ?_ | refine nBR ?_))
   exact nR1 rfl rfl rfl
  have hb' : chkE x = 0 := by simp at hb; omega
  rw [if_pos hb'] at hq
  refine aK <| nN <| aS <| aR (fun Z hZ => sFA0 jJ7 ?_)
  refine sL0 0 tyA61 tyS61 ?_
  refine sM rfl rfl <| jB0 ?_
  refine sN (hZ _ _ <| f5K 5 10 11 12 24 rfl <| aC0 (fun hc => ?_) (fun hc => ?_))
  ·have hc' : x.id < free := by simp at hc; omega
   rw [if_pos hc'] at hq
   rw [← hq]
   refine aA rfl rfl ?_
   refine f1K 2 rfl ?_
   refine aE ?_
   repeat (with_reducible (first | refine nTR ?_ | refine nBR ?_))
   exact nR1 rfl rfl rfl
  have hc' : ¬ x.id < free := by simp at hc; omega
  rw [if_neg hc'] at hq
  refine aK <| nN <| aG (fun Z hZ => sLA0 0 tyA182 tyS182 ?_)
  refine sCP0 (vT4 x hok) ?_
  refine jB7 rfl rfl ((jK4 x + 1 : Nat) : Int) (by rw [xK _ (by omega)]; omega) rfl ?_
  refine sAN hZ rfl rfl ?_
  refine nF [(3, _), (10, _), (11, _), (12, _)] (kR rfl) ?_
  repeat (with_reducible refine nBN ?_)
  refine nN ?_
  refine aG (fun Z hZ => ?_)
  refine jB7 rfl rfl ((k + 1 : Nat) : Int) (by rw [lT _ (by omega)]; omega) rfl ?_
  refine sMN hZ rfl rfl <| nF [(3, _), (10, _), (11, _), (12, _)] (kR rfl) <| jC2 (k + 1, jK4 x + 1) ⟨by show k + 1 ≤ _; omega, by show jK4 x + 1 < _; omega, hq⟩ (by simp; omega) (kR rfl) (kC 1 rfl)
 ·refine jB5 ?_
  repeat (with_reducible refine nTE ?_)
  refine nBE ?_
  refine nN ?_
  have hke : k = L.length := by simp at h; omega
  subst hke
  rw [uO, rowQ] at hq
  rw [← hq]
  refine aA rfl rfl <| f1K 2 rfl <| aE <| nR10 rfl
end V
namespace V
open Go.RowKit
theorem kR2 : ElemOk Tryz.prog 114 182 4 24 := ElemOk.mk_ (z := .agg #[uq 0, uq 0, wq4 0, wq4 0]) Tryz.underlying114 (by kernel_rfl) rfl (by omega)
theorem kR3 (L : List En) : (jA2 L).all Value.oneCell' = true := List.all_eq_true.2 fun v hv => by
 obtain ⟨e, _, he⟩ := List.mem_flatMap.1 hv
 simp only [En.cells, lW, List.not_mem_nil, or_false] at he
 rcases he with rfl | rfl | rfl | rfl <;> rfl
end V
namespace V
open Go.RowKit
end V
section
open Go.RowKit Go.ChangeShapes Go.WideShapes Go.ChangeAt Go.Joins
open Go.ChangeMaps (open_string)
section
variable {H : Type} {enc : TypeId × Value → H} {w : World} {base : Nat} {spare : Nat → Bool} {held : Bool}
theorem zD3 {x : Int} (h : (Lit.int .i64 x).wf = true) : -9223372036854775808 ≤ x ∧ x < 9223372036854775808 := by
 simp [Lit.wf, IntKind.min, IntKind.max, IntKind.signed, IntKind.bits] at h
 exact ⟨by omega, by omega⟩
theorem zD2 {x : Int} (h : (Lit.int .u16 x).wf = true) : 0 ≤ x ∧ x < 65536 := by
 simp [Lit.wf, IntKind.min, IntKind.max, IntKind.signed, IntKind.bits] at h
 exact ⟨by omega, by omega⟩
theorem World.lt_of_cell {w : World} {a : Addr} {v : Value} (h : w.cell? a = some v) : a.block < w.heap.size := by
 rcases xX a.block w.heap.size with h' | h'
 ·exact h'
 ·simp [World.cell?, Array.getElem?_eq_none h'] at h
theorem wU8 (a : Addr) (j : Nat) (h : a.spot = none) : a.add j = ⟨a.block, a.off + j, none⟩ := by
 obtain ⟨g, o, s⟩ := a
 simp only at h
 subst h
 unfold Addr.add
 split <;> simp_all
end
end
section
open Go.RowKit Go.ChangeShapes Go.WideShapes Go.ChangeAt Go.Joins
end
section
open Go.RowKit Go.ChangeShapes Go.WideShapes Go.ChangeAt Go.Joins
def Scal : TypeDesc → Value → Prop
 | .bool, v => ∃ b, v = .bool b
 | .int k, v => ∃ n, v = .int k n ∧ (Lit.int k n).wf = true
 | .string, v => ∃ l, v = .string (str l) ∧ l.length ≤ maxLen
 | _, _ => False
def kE1 (lv : TypeId → Option (List TypeDesc)) (sz : TypeId → Nat) : Nat → List Field → Option (List TypeDesc)
 | _, [] => some []
 | off, f :: r => match lv f.type, kE1 lv sz (off + sz f.type) r with
  | some a, some b => bif Nat.beq f.offset off && Nat.beq a.length (sz f.type) then some (a ++ b) else none
  | _, _ => none
def leaves (P : Program) : Nat → TypeId → Option (List TypeDesc)
 | 0, _ => none
 | n + 1, t => match P.underlying t with
  | some .bool => some [.bool]
  | some (.int k) => some [.int k]
  | some .string => some [.string]
  | some (.struct fs) => match kE1 (leaves P n) P.cellsOf 0 fs.toList with
   | some L => bif Nat.beq L.length (P.cellsOf t) then some L else none
   | none => none
  | _ => none
inductive Alike : List TypeDesc → List Value → Prop
 | nil : Alike [] []
 | cons {d : TypeDesc} {v : Value} {L : List TypeDesc} {cs : List Value} (h : Scal d v) (t : Alike L cs) : Alike (d :: L) (v :: cs)
theorem Alike.append : ∀ {L M : List TypeDesc} {a b : List Value}, Alike L a → Alike M b → Alike (L ++ M) (a ++ b)
 | [], _, _, _, .nil, h => h
 | _ :: _, _, _, _, .cons h t, k => .cons h (t.append k)
section
variable {H : Type} {enc : TypeId × Value → H} {P : Program} {w : World} {base : Nat} {spare : Nat → Bool} {held : Bool}
theorem kQ6 {lv : TypeId → Option (List TypeDesc)} {fuel : Nat} {cs : List Value} (ih : ∀ t L ds x, lv t = some L → DataW.trod enc P w base spare held fuel t ds = some x → Alike L ds) :
  ∀ (fs : List Field) (off : Nat) (L : List TypeDesc) (xs : List (DataW H × List MemPlace)), kE1 lv P.cellsOf off fs = some L → fs.mapM (fun f => DataW.trod enc P w base spare held fuel f.type ((cs.drop f.offset).take (P.cellsOf f.type))) = some xs → Alike L ((cs.drop off).take L.length)
 | [], off, L, xs, h, _ => by
  obtain rfl := lV h
  simpa using Alike.nil
 | f :: r, off, L, xs, h, hx => by
  simp only [kE1] at h
  cases h1 : lv f.type with
  | none => simp [h1] at h
  | some a =>
   cases h2 : kE1 lv P.cellsOf (off + P.cellsOf f.type) r with
   | none => simp [h1, h2] at h
   | some b =>
    simp only [h1, h2] at h
    cases hb : Nat.beq f.offset off && Nat.beq a.length (P.cellsOf f.type) with
    | false => rw [hb] at h; cases h
    | true =>
     rw [hb] at h
     obtain rfl := lV h
     simp only [xM] at hb
     have e1 := x6 hb.1
     have e2 := x6 hb.2
     rw [List.mapM_cons] at hx
     cases k1 : DataW.trod enc P w base spare held fuel f.type ((cs.drop f.offset).take (P.cellsOf f.type)) with
     | none => simp [k1] at hx
     | some y =>
      cases k2 : r.mapM (fun f => DataW.trod enc P w base spare held fuel f.type ((cs.drop f.offset).take (P.cellsOf f.type))) with
      | none => simp [k1, k2] at hx
      | some ys =>
       have h3 := ih _ _ _ _ h1 k1
       have h4 := kQ6 ih r _ b ys h2 k2
       rw [e1, ← e2] at h3
       rw [← e2] at h4
       rw [lN, List.take_add, List.drop_drop]
       exact h3.append h4
theorem kB3 : ∀ (n fuel : Nat) (t : TypeId) (L : List TypeDesc) (cs : List Value) (x : DataW H × List MemPlace), leaves P n t = some L → DataW.trod enc P w base spare held fuel t cs = some x → Alike L cs
 | 0, _, _, _, _, _, h, _ => by simp [leaves] at h
 | n + 1, 0, _, _, _, _, _, h => by simp [DataW.trod] at h
 | n + 1, fuel + 1, t, L, cs, x, hL, h => by
  unfold leaves at hL
  unfold DataW.trod at h
  cases hu : P.underlying t with
  | none => simp [hu] at hL
  | some d =>
   rw [hu] at hL
   simp only [hu] at h
   cases d with
   | bool =>
    obtain rfl := lV hL
    rcases cs with _ | ⟨c, _ | ⟨c2, cs⟩⟩
    ·simp at h
    ·cases c <;> simp at h
     exact .cons ⟨_, rfl⟩ .nil
    ·simp at h
   | int k =>
    obtain rfl := lV hL
    rcases cs with _ | ⟨c, _ | ⟨c2, cs⟩⟩
    ·simp at h
    ·cases c <;> simp at h
     obtain ⟨⟨rfl, hw⟩, _⟩ := h
     exact .cons ⟨_, rfl, hw⟩ .nil
    ·simp at h
   | string =>
    obtain rfl := lV hL
    rcases cs with _ | ⟨c, _ | ⟨c2, cs⟩⟩
    ·simp at h
    ·cases c <;> simp at h
     rename_i s
     obtain ⟨l, rfl⟩ := vC3 s
     exact .cons ⟨l, rfl, by have := h.1; rwa [str_size] at this⟩ .nil
    ·simp at h
   | struct fs =>
    simp only at hL
    cases hF : kE1 (leaves P n) P.cellsOf 0 fs.toList with
    | none => simp [hF] at hL
    | some M =>
     simp only [hF] at hL
     cases hb : Nat.beq M.length (P.cellsOf t) with
     | false => rw [hb] at hL; cases hL
     | true =>
      rw [hb] at hL
      obtain rfl := lV hL
      have e := x6 hb
      simp only at h
      split at h
      ·rename_i hl
       cases hx : fs.toList.mapM (fun f => DataW.trod enc P w base spare held fuel f.type ((cs.drop f.offset).take (P.cellsOf f.type))) with
       | none => simp [hx] at h
       | some xs =>
        have := kQ6 (fun t L ds x h1 h2 => kB3 n fuel t L ds x h1 h2) fs.toList 0 M xs hF hx
        rwa [lC, e, ← hl, xY] at this
      ·cases h
   | _ => simp at hL
theorem vK2 {t : TypeId} {r : Reach} {b0 : Nat} {v : Value} {d : DataW H} {p : List MemPlace} {fs : Array Field} {L : List TypeDesc} (n : Nat) (ht : P.underlying t = some (.struct fs)) (hL : leaves P n t = some L)
  (hv : Value.okWide P w r b0 t v) (h : DataW.Trod enc P w base spare held t v d p) : ∃ cs, v = .agg cs.toArray ∧ Alike L cs := by
 obtain ⟨cs, rfl, hsz⟩ := okWide_struct ht hv
 obtain ⟨fuel, hf⟩ := h
 obtain ⟨l⟩ := cs
 exact ⟨l, rfl, kB3 n fuel t L l _ hL (by simpa [Value.cells] using hf)⟩
end
theorem vG7 {L : List TypeDesc} {cs : List Value} (h : Alike (.int .u16 :: L) cs) : ∃ (n : Nat) (c : List Value), cs = .int .u16 (n : Int) :: c ∧ n < 65536 ∧ Alike L c := by
 cases h with
 | cons h t =>
  obtain ⟨n, rfl, hn⟩ := h
  have := zD2 hn
  exact ⟨n.toNat, _, by show _ = Value.int .u16 ((n.toNat : Nat) : Int) :: _; rw [Int.toNat_of_nonneg this.1], by omega, t⟩
theorem vG8 {L : List TypeDesc} {cs : List Value} (h : Alike (.int .i64 :: L) cs) : ∃ (n : Int) (c : List Value), cs = .int .i64 n :: c ∧ (-9223372036854775808 ≤ n ∧ n < 9223372036854775808) ∧ Alike L c := by
 cases h with
 | cons h t =>
  obtain ⟨n, rfl, hn⟩ := h
  exact ⟨n, _, rfl, zD3 hn, t⟩
end
section
open Go.RowKit Go.ChangeShapes Go.WideShapes Go.ChangeAt Go.Joins
theorem Alike.length {L : List TypeDesc} {cs : List Value} (h : Alike L cs) : cs.length = L.length := by
 induction h with
 | nil => rfl
 | cons _ _ ih => simp [ih]
section
variable {H : Type} {enc : TypeId × Value → H} {P : Program} {w : World}
theorem wJ5 {t e : TypeId} {L : List TypeDesc} (m : Nat) {b0 : Nat} {r : Reach} {v : Value} {d : DataW H} {p : List MemPlace} (ht : P.underlying t = some (.slice e)) (hL : leaves P m e = some L) (hC : P.cellsOf e = L.length) (hC0 : 0 < L.length)
  (hv : Value.okWide P w r b0 t v) (h : DataW.Trod enc P w 0 (fun _ => true) true t v d p) :
  ∃ A n c, ∃ rows : List (List Value), v = .slice A n c ∧ rows.length = n ∧ n ≤ maxLen ∧ (∀ x ∈ rows, Alike L x) ∧ Rd w L.length A n rows.flatten := by
 obtain ⟨a0, len0, cap0, rfl⟩ := okWide_slice ht hv
 obtain ⟨fuel, hf⟩ := h
 rcases Go.Deep.open_slice ht hf with ⟨hcs, _⟩ | ⟨a, len, cap, m', n', D, Pl, hcs, _, hl, hm, hmm, _, hi⟩
 ·simp [Value.cells] at hcs
  obtain ⟨rfl, rfl, rfl⟩ := hcs
  exact ⟨none, 0, 0, [], rfl, rfl, lZ _, by simp, ⟨by simp, fun _ => rfl, fun h => absurd h (by omega)⟩⟩
 ·simp [Value.cells] at hcs
  obtain ⟨rfl, rfl, rfl⟩ := hcs
  simp only [if_true] at hmm
  subst hmm
  have hch : ∀ i, ∃ cs' : List Value, cs'.length = L.length ∧ (i < len0 → Alike L cs' ∧ ∀ k, k < L.length → w.cell? (a.add (i * L.length + k)) = cs'[k]?) := fun i => by
   by_cases hlt : i < len0
   ·obtain ⟨cs', h1, h2⟩ := hi i (by omega)
    obtain ⟨_, h3, h4⟩ := World.cells?_some h1
    have h5 := kB3 m n' e L cs' _ hL h2
    refine ⟨cs', h5.length, fun _ => ⟨h5, fun k hk => ?_⟩⟩
    have := h4 k (by rw [hC]; exact hk)
    rw [← hC]
    rw [Go.Deep.add_add] at this
    exact this
   ·exact ⟨List.replicate L.length undef, by simp, fun h => absurd h hlt⟩
  obtain ⟨f, hf'⟩ := Classical.axiomOfChoice hch
  have hfl : ∀ i, (f i).length = L.length := fun i => (hf' i).1
  have hcell : ∀ i k, i < len0 → k < L.length → w.cell? (a.add (i * L.length + k)) = (f i)[k]? := fun i k hi hk => ((hf' i).2 hi).2 k hk
  have hflat : ((List.range len0).map f).flatten = (List.range len0).flatMap f := (List.flatMap_def ..).symm
  refine ⟨some a, len0, _, (List.range len0).map f, rfl, by simp, by omega, fun x hx => ?_, ?_⟩
  ·obtain ⟨i, hi', rfl⟩ := List.mem_map.1 hx
   exact ((hf' i).2 (List.mem_range.1 hi')).1
  ·rw [hflat]
   refine ⟨by rw [kM8 hfl]; simp, by simp, fun hn => ?_⟩
   have h0 := hcell 0 0 hn hC0
   have hsome : w.cell? (a.add (0 * L.length + 0)) = some ((f 0)[0]'(by rw [hfl]; exact hC0)) := by rw [h0]; exact xF _
   have hs : a.spot = none := by
    have := World.cell?_spot hsome
    unfold Addr.add at this
    simpa using this
   have hlt : a.block < w.heap.size := by
    have := World.lt_of_cell hsome
    unfold Addr.add at this
    simpa using this
   obtain ⟨g, o, sp⟩ := a
   simp only at hs hlt
   subst hs
   refine ⟨g, o, rfl, hlt, fun j u hu => ?_⟩
   have hj : j < len0 * L.length := by
    have := (List.getElem?_eq_some_iff.1 hu).1
    rw [kM8 hfl] at this
    simpa using this
   have hi0 : j / L.length < len0 := Nat.div_lt_of_lt_mul (by rw [qU]; exact hj)
   have hk0 : j % L.length < L.length := Nat.mod_lt _ hC0
   have hjj : j / L.length * L.length + j % L.length = j := by rw [qU]; exact Nat.div_add_mod j L.length
   have h1 := hcell _ _ hi0 hk0
   rw [hjj, wU8 _ _ rfl] at h1
   simp only at h1
   rw [h1]
   have h2 := yY4 hfl (L := List.range len0) (i := j / L.length) (x := j / L.length) (by rw [List.getElem?_range hi0])
   rw [← h2, List.getElem?_take_of_lt hk0, zJ, hjj]
   exact hu
end
theorem wH7 {α : Type} {f : α → List Value} {ok : α → Prop} {L : List TypeDesc} (h : ∀ r, Alike L r → ∃ x, ok x ∧ r = f x) : ∀ rows : List (List Value), (∀ r ∈ rows, Alike L r) → ∃ M : List α, rows.flatten = M.flatMap f ∧ M.length = rows.length ∧ ∀ x ∈ M, ok x
 | [], _ => ⟨[], rfl, rfl, by simp⟩
 | r :: rows, hr => by
  obtain ⟨x, h1, rfl⟩ := h r (hr r lP)
  obtain ⟨M, h2, h3, h4⟩ := wH7 h rows (fun r hr' => hr r (lU _ hr'))
  refine ⟨x :: M, by simp [h2], by simp [h3], fun y hy => ?_⟩
  rcases List.mem_cons.1 hy with rfl | hy
  ·exact h1
  ·exact h4 y hy
theorem yN1 {w : World} {size n : Nat} {A : Option Addr} {xs : List Value} (h : Rd w size A n xs) : jK9 A n := fun hn => by
 obtain ⟨g, o, h1, _⟩ := h.2.2 hn
 exact ⟨g, o, h1⟩
theorem zC3 {w : World} {size n : Nat} {A : Option Addr} {xs : List Value} (h : Rd w size A n xs) (hn : 0 < n) : Sat w [] (roE A xs) w := by
 obtain ⟨g, o, rfl, h1, h2⟩ := h.2.2 hn
 exact ⟨Only.refl _ _, fun e he => by rw [List.mem_singleton.1 he]; exact ⟨⟨h1, h2⟩, fun h => by cases h⟩, List.pairwise_singleton _ _⟩
end
section
open Go.RowKit Go.ChangeShapes Go.WideShapes Go.ChangeAt Go.Joins
section
variable {H : Type} {enc : TypeId × Value → H} {P : Program} {w : World} {base : Nat} {spare : Nat → Bool} {held : Bool}
theorem yN0 {fuel : Nat} {e : TypeId} {L : List TypeDesc} {cs : List Value} (ih : ∀ ds x, DataW.trod enc P w base spare held fuel e ds = some x → Alike L ds) :
  ∀ (m i : Nat) (xs : List (DataW H × List MemPlace)), (List.range' i m).mapM (fun i => DataW.trod enc P w base spare held fuel e ((cs.drop (i * L.length)).take L.length)) = some xs →
   Alike (List.replicate m L).flatten ((cs.drop (i * L.length)).take (m * L.length))
 | 0, i, xs, _ => by simpa using Alike.nil
 | m + 1, i, xs, hx => by
  rw [List.range'_succ, List.mapM_cons] at hx
  cases k1 : DataW.trod enc P w base spare held fuel e ((cs.drop (i * L.length)).take L.length) with
  | none => simp [k1] at hx
  | some y =>
   cases k2 : (List.range' (i + 1) m).mapM (fun i => DataW.trod enc P w base spare held fuel e ((cs.drop (i * L.length)).take L.length)) with
   | none => simp [k1, k2] at hx
   | some ys =>
    have h3 := ih _ _ k1
    have h4 := yN0 ih m (i + 1) ys k2
    rw [x8, zW, zH, Nat.add_comm (m * L.length), List.take_add, List.drop_drop, ← zH]
    exact h3.append h4
theorem yB9 {t e : TypeId} {r : Reach} {b0 len : Nat} {v : Value} {d : DataW H} {p : List MemPlace} {L : List TypeDesc} (n : Nat) (ht : P.underlying t = some (.array len e)) (hL : leaves P n e = some L) (hC : P.cellsOf e = L.length) (hT : P.cellsOf t = len * L.length)
  (hv : Value.okWide P w r b0 t v) (h : DataW.Trod enc P w base spare held t v d p) : ∃ cs, v = .agg cs.toArray ∧ Alike (List.replicate len L).flatten cs := by
 simp only [Value.okWide, ht] at hv
 obtain ⟨cs, rfl, hsz, _⟩ := hv
 obtain ⟨l⟩ := cs
 refine ⟨l, rfl, ?_⟩
 obtain ⟨fuel, hf⟩ := h
 cases fuel with
 | zero => simp [DataW.trod] at hf
 | succ fuel =>
  have hsz' : l.length = P.cellsOf t := by simpa using hsz
  unfold DataW.trod at hf
  simp only [ht, Value.cells, hsz', if_true, hC] at hf
  cases hx : (List.range len).mapM (fun i => DataW.trod enc P w base spare held fuel e ((l.drop (i * L.length)).take L.length)) with
  | none => simp [hx] at hf
  | some xs =>
   rw [List.range_eq_range'] at hx
   have := yN0 (fun ds x hd => kB3 n fuel e L ds x hL hd) len 0 xs hx
   rw [xH, lC, ← hT, ← hsz', xY] at this
   exact this
end
end
section
open Go.RowKit
set_option maxRecDepth 100000
def cmpQ (a b : Nat) : Int := if a < b then -1 else if b < a then 1 else 0
theorem zB6 {a b : Nat} : cmpQ a b < 0 ↔ a < b := by
 unfold cmpQ
 repeat' split
 all_goals omega
theorem yK3 (a : Nat) (W : World) : Calls Tryz.prog 87 #[uq a] W fun e w' => e = .returned (.bool false) ∧ w' = W := by
 go_enter Tryz.func87, Tryz.ntmps87
 go_wp2
 go_ret
 exact ⟨rfl, rfl⟩
theorem zL3 (a b : Nat) (W : World) : Calls Tryz.prog 41 #[uq a, uq b] W fun e w' => e = .returned (iq (cmpQ a b)) ∧ w' = W := by
 have h1 := yK3 a
 have h2 := yK3 b
 by_cases hab : a < b
 ·rw [show cmpQ a b = -1 by unfold cmpQ; rw [if_pos hab]]
  go_enter Tryz.func41, Tryz.ntmps41
  go_wp2_with (first | (go_at_call 87; refine (h1 _).mono ?_; rintro e w' ⟨rfl, rfl⟩) | (go_at_call 87; refine (h2 _).mono ?_; rintro e w' ⟨rfl, rfl⟩))
  go_ret
  exact ⟨rfl, rfl⟩
 ·by_cases hba : b < a
  ·rw [show cmpQ a b = 1 by unfold cmpQ; rw [if_neg hab, if_pos hba]]
   go_enter Tryz.func41, Tryz.ntmps41
   go_wp2_with (first | (go_at_call 87; refine (h1 _).mono ?_; rintro e w' ⟨rfl, rfl⟩) | (go_at_call 87; refine (h2 _).mono ?_; rintro e w' ⟨rfl, rfl⟩))
   go_ret
   exact ⟨rfl, rfl⟩
  ·rw [show cmpQ a b = 0 by unfold cmpQ; rw [if_neg hab, if_neg hba]]
   go_enter Tryz.func41, Tryz.ntmps41
   go_wp2_with (first | (go_at_call 87; refine (h1 _).mono ?_; rintro e w' ⟨rfl, rfl⟩) | (go_at_call 87; refine (h2 _).mono ?_; rintro e w' ⟨rfl, rfl⟩))
   go_ret
   exact ⟨rfl, rfl⟩
end
section
open Go.RowKit
theorem zQ2 : Lays.n129 Tryz.prog jI8 := by constructor <;> first | kernel_rfl | (intro w; kernel_rfl)
theorem vY8 : Enters Tryz.prog 155 := Enters.mk Tryz.func155 (by kernel_rfl) (by kernel_rfl)
theorem zB8 (n : Nat) (h : n < 18446744073709551616) : Fn Tryz.prog 155 [uq n] [] fun v _ => v = iq (Lib.bitLen n) :=
 Fn.of_bel vY8 fun w => (Any.bits_Len64 zQ2 n w (by omega) (by omega)).mono fun e w' ⟨he, hw⟩ => ⟨he, hw ▸ Bel.refl w⟩
structure It where
 id : Nat
 tx : List UInt8
abbrev It.cells (e : It) : List Value := [uq e.id, .string (str e.tx)]
abbrev It.val (e : It) : Value := .agg e.cells.toArray
abbrev jC9 (L : List It) : List Value := L.flatMap It.cells
theorem wL6 (e : It) : e.cells.length = 2 := rfl
theorem jR0 (L : List It) : (jC9 L).length = L.length * 2 := kM8 wL6 L
theorem jW1 {L : List It} {i : Nat} {x : It} (h : L[i]? = some x) : rdV true 2 (jC9 L) (i * 2) = some x.val := vL5 wL6 h
theorem vE6 {L : List It} {i : Nat} {x : It} (h : L[i]? = some x) : rdV false 1 (jC9 L) (i * 2) = some (uq x.id) := by have := kM7 (j := 0) wL6 h rfl; simpa using this
theorem vL1 {L : List It} {k : Nat} {x : It} (h : L[k]? = some x) : jC9 (L.take (k + 1)) = jC9 (L.take k) ++ x.cells := yY3 h
theorem yL8 : ElemOk Tryz.prog 56 63 2 24 := ElemOk.mk_ (z := .agg #[uq 0, .string ⟨#[]⟩]) Tryz.underlying56 (by kernel_rfl) rfl (by omega)
def zC7 (L : List It) : Prop := ∀ e ∈ L, e.id < 18446744073709551616
def jG0 (k : Nat) (s : List UInt8) (full : Bool) : Nat := if 6004799503160661 ≤ k then 8 else if s = [] then 2 else if 65536 < s.length then 5 else if full then 7 else 0
theorem wW2 (k : Nat) (s : List UInt8) (full : Bool) : Fn Tryz.prog 38 [uq k, .string (str s), .bool full] [] fun v _ => v = iq (jG0 k s full) := by
 refine fE 19 Tryz.func38 rfl (fun w0 => aA rfl rfl <| f3K 0 1 2 rfl <| aS (aB <| aR fun Z hZ => sM rfl rfl <| jH7 rfl rfl rfl <| sAN hZ rfl rfl <| f3K 1 2 7 rfl <| aC0 (fun h => ?_) (fun h => ?_)))
 ·have h' : 6004799503160661 ≤ k := by simp at h; omega
  rw [show jG0 k s full = 8 by unfold jG0; rw [if_pos h']]
  refine aA rfl rfl ?_
  refine f1K 6 rfl ?_
  refine aE ?_
  repeat (with_reducible (first | refine nTR ?_ | refine nBR ?_))
  exact nR1 rfl rfl rfl
 have h' : ¬ 6004799503160661 ≤ k := by simp at h; omega
 refine aR fun Z hZ => sM rfl rfl <| jQ1 rfl rfl rfl <| sAN hZ rfl rfl <| f3K 1 2 10 rfl <| aC0 (fun h1 => ?_) (fun h1 => ?_)
 ·have h1' : s = [] := by simpa using h1
  rw [show jG0 k s full = 2 by unfold jG0; rw [if_neg h', if_pos h1']]
  refine aA rfl rfl ?_
  refine f1K 6 rfl ?_
  refine aE ?_
  repeat (with_reducible (first | refine nTR ?_ | refine nBR ?_))
  exact nR1 rfl rfl rfl
 have h1' : ¬ s = [] := by simpa using h1
 refine aR fun Z hZ => sM rfl rfl <| jC8 Tryz.underlying9 rfl rfl <| jC4 ?_
 refine sAN hZ rfl rfl <| f2K 2 13 rfl <| aC0 (fun h2 => ?_) (fun h2 => ?_)
 ·have h2' : 65536 < s.length := by simp at h2; omega
  rw [show jG0 k s full = 5 by unfold jG0; rw [if_neg h', if_neg h1', if_pos h2']]
  refine aA rfl rfl ?_
  refine f1K 6 rfl ?_
  refine aE ?_
  repeat (with_reducible (first | refine nTR ?_ | refine nBR ?_))
  exact nR1 rfl rfl rfl
 have h2' : ¬ 65536 < s.length := by simp at h2; omega
 refine aR fun Z hZ => sM rfl rfl <| sAN hZ rfl rfl <| f1K 17 rfl <| aC0 (fun h3 => ?_) (fun h3 => ?_)
 ·rw [show jG0 k s full = 7 by unfold jG0; rw [if_neg h', if_neg h1', if_neg h2', if_pos h3]]
  refine aA rfl rfl ?_
  refine f1K 6 rfl ?_
  refine aE ?_
  repeat (with_reducible (first | refine nTR ?_ | refine nBR ?_))
  exact nR1 rfl rfl rfl
 rw [show jG0 k s full = 0 by unfold jG0; rw [if_neg h', if_neg h1', if_neg h2', h3]; rfl]
 refine aK ?_
 repeat (with_reducible refine nBN ?_)
 refine nN ?_
 refine aA rfl rfl ?_
 refine f1K 6 rfl ?_
 refine aE ?_
 exact nR10 rfl
end
section
open Go.RowKit
def cLo (k : Nat) : List It → Nat
 | [] => 0
 | e :: r => if e.id < k then cLo k r + 1 else 0
def itAt (L : List It) (i : Nat) : It := (L[i]?).getD ⟨0, []⟩
theorem kM4 {L : List It} {i : Nat} (h : i < L.length) : L[i]? = some (itAt L i) := by simp [itAt, xF h]
def Rise (L : List It) : Prop := L.Pairwise (fun a b => a.id < b.id)
def cHas (k : Nat) (L : List It) : Bool := decide (cLo k L < L.length ∧ (itAt L (cLo k L)).id = k)
abbrev chV (A : Option Addr) (n c : Nat) : Value := .agg #[.slice A n c]
end
section
open Go.RowKit
theorem wV9 {T K A : Heap} (h : Wrs T) : HLe T (A ++ (T.filter Ent.wr ++ K)) := by
 rw [h.filter]
 exact kA ((xE T K).trans (lX A _))
theorem zH9 (A : Option Addr) (n c : Nat) : Fn Tryz.prog 106 [chV A n c] [] fun v _ => v = iq (n : Nat) := by
 refine fE 6 Tryz.func106 rfl (fun w0 => aR (fun Z hZ => jB2 (fun g1 => ?_)))
 refine sAN hZ rfl rfl <| f1K 1 rfl <| aR (fun Z hZ => sFA0 jX6 ?_)
 first | refine sL0 0 tyA56 tyS56 ?_
 refine jE5 Tryz.underlying56 rfl rfl <| sAN hZ rfl rfl <| f1K 2 rfl <| aE <| nR10 rfl
def kR7 (L : List It) : Nat := (L.map fun e => e.tx.length).sum
theorem yG3 (A : Option Addr) (n c : Nat) : Fn Tryz.prog 91 [chV A n c] [] fun v H' => ∃ g, v = .func (.func 160) #[] #[ptr g 0] ∧ H' = [.own g 58 [.slice A n c]] := by
 refine fE 4 Tryz.func91 rfl (fun w0 => aR (fun Z hZ => jB2 (fun g1 => ?_)))
 refine sAN hZ rfl rfl <| f1K 1 rfl <| aR (fun Z hZ => jL9 rfl rfl <| sAN hZ rfl rfl <| f1K 2 rfl <| aE <| jD9 _ rfl rfl (hV _) ⟨g1, rfl, rfl⟩)
theorem yG2 (g : Nat) (A : Option Addr) (cp : Nat) (L : List It) (T : Heap) (hA : jK9 A L.length) (hT : 0 < L.length → T = roE A (jC9 L)) (hL : L.length ≤ 100000) :
  Iter Tryz.prog 160 [ptr g 0] (.ro g 0 [.slice A L.length cp] :: T) (L.map fun e => [uq e.id, .string (str e.tx)]) := by
 intro l J Jr S hJ hS hJr hY T0 hT0
 have hlen : (L.map fun e => [uq e.id, .string (str e.tx)]).length = L.length := by simp
 rw [hlen]
 refine fE 20 Tryz.func160 rfl (fun w0 => jA7 (.ro g 0 [.slice A L.length cp] :: (T ++ (T0 ++ Jr))) (hV _) <| aR (fun Z hZ => sFA0 jX6 ?_))
 refine jE0 0 rfl rfl 0 rfl tyA56 tyS56 rfl rfl <| jE5 Tryz.underlying56 rfl rfl <| sMN hZ rfl rfl <| f4K 0 6 7 8 rfl <| aB ?_
 refine jC3 (ι := Nat × Heap) (fun i => [(0, .func (.yield l) #[] #[]), (6, .slice A L.length cp), (7, iq (L.length : Nat)), (8, iq (i.1 : Nat))]) (fun i => T ++ (i.2 ++ Jr))
  (fun i => i.1 ≤ L.length ∧ J i.1 i.2) (fun i => L.length - i.1) (0, T0) ⟨by simp, hT0⟩ (kR rfl) (kC 1 rfl) ?_
 rintro ⟨i, T3⟩ ⟨hi, hT3⟩
 simp only at hi hT3
 refine aR (fun Z hZ => jB0 ?_)
 refine sN (hZ _ _ <| f5K 0 6 7 8 9 rfl <| aS (aC0 (fun hh => ?_) (fun hh => ?_)))
 ·have hlt : i < L.length := by simpa using hh
  have hx := kM4 hlt
  obtain ⟨ga, o, rfl⟩ := hA (by omega)
  obtain rfl := hT (by omega)
  refine jA7 (.ro ga o (jC9 L) :: (T3 ++ Jr)) (hV _) <| aK <| nN <| aS (aB <| aR (fun Z hZ => jA8 (o + i * 2) Tryz.underlying56 tyS63 rfl rfl (by omega) (by simp) rfl ?_))
  refine jE0 0 rfl rfl (i * 2) rfl tyA63 tyS63 (jW1 hx) rfl <| sAl tyZ63 rfl (fun g1 => sS0 0 tyS63 ?_)
  refine sN (hZ _ _ <| f5K 0 4 6 7 8 rfl <| jM9 (fun Z hZ => sy_x rfl <| sM rfl rfl <| sN <| sy_x rfl <| sFA0 kD0 ?_))
  refine sN <| sy_x rfl <| sL0 0 tyA61 tyS61 ?_
  refine sN <| sy_x rfl <| sFA0 wB5 ?_
  refine sN <| sy_x rfl <| sL0 0 tyA9 tyS9 ?_
  refine sN <| kH7 [_, _] T3 Jr Jr (hY i _ T3 (by simp [hx]) hT3) rfl rfl rfl (xO _) hJr rfl ?_
  rintro v T4 ⟨b, rfl, hb1, hb2⟩
  refine sy_x rfl <| jE8 rfl rfl <| sN <| vP1 (hZ _ _ <| f5K 0 6 7 8 18 rfl <| aC0 (fun h3 => ?_) (fun h3 => ?_))
  ·have hb : b = false := by simpa using h3
   refine aE ?_
   repeat (with_reducible (first | refine nTR ?_ | refine nBR ?_))
   exact kA7 T4 rfl (wV9 (A := [_, _]) (hS T4 (hb2 hb))) (.inr (hb2 hb))
  have hb : b = true := by simpa using h3
  have hT4 := hb1 hb
  rw [(hJ _ T4 hT4).filter]
  refine aK ?_
  repeat (with_reducible refine nBN ?_)
  refine nN ?_
  refine aG (fun Z hZ => ?_)
  refine jB7 rfl rfl ((i + 1 : Nat) : Int) (by rw [lT _ (by omega)]; omega) rfl ?_
  refine sMN hZ rfl rfl <| nF [(0, _), (6, _), (7, _), (8, _)] (kR rfl) <| jC2 (i + 1, T4) ⟨by show i + 1 ≤ _; omega, hT4⟩ (by simp; omega) (kR rfl) (kC 1 rfl)
 ·have hie : i = L.length := by simp at hh; omega
  subst hie
  refine jB5 ?_
  repeat (with_reducible refine nTE ?_)
  refine nBE ?_
  exact jM8 T3 rfl (kA ((xE T3 Jr).trans (lX T _))) (.inl hT3)
end
section
open Go.RowKit
def itq (a b : It) : Bool := (a.id == b.id) && (a.tx == b.tx)
def jW7 : List It → List It → Bool
 | [], [] => true
 | a :: r, b :: s => itq a b && jW7 r s
 | _, _ => false
theorem yX0 {a b : It} : itq a b = true ↔ a = b := by
 obtain ⟨a1, a2⟩ := a
 obtain ⟨b1, b2⟩ := b
 simp [itq]
theorem sameI_iff : ∀ {L M : List It}, jW7 L M = true ↔ L = M
 | [], [] => by simp [jW7]
 | a :: r, b :: s => by simp [jW7, yX0, sameI_iff (L := r) (M := s)]
 | [], b :: s => by simp [jW7]
 | a :: r, [] => by simp [jW7]
theorem wG9 : ∀ {L M : List It}, jW7 L M = true → L.length = M.length := fun h => by rw [sameI_iff.1 h]
theorem zO7 (a b : It) : EqV Tryz.prog 10000 63 a.val b.val (itq a b) := by
 have h : EqV Tryz.prog 10000 63 a.val b.val _ := EqV.struct Tryz.underlying63 (by kernel_rfl) (.cons rfl tyA61 tyS61 rfl rfl (EqV.int Tryz.underlying61) (.cons rfl tyA9 tyS9 rfl rfl (EqV.string Tryz.underlying9) .nil))
 have e : itq a b = (((a.id : Int) == (b.id : Int)) && ((a.tx == b.tx) && true)) := by
  rw [lS]
  simp [itq]
  intro _
  omega
 rw [e]
 exact h
theorem yE2 : Program.eqGuardType Tryz.prog Tryz.prog.depth 63 = false := by kernel_rfl
theorem wM0 (A : Option Addr) (c : Nat) (L : List It) (T : Heap) (hA : jK9 A L.length) (hT : 0 < L.length → T = roE A (jC9 L)) (hL : L.length ≤ maxLen)
  (B : Option Addr) (d : Nat) (M : List It) (U : Heap) (hB : jK9 B M.length) (hU : 0 < M.length → U = roE B (jC9 M)) (hM : M.length ≤ maxLen) :
  Fn Tryz.prog 51 [.slice A L.length c, .slice B M.length d] (T ++ U) fun v _ => v = .bool (jW7 L M) := by
 have hL' : L.length ≤ 9223372036854775807 := hL
 have hM' : M.length ≤ 9223372036854775807 := hM
 refine fE 26 Tryz.func51 rfl (fun w0 => aA rfl rfl <| f2K 0 1 rfl <| aS <| aR fun Z hZ => sM rfl rfl <| jE5 Tryz.underlying56 rfl rfl <| sM rfl rfl <| jE5 Tryz.underlying56 rfl rfl <| jA6 ?_)
 refine sN (hZ _ _ <| f3K 0 1 10 rfl <| aC0 (fun ha => ?_) (fun ha => ?_))
 ·have hne : L.length ≠ M.length := by simp at ha; omega
  rw [show jW7 L M = false by cases hs : jW7 L M with | false => rfl | true => exact absurd (wG9 hs) hne]
  refine aA rfl rfl ?_
  refine f1K 4 rfl ?_
  refine aE ?_
  repeat (with_reducible refine nTR ?_)
  exact nR1 rfl rfl rfl
 have hlm : L.length = M.length := by simp at ha; omega
 refine aK <| nN <| aS <| aR fun Z hZ => sM rfl rfl <| jE5 Tryz.underlying56 rfl rfl <| sMN hZ rfl rfl <| f4K 0 1 12 13 rfl <| aB ?_
 refine jC3 (ι := Nat) (fun k => [(0, .slice A L.length c), (1, .slice B M.length d), (12, iq (L.length : Nat)), (13, iq (k : Nat))]) (fun _ => T ++ U)
  (fun k => k ≤ L.length ∧ jW7 (L.drop k) (M.drop k) = jW7 L M) (fun k => L.length - k) 0 ⟨by simp, rfl⟩ (kR rfl) (hV _) ?_
 rintro k ⟨hk, hq⟩
 refine aR (fun Z hZ => jB0 ?_)
 refine sN (hZ _ _ <| f5K 0 1 12 13 14 rfl <| aS (aC0 (fun h => ?_) (fun h => ?_)))
 ·have hlt : k < L.length := by simpa using h
  obtain ⟨x, hx⟩ : ∃ x, L[k]? = some x := ⟨_, xF hlt⟩
  obtain ⟨y, hy⟩ : ∃ y, M[k]? = some y := ⟨_, xF (by omega)⟩
  have hxe : L[k] = x := lV ((xF hlt).symm.trans hx)
  have hye : M[k]'(by omega) = y := lV ((xF (by omega)).symm.trans hy)
  rw [zA hlt, zA (show k < M.length by omega), hxe, hye, jW7] at hq
  obtain ⟨g, o, rfl⟩ := hA (by omega)
  obtain ⟨g', o', rfl⟩ := hB (by omega)
  obtain rfl := hT (by omega)
  obtain rfl := hU (by omega)
  refine aK <| nN <| aS (aB <| aR fun Z hZ => sM rfl rfl <| sAN hZ rfl rfl <| f5K 0 1 5 12 13 rfl <| jC1 jF1 (by kernel_rfl) (fun Z hZ => ?_))
  refine qM rfl rfl <| qM rfl rfl <| jG1 (o + k * 2) Tryz.underlying56 tyS63 rfl rfl (by omega) (by simp) rfl ?_
  refine jK1 0 rfl rfl (k * 2) rfl tyA63 tyS63 (jW1 hx) rfl <| qM rfl rfl <| qM rfl rfl <| jG1 (o' + k * 2) Tryz.underlying56 tyS63 rfl rfl (by omega) (by simp) rfl ?_
  refine jK1 1 rfl rfl (k * 2) rfl tyA63 tyS63 (jW1 hy) rfl <| yR3 (zO7 x y) yE2 rfl rfl rfl <| jE9 (hZ _ _ <| f5K 0 1 12 13 24 rfl <| aC0 (fun hb => ?_) (fun hb => ?_))
  ·have hb' : itq x y = false := by simpa using hb
   rw [hb'] at hq
   rw [← hq]
   refine aA rfl rfl ?_
   refine f1K 4 rfl ?_
   refine aE ?_
   repeat (with_reducible (first | refine nTR ?_ | refine nBR ?_))
   exact nR1 rfl rfl rfl
  have hb' : itq x y = true := by simpa using hb
  rw [hb', Bool.true_and] at hq
  refine aK ?_
  repeat (with_reducible refine nBN ?_)
  refine nN ?_
  refine aG (fun Z hZ => ?_)
  refine jB7 rfl rfl ((k + 1 : Nat) : Int) (by rw [lT _ (by omega)]; omega) rfl ?_
  refine sMN hZ rfl rfl <| nF [(0, _), (1, _), (12, _), (13, _)] (kR rfl) <| jC2 (k + 1) ⟨by omega, hq⟩ (by omega) (kR rfl) (hV _)
 ·refine jB5 ?_
  repeat (with_reducible refine nTE ?_)
  refine nBE ?_
  refine nN ?_
  have hke : k = L.length := by simp at h; omega
  subst hke
  rw [uO, List.drop_of_length_le (by omega), jW7] at hq
  rw [← hq]
  refine aA rfl rfl <| f1K 4 rfl <| aE <| nR10 rfl
theorem yF7 (A : Option Addr) (c : Nat) (L : List It) (T : Heap) (hA : jK9 A L.length) (hT : 0 < L.length → T = roE A (jC9 L)) (hroT : Ro T) (hL : L.length ≤ maxLen)
  (B : Option Addr) (d : Nat) (M : List It) (U : Heap) (hB : jK9 B M.length) (hU : 0 < M.length → U = roE B (jC9 M)) (hroU : Ro U) (hM : M.length ≤ maxLen) :
  Fn Tryz.prog 17 [chV A L.length c, chV B M.length d] (T ++ U) fun v _ => v = .bool (jW7 L M) := by
 refine fE 10 Tryz.func17 rfl (fun w0 => aR (fun Z hZ => jB2 (fun g1 => ?_)))
 refine jB2 (fun g2 => ?_)
 refine sAN hZ rfl rfl <| f2K 2 3 rfl <| aR (fun Z hZ => sFA0 jX6 ?_)
 refine sL0 1 tyA56 tyS56 ?_
 refine sFA0 jX6 ?_
 refine sL0 0 tyA56 tyS56 ?_
 refine jD7 (T ++ U) (wM0 A c L T hA hT hL B d M U hB hU hM) rfl ((qX _ _).trans (qX _ _)) (hroT.append hroU) rfl <| sAN hZ rfl rfl <| f1K 4 rfl <| aE <| nR10 rfl
end
section
open Go.RowKit
end
section
open Go.RowKit
def cPut (k : Nat) (s : List UInt8) (L : List It) : List It := L.take (cLo k L) ++ ⟨k, s⟩ :: L.drop (cLo k L + if cHas k L then 1 else 0)
end
section
open Go.RowKit
structure Half (k : Nat) (X Y : List It) : Prop where
 ahead : ∀ e ∈ X, e.id < k
 behind : ∀ e ∈ Y, k < e.id
 riseX : Rise X
 riseY : Rise Y
theorem yV3 {k : Nat} : ∀ {X Z : List It}, (∀ e ∈ X, e.id < k) → (∀ e ∈ Z, k ≤ e.id) → cLo k (X ++ Z) = X.length
 | [], [], _, _ => rfl
 | [], e :: r, _, h => by
  have := h e lP
  rw [lE, cLo, if_neg (by omega)]
  rfl
 | e :: r, Z, h, h2 => by
  have := h e lP
  rw [lL, cLo, if_pos this, yV3 (fun x hx => h x (lU _ hx)) h2]
  rfl
section
variable {k : Nat} {X Y : List It} {s : List UInt8}
theorem vS3 (s : It) : itAt (X ++ s :: Y) X.length = s := by simp [itAt]
theorem Half.lo1 (h : Half k X Y) : cLo k (X ++ ⟨k, s⟩ :: Y) = X.length := yV3 h.ahead fun e he => by
 rcases List.mem_cons.1 he with rfl | he
 ·exact xP _
 ·exact Nat.le_of_lt (h.behind e he)
theorem Half.lo0 (h : Half k X Y) : cLo k (X ++ Y) = X.length := yV3 h.ahead fun e he => Nat.le_of_lt (h.behind e he)
theorem Half.has1 (h : Half k X Y) : cHas k (X ++ ⟨k, s⟩ :: Y) = true := by
 unfold cHas
 rw [h.lo1, vS3]
 simp
theorem Half.has0 (h : Half k X Y) : cHas k (X ++ Y) = false := by
 unfold cHas
 rw [h.lo0]
 cases Y with
 | nil => simp
 | cons y r =>
  have := h.behind y lP
  rw [vS3]
  simp
  omega
theorem Half.put1 (h : Half k X Y) (t : List UInt8) : cPut k t (X ++ ⟨k, s⟩ :: Y) = X ++ ⟨k, t⟩ :: Y := by
 unfold cPut
 rw [h.has1, h.lo1, if_pos rfl]
 simp
theorem Half.put0 (h : Half k X Y) (t : List UInt8) : cPut k t (X ++ Y) = X ++ ⟨k, t⟩ :: Y := by
 unfold cPut
 rw [h.has0, h.lo0, if_neg (by decide)]
 simp
theorem Half.rise1 (h : Half k X Y) : Rise (X ++ ⟨k, s⟩ :: Y) := by
 refine List.pairwise_append.2 ⟨h.riseX, List.pairwise_cons.2 ⟨fun e he => h.behind e he, h.riseY⟩, fun a ha b hb => ?_⟩
 have h1 := h.ahead a ha
 rcases List.mem_cons.1 hb with rfl | hb
 ·exact h1
 ·have := h.behind b hb
  omega
theorem Half.ne (h : Half k X Y) : (∀ e ∈ X, e.id ≠ k) ∧ (∀ e ∈ Y, e.id ≠ k) := ⟨fun e he => Nat.ne_of_lt (h.ahead e he), fun e he => Nat.ne_of_gt (h.behind e he)⟩
end
theorem vL0 {L : List It} (hr : Rise L) (k : Nat) : ∃ X Y, Half k X Y ∧ ((∃ s, L = X ++ ⟨k, s⟩ :: Y) ∨ L = X ++ Y) := by
 induction L with
 | nil => exact ⟨[], [], ⟨by simp, by simp, qR, qR⟩, .inr rfl⟩
 | cons e r ih =>
  obtain ⟨h1, h2⟩ := List.pairwise_cons.1 hr
  rcases Nat.lt_trichotomy e.id k with h | h | h
  ·obtain ⟨X, Y, hh, hl⟩ := ih h2
   have hX : ∀ x ∈ X, x ∈ r := fun x hx => by rcases hl with ⟨s, hl⟩ | hl <;> rw [hl] <;> exact xI _ hx
   refine ⟨e :: X, Y, ⟨fun x hx => ?_, hh.behind, List.pairwise_cons.2 ⟨fun x hx => h1 x (hX x hx), hh.riseX⟩, hh.riseY⟩, ?_⟩
   ·rcases List.mem_cons.1 hx with rfl | hx
    ·exact h
    ·exact hh.ahead x hx
   ·rcases hl with ⟨s, hl⟩ | hl
    ·exact .inl ⟨s, by rw [hl]; rfl⟩
    ·exact .inr (by rw [hl]; rfl)
  ·exact ⟨[], r, ⟨by simp, fun x hx => by have := h1 x hx; omega, qR, h2⟩, .inl ⟨e.tx, by rw [← h]; rfl⟩⟩
  ·exact ⟨[], e :: r, ⟨by simp, fun x hx => by
    rcases List.mem_cons.1 hx with rfl | hx
    ·exact h
    ·have := h1 x hx; omega, qR, hr⟩, .inr rfl⟩
theorem yA7 {L : List It} (hr : Rise L) (k : Nat) (t : List UInt8) : Rise (cPut k t L) := by
 obtain ⟨X, Y, h, ⟨s, rfl⟩ | rfl⟩ := vL0 hr k
 ·rw [h.put1]; exact h.rise1
 ·rw [h.put0]; exact h.rise1
structure ChOk (L : List It) : Prop where
 rise : Rise L
 lt : ∀ e ∈ L, e.id < 6004799503160661
 tx : ∀ e ∈ L, e.tx ≠ [] ∧ e.tx.length ≤ 65536
 len : L.length ≤ 2048
theorem ChOk.nil : ChOk [] := ⟨qR, fun _ h => (by cases h), fun _ h => (by cases h), by simp⟩
end
section
open Go.RowKit
end
section
open Go.RowKit
end
section
open Go.RowKit
def ofE : List Nat → List It → Nat
 | _, [] => 0
 | seen, e :: r => if e.id ∈ seen then 22 else if jG0 e.id e.tx (decide (2048 ≤ seen.length)) ≠ 0 then jG0 e.id e.tx (decide (2048 ≤ seen.length)) else ofE (seen ++ [e.id]) r
def ofQ (L : List It) : Nat := ofE [] L
def jR8 (L : List It) : List It := L.foldl (fun acc e => cPut e.id e.tx acc) []
def idsI (L : List It) : List Nat := L.map fun e => e.id
theorem vW8 (L : List It) (x : It) : jR8 (L ++ [x]) = cPut x.id x.tx (jR8 L) := by simp [jR8]
theorem yA8 {L : List It} (hr : Rise L) {k : Nat} (t : List UInt8) (h : cHas k L = false) : (cPut k t L).Perm (L ++ [⟨k, t⟩]) := by
 obtain ⟨X, Y, hh, ⟨s, rfl⟩ | rfl⟩ := vL0 hr k
 ·rw [hh.has1] at h; cases h
 ·rw [hh.put0]
  exact (List.perm_middle).trans (List.perm_append_singleton _ _).symm
theorem yX5 {L : List It} (hr : Rise L) (k : Nat) : cHas k L = true ↔ k ∈ idsI L := by
 obtain ⟨X, Y, hh, ⟨s, rfl⟩ | rfl⟩ := vL0 hr k
 ·rw [hh.has1]; simp [idsI]
 ·rw [hh.has0]
  simp only [idsI, x0, l9, xG, zV, false_iff, not_or, not_exists, not_and]
  exact ⟨fun x hx => hh.ne.1 x hx, fun x hx => hh.ne.2 x hx⟩
theorem vQ0 : ∀ (L : List It), (idsI L).Nodup → Rise (jR8 L) ∧ (jR8 L).Perm L := by
 intro L
 rw [← List.reverse_reverse L]
 induction L.reverse with
 | nil => exact fun _ => ⟨qR, List.Perm.refl _⟩
 | cons x r ih =>
  intro hn
  rw [List.reverse_cons] at hn ⊢
  have hn2 : (idsI r.reverse).Nodup ∧ x.id ∉ idsI r.reverse := by
   simp only [idsI, x0, xR, qT] at hn ⊢
   have := List.nodup_append.1 hn
   exact ⟨this.1, fun h => this.2.2 _ h _ (by simp) rfl⟩
  obtain ⟨h1, h2⟩ := ih hn2.1
  rw [vW8]
  have hh : cHas x.id (jR8 r.reverse) = false := by
   cases hc : cHas x.id (jR8 r.reverse) with
   | false => rfl
   | true => exact absurd ((h2.map fun e => e.id).mem_iff.1 ((yX5 h1 x.id).1 hc)) hn2.2
  exact ⟨yA7 h1 _ _, (yA8 h1 x.tx hh).trans (h2.append_right _)⟩
theorem wI0 : ∀ {L M : List It}, Rise L → Rise M → L.Perm M → L = M
 | [], M, _, _, h => (List.nil_perm.1 h).symm
 | a :: r, [], _, _, h => absurd h (by simp)
 | a :: r, b :: s, hl, hm, h => by
  obtain ⟨a1, a2⟩ := List.pairwise_cons.1 hl
  obtain ⟨b1, b2⟩ := List.pairwise_cons.1 hm
  have hab : a = b := by
   have h1 : a ∈ b :: s := h.mem_iff.1 lP
   have h2 : b ∈ a :: r := h.mem_iff.2 lP
   rcases List.mem_cons.1 h1 with h1 | h1
   ·exact h1
   ·rcases List.mem_cons.1 h2 with h2 | h2
    ·exact h2.symm
    ·have := a1 b h2
     have := b1 a h1
     omega
  subst hab
  rw [wI0 a2 b2 (h.cons_inv)]
theorem yV6 {M : List It} (h : M.Pairwise (fun a b => a.id ≤ b.id)) (hn : (idsI M).Nodup) : Rise M := by
 induction M with
 | nil => exact qR
 | cons e r ih =>
  obtain ⟨h1, h2⟩ := List.pairwise_cons.1 h
  simp only [idsI, xR, qZ] at hn
  refine List.pairwise_cons.2 ⟨fun x hx => ?_, ih h2 hn.2⟩
  have := h1 x hx
  have hne : e.id ≠ x.id := fun hh => hn.1 (by rw [hh]; exact List.mem_map_of_mem hx)
  omega
theorem yK2 : ∀ (L : List It) (seen : List Nat), ofE seen L = 0 → seen.Nodup → (seen ++ idsI L).Nodup ∧ (seen.length ≤ 2048 → seen.length + L.length ≤ 2048) ∧ ∀ e ∈ L, e.id < 6004799503160661 ∧ e.tx ≠ [] ∧ e.tx.length ≤ 65536
 | [], seen, _, hn => by simp [idsI, hn]
 | e :: r, seen, h, hn => by
  rw [ofE] at h
  split at h
  ·omega
  rename_i h1
  split at h
  ·rename_i h2; exact absurd h h2
  rename_i h2
  have hw : jG0 e.id e.tx (decide (2048 ≤ seen.length)) = 0 := by omega
  unfold jG0 at hw
  repeat' split at hw
  all_goals first | omega | skip
  rename_i w1 w2 w3 w4
  have w4' : seen.length < 2048 := by simpa using w4
  have hn2 : (seen ++ [e.id]).Nodup := List.nodup_append.2 ⟨hn, by simp, fun a ha b hb hab => h1 (by simp at hb; rw [← hb, ← hab]; exact ha)⟩
  obtain ⟨i1, i2, i3⟩ := yK2 r (seen ++ [e.id]) h hn2
  refine ⟨by simpa [idsI] using i1, fun _ => ?_, fun x hx => ?_⟩
  ·have := i2 (by simp; omega)
   simp at this ⊢
   omega
  ·rcases List.mem_cons.1 hx with rfl | hx
   ·exact ⟨by omega, w2, by omega⟩
   ·exact i3 x hx
theorem zN9 {L : List It} (h : ofQ L = 0) : (idsI L).Nodup ∧ L.length ≤ 2048 ∧ ChOk (jR8 L) ∧ (jR8 L).Perm L := by
 obtain ⟨h1, h2, h3⟩ := yK2 L [] h List.nodup_nil
 rw [lE] at h1
 have h2 := h2 (by simp)
 simp at h2
 obtain ⟨h4, h5⟩ := vQ0 L h1
 exact ⟨h1, h2, ⟨h4, fun e he => (h3 e (h5.mem_iff.1 he)).1, fun e he => (h3 e (h5.mem_iff.1 he)).2, by rw [h5.length_eq]; exact h2⟩, h5⟩
theorem wF9 {L M : List It} (h : (idsI L).Nodup) (hp : M.Perm L) (hs : M.Pairwise (fun a b => a.id ≤ b.id)) : M = jR8 L := by
 obtain ⟨h4, h5⟩ := vQ0 L h
 exact wI0 (yV6 hs ((hp.map fun e : It => e.id).nodup_iff.2 h)) h4 (hp.trans h5.symm)
end
section
open Go.RowKit Go.Sort
set_option maxRecDepth 100000
def wG0 : Go.Shelf.Ren := ⟨fun n => match n with | 0 => 0 | 1 => 1 | 2 => 2 | 6 => 39 | 14 => 85 | 15 => 86 | 20 => 146 | 21 => 147 | 22 => 148 | 23 => 149 | 24 => 150 | 25 => 151 | 26 => 152 | 27 => 153 | 28 => 154 | 29 => 155 | 46 => 207 | 47 => 208 | 48 => 209 | 49 => 210 | 50 => 211 | 57 => 250 | 60 => 307 | 61 => 308 | 62 => 309 | 63 => 310 | 64 => 311 | 65 => 312 | 66 => 313 | 67 => 314 | 68 => 315 | 69 => 316 | 70 => 317 | 71 => 318 | 72 => 319 | 73 => 322 | 74 => 323 | 75 => 333 | _ => 0, fun n => match n with | 0 => 0 | 1 => 1 | 2 => 2 | 3 => 3 | 4 => 4 | 5 => 5 | 6 => 6 | 7 => 7 | 8 => 8 | 9 => 9 | 10 => 10 | 11 => 11 | 12 => 12 | 13 => 13 | 14 => 14 | 15 => 15 | 16 => 16 | 17 => 17 | 18 => 18 | 19 => 19 | 20 => 20 | 21 => 21 | 22 => 56 | 23 => 110 | 24 => 63 | 25 => 112 | 27 => 257 | 37 => 170 | 38 => 171 | 39 => 172 | 42 => 386 | 44 => 275 | 45 => 276 | 46 => 277 | 47 => 278 | 48 => 279 | 49 => 280 | 50 => 281 | 51 => 282 | 52 => 283 | 53 => 180 | 54 => 284 | 55 => 61 | 66 => 342 | 67 => 343 | 68 => 315 | 69 => 344 | 70 => 345 | 71 => 346 | 76 => 373 | 77 => 374 | 78 => 375 | 81 => 84 | 82 => 429 | 83 => 430 | 84 => 431 | 85 => 432 | 86 => 433 | 87 => 213 | 88 => 435 | 89 => 166 | 90 => 436 | 91 => 143 | 92 => 437 | 93 => 438 | 94 => 439 | 95 => 440 | 96 => 158 | _ => 0, fun n => match n with | _ => 0⟩
theorem yJ2 : SlLaysF0.n6 Tryz.prog wG0 := by
 constructor
 case f6 => exact ⟨"slices.SortFunc[[]gazetteer/chart.Item,gazetteer/chart.Item]", by decide, by kernel_rfl⟩
 case f14 => exact ⟨"slices.pdqsortCmpFunc[gazetteer/chart.Item]", by decide, by kernel_rfl⟩
 case f20 => exact ⟨"slices.insertionSortCmpFunc[gazetteer/chart.Item]", by decide, by kernel_rfl⟩
 case f21 => exact ⟨"slices.heapSortCmpFunc[gazetteer/chart.Item]", by decide, by kernel_rfl⟩
 case f22 => exact ⟨"slices.breakPatternsCmpFunc[gazetteer/chart.Item]", by decide, by kernel_rfl⟩
 case f23 => exact ⟨"slices.choosePivotCmpFunc[gazetteer/chart.Item]", by decide, by kernel_rfl⟩
 case f24 => exact ⟨"slices.reverseRangeCmpFunc[gazetteer/chart.Item]", by decide, by kernel_rfl⟩
 case f25 => exact ⟨"slices.partialInsertionSortCmpFunc[gazetteer/chart.Item]", by decide, by kernel_rfl⟩
 case f26 => exact ⟨"slices.partitionEqualCmpFunc[gazetteer/chart.Item]", by decide, by kernel_rfl⟩
 case f27 => exact ⟨"slices.partitionCmpFunc[gazetteer/chart.Item]", by decide, by kernel_rfl⟩
 case f46 => exact ⟨"slices.siftDownCmpFunc[gazetteer/chart.Item]", by decide, by kernel_rfl⟩
 case f49 => exact ⟨"slices.medianAdjacentCmpFunc[gazetteer/chart.Item]", by decide, by kernel_rfl⟩
 case f50 => exact ⟨"slices.medianCmpFunc[gazetteer/chart.Item]", by decide, by kernel_rfl⟩
 case f57 => exact ⟨"slices.order2CmpFunc[gazetteer/chart.Item]", by decide, by kernel_rfl⟩
 all_goals first | kernel_rfl | (intro w; kernel_rfl)
theorem zH1 (x y : It) (W : World) : Calls Tryz.prog 40 #[x.val, y.val] W fun e w' => e = .returned (iq (cmpQ x.id y.id)) ∧ ∃ q os', w' = grow (W.drewN q) os' := by
 have hcon := zL3 x.id y.id
 generalize cmpQ x.id y.id = r at hcon ⊢
 go_enter Tryz.func40, Tryz.ntmps40
 go_wp2_with (go_at_call 41; refine (hcon _).mono ?_; rintro e w' ⟨rfl, rfl⟩)
 go_ret
 exact ⟨rfl, 0, _, by rw [alloc_eq_grow, alloc_eq_grow, grow_grow]; rfl⟩
instance : Inhabited It := ⟨⟨0, []⟩⟩
theorem vY1 (blk off size : Nat) (w : World) : CmpLays Tryz.prog 40 #[] It.cells 2 (fun x y => cmpQ x.id y.id) blk off size w :=
 fun _ _ _ _ x y => zH1 x y _
theorem kY0 (x y : It) : ltOf (fun x y : It => cmpQ x.id y.id) x y = decide (x.id < y.id) := by
 unfold ltOf
 rw [lS]
 simp [zB6]
theorem zI8 : SWO (ltOf fun x y : It => cmpQ x.id y.id) where
 irrefl x := by rw [kY0]; simp
 trans x y z h1 h2 := by rw [kY0] at *; simp at *; omega
 ntrans x y z h1 h2 := by rw [kY0] at *; simp at *; omega
theorem kQ8 : ∀ (L : List It) (t : Nat), t < L.length * 2 → (jC9 L)[t]? = some ((L[t / 2]!).cells)[t % 2]!
 | [], t, h => by simp at h
 | e :: r, 0, _ => by simp
 | e :: r, 1, _ => by simp
 | e :: r, t + 2, h => by
  have h1 := kQ8 r t (by simp at h; omega)
  have e1 : (t + 2) / 2 = t / 2 + 1 := by omega
  have e2 : (t + 2) % 2 = t % 2 := by omega
  rw [e1, e2]
  simp only [jC9, x5, It.cells] at h1 ⊢
  simpa using h1
theorem wL7 (L : List It) : (flatK It.cells 2 L.toArray).toList = jC9 L := by
 refine List.ext_getElem? fun t => ?_
 rcases xX t (L.length * 2) with h | h
 ·rw [kQ8 L t h]
  have hs : t < (flatK It.cells 2 L.toArray).size := by rw [size_flatK]; simpa using h
  have g := get_flatK It.cells 2 L.toArray t (by simpa using h)
  rw [getElem!_pos _ t hs] at g
  rw [z9, zL hs, g]
  simp
 ·rw [zG (by simpa using h), zG (by rw [jR0]; omega)]
theorem kR0 : Enters Tryz.prog 39 := Enters.mk Tryz.func39 (by kernel_rfl) (by kernel_rfl)
theorem yR5 (g n c : Nat) (L : List It) (hn : n = L.length) (hL : L.length ≤ 1000000) :
  Fn Tryz.prog 39 [.slice (some ⟨g, 0, none⟩) n c, .func (.func 40) #[] #[]] [.ob g (RowP 63 2 n c (jC9 L))] fun v H' => v = .tuple #[] ∧ ∃ M : List It, M.Perm L ∧ M.Pairwise (fun a b => a.id ≤ b.id) ∧ H' = [.ob g (RowP 63 2 n c (jC9 M))] := by
 refine ⟨kR0, fun w hw => ?_⟩
 subst hn
 obtain ⟨⟨ob, hob, cur, rfl, hc1, hc2, hc3, hc4, hc5⟩, _⟩ := hw.ents _ lP
 have hlt : g < w.heap.size := (Array.getElem?_eq_some_iff.1 hob).1
 have eg : ∀ args w, (callFunc 40 args).run Tryz.prog w = .ok (.enter 40 args) w := enters_of Tryz.func40 (by kernel_rfl) rfl
 have hH : HoldsK It.cells 2 w g 0 L.toArray := fun j hj => by
  have hj' : j < L.length * 2 := by simpa using hj
  have hjs : j < (flatK It.cells 2 L.toArray).size := hj
  have h1 : (jC9 L)[j]? = some ((flatK It.cells 2 L.toArray)[j]!) := by
   rw [← wL7, z9, zL hjs, getElem!_pos _ j hjs]
  refine ⟨?_, ?_⟩
  ·rw [lA]
   simp only [World.cell?, hob]
   rw [← hc4, zS, if_pos hj'] at h1
   simpa using h1
  ·simp [World.frozen?, hob]
 have hcon := AnyQ.slices_SortFunc yJ2 2 (kW) (kW) It.cells (fun _ => rfl) (fun x v hv => by simp [It.cells] at hv; rcases hv with rfl | rfl <;> rfl) (fun x y => cmpQ x.id y.id) zI8 40 #[] g 0 c L.toArray w eg (vY1 g 0 _ w) hH hlt (by simp; omega)
 have hcon' : Calls Tryz.prog 39 #[.slice (some ⟨g, 0, none⟩) L.length c, .func (.func 40) #[] #[]] w (fun e w' => e = .returned (.tuple #[]) ∧ ∃ d' n os, PermIn 0 L.length L.toArray d' ∧ SortedIn (ltOf fun x y : It => cmpQ x.id y.id) 0 L.length d' ∧ w' = sortWorldK It.cells 2 w g 0 n d' os) := hcon
 refine hcon'.mono fun e w' he => ?_
 obtain ⟨he, d', m, os, hp, hs, rfl⟩ := he
 have hsz : d'.size = L.length := by simpa using hp.1
 have hperm : d'.toList.Perm L := by
  have := hp.2.2
  have e : List.take d'.size L = L := by rw [hsz, xY]
  simpa [← hsz, e] using this
 refine ⟨_, [.ob g (RowP 63 2 L.length c (jC9 d'.toList))], he, ⟨rfl, d'.toList, hperm, ?_, rfl⟩, ?_⟩
 ·refine List.pairwise_iff_getElem.2 fun i j hi hj hij => ?_
  have h1 := hs i j (lZ _) hij (by simp at hj ⊢; omega)
  rw [kY0] at h1
  simp at hi hj
  rw [getElem!_pos d' i hi, getElem!_pos d' j hj] at h1
  simpa using h1
 ·have hfs : (flatK It.cells 2 d').size = L.length * 2 := by rw [size_flatK, hsz]
  have hfl : (flatK It.cells 2 d').toList = jC9 d'.toList := by have := wL7 d'.toList; simpa using this
  obtain ⟨cur', hcur'⟩ : ∃ c', putCells id 0 (flatK It.cells 2 d') cur = c' := ⟨_, rfl⟩
  have hcs : cur'.size = c * 2 := by rw [← hcur']; simp [putCells, hc3]
  have hct : cur'.toList.take (L.length * 2) = jC9 d'.toList := by
   refine List.ext_getElem? fun t => ?_
   rcases xX t (L.length * 2) with h | h
   ·have ht : t < cur.size := by omega
    have htf : t < (flatK It.cells 2 d').size := by omega
    rw [zS, if_pos h, z9, ← hcur', ← hfl, z9]
    simp only [putCells, Array.getElem?_mapIdx, zL ht, qG, zL htf]
    rw [if_pos ⟨lZ _, by omega⟩, Nat.sub_zero, getElem!_pos _ t htf]
    rfl
   ·rw [zG (by rw [xV]; omega), zG (by rw [jR0]; simp; omega)]
  have hblk : ∀ k, k < w.heap.size → (sortWorldK It.cells 2 w g 0 m d' os).heap[k]? = if g = k then some (.cells cur' 63 (0, 0)) else w.heap[k]? := fun k hk => by
   simp only [sortWorldK, grow, putRowK, putRow, mapBlock, Go.Sort.ahead]
   rw [Array.getElem?_append_left (by simpa using hk), z6]
   by_cases hgk : g = k
   ·subst hgk
    rw [if_pos rfl, if_pos rfl, hob, qG, onCells, hcur']
   ·rw [if_neg hgk, if_neg hgk]
  refine ⟨⟨rfl, rfl, rfl, by simp only [sortWorldK, grow, putRowK, putRow, mapBlock, Go.Sort.ahead, Array.size_append, Array.size_modify]; exact Nat.le_add_right _ _, fun k hk hn => ?_⟩, fun x hx => ?_, List.pairwise_singleton _ _⟩
  ·rw [hblk k hk, if_neg (fun h => hn (by subst h; exact (lP : g ∈ [g])))]
  ·obtain rfl := List.mem_singleton.1 hx
   refine ⟨⟨_, ?_, cur', rfl, hc1, hc2, hcs, hct, by rw [jR0]; simp [hsz]⟩, fun _ => .inl (lP : g ∈ [g])⟩
   have := hblk g hlt
   rw [if_pos rfl] at this
   exact this
theorem wZ1 (A : Option Addr) (c : Nat) : Fn Tryz.prog 39 [.slice A 0 c, .func (.func 40) #[] #[]] [] fun v _ => v = .tuple #[] :=
 Fn.of_same kR0 fun w => (AnyF.slices_SortFunc_none yJ2 A c (.func (.func 40) #[] #[]) w).mono fun e w' ⟨he, hw⟩ => ⟨he, hw.symm⟩
end
section
open Go.RowKit
def jW5 (k : Nat) : Int := if 6004799503160661 ≤ k then -1 else (((Lib.bitLen (3 * k + 1) - 1) / 2 : Nat) : Int)
def jV1 : Nat → Nat
 | 0 => 0
 | z + 1 => jV1 z + 4 ^ z
theorem kI8 (z : Nat) : 3 * jV1 z + 1 = 4 ^ z := by
 induction z with
 | zero => rfl
 | succ z ih => rw [jV1, qV]; omega
theorem vU6 : jV1 27 = 6004799503160661 := by decide
theorem vU5 (x : Nat) (h0 : x ≠ 0) (h : x < 18446744073709551616) : 1 ≤ Lib.bitLen x ∧ 2 ^ (Lib.bitLen x - 1) ≤ x ∧ x < 2 ^ Lib.bitLen x := Lib.bitLenAux_bounds 64 x h h0
theorem yB2 {a b : Nat} (h : a ≤ b) : 4 ^ a ≤ 4 ^ b := uG (by decide) h
theorem kS0 {a b : Nat} (h : a ≤ b) : jV1 a ≤ jV1 b := by
 have h1 := kI8 a
 have h2 := kI8 b
 have h3 := yB2 h
 omega
theorem yN8 {k z : Nat} (hz : z ≤ 26) (h1 : jV1 z ≤ k) (h2 : k < jV1 (z + 1)) : jW5 k = (z : Int) := by
 have e1 := kI8 z
 have e2 := kI8 (z + 1)
 have e3 : jV1 (z + 1) ≤ jV1 27 := kS0 (by omega)
 rw [vU6] at e3
 unfold jW5
 rw [if_neg (by omega)]
 obtain ⟨b1, b2, b3⟩ := vU5 (3 * k + 1) (by omega) (by omega)
 have p1 : (4 : Nat) ^ z = 2 ^ (2 * z) := by rw [Nat.pow_mul]
 have p2 : (4 : Nat) ^ (z + 1) = 2 ^ (2 * z + 2) := by rw [show 2 * z + 2 = 2 * (z + 1) by omega, Nat.pow_mul]
 generalize Lib.bitLen (3 * k + 1) = b at b1 b2 b3 ⊢
 have q1 : b - 1 < 2 * z + 2 := (Nat.pow_lt_pow_iff_right (a := 2) (by decide)).1 (by omega)
 have q2 : 2 * z < b := (Nat.pow_lt_pow_iff_right (a := 2) (by decide)).1 (by omega)
 have : (b - 1) / 2 = z := by omega
 rw [this]
theorem wA2 {k : Nat} (h : k < 6004799503160661) : ∃ z : Nat, z ≤ 26 ∧ jW5 k = (z : Int) ∧ jV1 z ≤ k ∧ k < jV1 (z + 1) := by
 have key : ∀ n, k < jV1 n → ∃ z, z < n ∧ jV1 z ≤ k ∧ k < jV1 (z + 1) := by
  intro n
  induction n with
  | zero => intro h; simp [jV1] at h
  | succ n ih =>
   intro h
   rcases xX k (jV1 n) with h1 | h1
   ·obtain ⟨z, h2, h3⟩ := ih h1
    exact ⟨z, by omega, h3⟩
   ·exact ⟨n, by omega, h1, h⟩
 obtain ⟨z, h1, h2, h3⟩ := key 27 (by rw [vU6]; exact h)
 exact ⟨z, by omega, yN8 (by omega) h2 h3, h2, h3⟩
theorem wA1 (k : Nat) (hk : k < 18446744073709551616) : Fn Tryz.prog 177 [uq k] [] fun v _ => v = iq (jW5 k) := by
 refine fE 11 Tryz.func177 rfl (fun w0 => aA rfl rfl <| f1K 0 rfl <| aS <| aR fun Z hZ => sM rfl rfl ?_)
 first | refine jH7 rfl rfl rfl ?_ | refine sx_sgeq rfl rfl rfl ?_
 refine sN (hZ _ _ <| f2K 0 4 rfl ?_)
 first | refine aC0 (fun h => ?_) (fun h => ?_) | refine aS (aC0 (fun h => ?_) (fun h => ?_))
 ·have h' : 6004799503160661 ≤ k := by simp at h; omega
  rw [show jW5 k = -1 by unfold jW5; rw [if_pos h']]
  refine aA rfl rfl <| f1K 2 rfl <| aE ?_
  repeat (with_reducible (first | refine nTR ?_ | refine nBR ?_ | refine jD4 ?_))
  exact nR10 rfl
 have h' : ¬ 6004799503160661 ≤ k := by simp at h; omega
 rw [show jW5 k = (((Lib.bitLen (3 * k + 1) - 1) / 2 : Nat) : Int) by unfold jW5; rw [if_neg h']]
 obtain ⟨b1, b2, b3⟩ := vU5 (3 * k + 1) (by omega) (by omega)
 obtain ⟨b, hb⟩ := xZ9 (Lib.bitLen (3 * k + 1))
 have hl := zB8 (3 * k + 1) (by omega)
 have hb64 : b ≤ 64 := by
  have : b - 1 < 64 := (Nat.pow_lt_pow_iff_right (a := 2) (by decide)).1 (by rw [← hb]; omega)
  omega
 rw [hb] at hl b1 ⊢
 refine aK ?_
 repeat (with_reducible (first | refine nBN ?_ | refine jL4 ?_))
 with_reducible first | refine nN ?_ | refine jO8 ?_
 refine aR fun Z hZ => sM rfl rfl <| kK3 rfl rfl ((3 * k : Nat) : Int) (by rw [xK _ (by omega)]; omega) rfl ?_
 refine jB7 rfl rfl ((3 * k + 1 : Nat) : Int) (by rw [xK _ (by omega)]; omega) rfl ?_
 refine sCP0 hl ?_
 refine jN0 rfl rfl ((b - 1 : Nat) : Int) (by rw [lT _ (by omega)]; omega) rfl ?_
 refine vB2 rfl rfl (by omega) (((b - 1) / 2 : Nat) : Int) (by rw [Int.tdiv_eq_ediv_of_nonneg (by omega), lT _ (by omega)]; omega) rfl ?_
 refine sAN hZ rfl rfl <| f1K 2 rfl <| aE ?_
 repeat (with_reducible (first | refine nTR ?_ | refine nBR ?_ | refine jD4 ?_))
 exact nR10 rfl
theorem keyU : KeyOk Tryz.prog 61 (fun k : Nat => uq k) where
 eq a b w := by
  have h : ((a : Int) = (b : Int)) ↔ a = b := by omega
  simp [go_sem, Op.equal, Op.maxDepth]
  rw [lS]
  simp [h]
 chk e a w := by
  rw [show (10000 : Nat) = 9999 + 1 from rfl, Instr.checkKey]
  simp [run_underlying Tryz.underlying61]
 und := ⟨_, Tryz.underlying61, .inr fun a b => by
  have h : ((a : Int) = (b : Int)) ↔ a = b := by omega
  simp only [Instr.sameNow, if_true]
  congr 1
  rw [lS]
  simp [h]⟩
 same a := by simp [Instr.sameBits]
theorem vV5 (w : World) : (zeroValue 3).run Tryz.prog w = .ok (iq (0 : Nat)) w := by kernel_rfl
def zC8 (M : List (Nat × Nat)) (seen : List Nat) : Prop := ∀ k, aget M k = if k ∈ seen then some 1 else none
theorem zB4 {M : List (Nat × Nat)} {seen : List Nat} (h : zC8 M seen) (k : Nat) : (if false = true then Value.tuple #[((aget M k).map fun n : Nat => iq n).getD (iq (0 : Nat)), .bool (aget M k).isSome] else ((aget M k).map fun n : Nat => iq n).getD (iq (0 : Nat))) = iq ((if k ∈ seen then 1 else 0 : Nat) : Nat) := by
 rw [h k]
 by_cases hk : k ∈ seen <;> simp [hk]
theorem yC6 (M : List (Nat × Nat)) (k v : Nat) : (if false = true then Value.tuple #[((aget (aput M k v) k).map fun n : Nat => iq n).getD (iq (0 : Nat)), .bool (aget (aput M k v) k).isSome] else ((aget (aput M k v) k).map fun n : Nat => iq n).getD (iq (0 : Nat))) = iq (v : Nat) := by
 rw [kC6, if_pos rfl]
 rfl
theorem yM2 (A : Option Addr) (c : Nat) (L : List It) (T : Heap) (hA : jK9 A L.length) (hT : 0 < L.length → T = roE A (jC9 L)) (hro : Ro T) (hL : L.length ≤ 100000) :
  Fn Tryz.prog 14 [.slice A L.length c] T fun v H' => ∃ u, v = .tuple #[.agg #[u], iq (ofQ L)] ∧ ((ofQ L = 0 ∧ RowOk u (jR8 L).length ∧ H' = rowE u 63 2 (jC9 (jR8 L))) ∨ (ofQ L ≠ 0 ∧ u = .slice none 0 0 ∧ H' = [])) := by
 refine fE 48 Tryz.func14 rfl (fun w0 => aR (fun Z hZ => sAl tyZ58 rfl (fun g1 => sAN hZ rfl rfl <| f2K 0 2 rfl <| aR (fun Z hZ => kP2 rfl (fun k : Nat => uq k) (fun n : Nat => iq n) (fun b => sAN hZ rfl rfl <| f3K 0 2 4 rfl <| aA rfl rfl ?_)))))
 refine f4K 0 2 4 5 rfl <| aS <| aR fun Z hZ => sM rfl rfl <| jE5 Tryz.underlying56 rfl rfl <| sMN hZ rfl rfl <| f6K 2 4 5 10 11 12 rfl <| aB ?_
 refine jC3 (ι := Nat × Value × List (Nat × Nat)) (fun i => [(2, ptr g1 0), (4, .map (some b)), (5, i.2.1), (10, .slice A L.length c), (11, iq (L.length : Nat)), (12, iq (i.1 : Nat))])
  (fun i => mapE (fun k : Nat => uq k) (fun n : Nat => iq n) b i.2.2 :: .own g1 58 [.slice none 0 0] :: (T ++ rowE i.2.1 63 2 (jC9 (L.take i.1))))
  (fun i => i.1 ≤ L.length ∧ RowOk i.2.1 i.1 ∧ zC8 i.2.2 (idsI (L.take i.1)) ∧ ofE (idsI (L.take i.1)) (L.drop i.1) = ofQ L) (fun i => L.length - i.1) (0, .slice none 0 0, []) ⟨by simp, kI, fun k => by simp [idsI, aget], rfl⟩ (kR rfl) (by simp [rowE]; exact hV _) ?_
 rintro ⟨i, v, M⟩ ⟨hi, hv, hM, hq⟩
 simp only at hi hv hM hq
 refine aR (fun Z hZ => jB0 ?_)
 refine sN (hZ _ _ <| f7K 2 4 5 10 11 12 13 rfl <| aS (aC0 (fun h => ?_) (fun h => ?_)))
 ·have hlt : i < L.length := by simpa using h
  have hx := kM4 hlt
  obtain ⟨x, hxe⟩ := xZ9 (itAt L i)
  rw [hxe] at hx
  have hdr : L.drop i = x :: L.drop (i + 1) := by rw [zA hlt]; congr 1; exact (List.getElem?_eq_some_iff.1 hx).2
  have htk : idsI (L.take (i + 1)) = idsI (L.take i) ++ [x.id] := by rw [List.take_add_one, hx]; simp [idsI]
  have hsl : (idsI (L.take i)).length = i := by simp [idsI]; omega
  rw [hdr, ofE, hsl, ← htk] at hq
  obtain ⟨n, hn⟩ := xZ9 ((if x.id ∈ idsI (L.take i) then 1 else 0 : Nat))
  have hget := zB4 hM x.id
  rw [hn] at hget
  have hn1 : n ≤ 1 := by rw [← hn]; split <;> omega
  obtain ⟨g, o, rfl⟩ := hA (by omega)
  obtain rfl := hT (by omega)
  refine jA7 (mapE (fun k : Nat => uq k) (fun n : Nat => iq n) b M :: .own g1 58 [.slice none 0 0] :: .ro g o (jC9 L) :: rowE v 63 2 (jC9 (L.take i))) (hV _) <| aK <| nN <| aS (aB <| aR (fun Z hZ => jA8 (o + i * 2) Tryz.underlying56 tyS63 rfl rfl (by omega) (by simp) rfl ?_))
  refine jE0 2 rfl rfl (i * 2) rfl tyA63 tyS63 (jW1 hx) rfl <| sAl tyZ63 rfl (fun g2 => sS0 0 tyS63 ?_)
  refine sN (hZ _ _ <| f7K 2 4 5 7 10 11 12 rfl <| aS <| aR fun Z hZ => sM rfl rfl <| sFA0 kD0 ?_)
  refine sL0 0 tyA61 tyS61 ?_
  refine vB7 1 keyU Tryz.underlying108 vV5 x.id _ rfl rfl rfl hget rfl ?_
  refine jB7 rfl rfl ((n + 1 : Nat) : Int) (by rw [lT _ (by omega)]; omega) rfl ?_
  refine kF0 1 keyU Tryz.underlying108 x.id (n + 1) rfl rfl rfl rfl rfl <| sN (hZ _ _ <| f7K 2 4 5 7 10 11 12 rfl <| aR fun Z hZ => sM rfl rfl <| sFA0 kD0 ?_)
  refine sL0 0 tyA61 tyS61 ?_
  refine vB7 1 keyU Tryz.underlying108 vV5 x.id _ rfl rfl rfl (yC6 M x.id (n + 1)) rfl <| jC4 ?_
  refine sN (hZ _ _ <| f8K 2 4 5 7 10 11 12 25 rfl <| aC0 (fun h1 => ?_) (fun h1 => ?_))
  ·have hin : x.id ∈ idsI (L.take i) := by
    have : n = 1 := by simp at h1; omega
    rw [this] at hn
    split at hn
    ·assumption
    ·omega
   rw [if_pos hin] at hq
   rw [← hq]
   refine aR (fun Z hZ => jB6 tyZ58 tyP58 ?_)
   refine sS0 2 tyS58 ?_
   refine sAN hZ rfl rfl ?_
   refine f2K 2 3 rfl ?_
   refine aE ?_
   repeat (with_reducible (first | refine nTR ?_ | refine nBR ?_))
   exact jD8 [] rfl (kH 2 rfl rfl tyA58 tyS58 rfl) rfl (kA (lO _)) ⟨_, rfl, .inr ⟨by decide, rfl, rfl⟩⟩
  have hin : x.id ∉ idsI (L.take i) := fun hc => by
   rw [if_pos hc] at hn
   simp at h1
   omega
  have hn0 : n = 0 := by rw [if_neg hin] at hn; omega
  subst hn0
  rw [if_neg hin] at hq
  obtain ⟨e, he⟩ := xZ9 (jG0 x.id x.tx (decide (2048 ≤ i)))
  have hw := wW2 x.id x.tx (decide (2048 ≤ i))
  rw [he] at hw hq
  have hlen : decide ((2048 : Int) ≤ ((i : Nat) : Int)) = decide (2048 ≤ i) := by rw [lS]; simp; omega
  obtain ⟨Av, cv, rfl, hAv⟩ := hv.form
  refine aK <| nN <| aS <| aR (fun Z hZ => sFA0 kD0 ?_)
  refine sL0 0 tyA61 tyS61 ?_
  refine sFA0 wB5 ?_
  refine sL0 0 tyA9 tyS9 ?_
  refine sM rfl rfl <| jE5 Tryz.underlying56 rfl rfl <| jH7 rfl rfl rfl <| sCP hw (by first | exact (congrArg (fun b => some [uq x.id, .string (str x.tx), .bool b]) hlen) | rfl) rfl ?_
  refine sAN hZ rfl rfl <| f8K 2 4 5 7 8 10 11 12 rfl <| aR fun Z hZ => sM rfl rfl <| jA6 ?_
  refine sN (hZ _ _ <| f9K 2 4 5 7 8 10 11 12 36 rfl <| aC0 (fun h2 => ?_) (fun h2 => ?_))
  ·have he' : e ≠ 0 := by simp at h2; omega
   rw [if_pos he'] at hq
   rw [← hq]
   refine aR (fun Z hZ => jB6 tyZ58 tyP58 ?_)
   refine sM rfl rfl <| sS0 2 tyS58 ?_
   refine sAN hZ rfl rfl ?_
   refine f2K 2 3 rfl ?_
   refine aE ?_
   repeat (with_reducible (first | refine nTR ?_ | refine nBR ?_))
   exact jD8 [] rfl (kH 2 rfl rfl tyA58 tyS58 rfl) rfl (kA (lO _)) ⟨_, rfl, .inr ⟨he', rfl, rfl⟩⟩
  have he' : e = 0 := by simp at h2; omega
  rw [if_neg (by simpa using he')] at hq
  refine aK <| nN ?_
  have hM2 : zC8 (aput M x.id 1) (idsI (L.take (i + 1))) := fun k => by
   rw [kC6, htk, hM k]
   by_cases hk : x.id = k
   ·subst hk
    simp
   ·have hk' : ¬ k = x.id := fun h => hk h.symm
    simp [hk, hk']
  refine aG (fun Z hZ => sM rfl rfl <| sLA0 0 tyA63 tyS63 ?_)
  refine sBS0 Tryz.underlying56 tyS63 tyZ63 (fun g3 => ?_)
  refine jD3 [_, _, _, _, _] yL8 rfl hv (by rw [jR0, xV]; omega) rfl (fun w hw => jI0 (i := 0) (xs := x.cells) rfl rfl hw) rfl (by show _ ≤ 9223372036854775807; omega) (by omega) (hV _) rfl (fun v2 hv2 => ?_)
  refine sAN hZ rfl rfl ?_
  refine nF [(2, _), (4, _), (5, _), (10, _), (11, _), (12, _)] (kR rfl) ?_
  repeat (with_reducible refine nBN ?_)
  refine nN ?_
  refine aG (fun Z hZ => ?_)
  refine jB7 rfl rfl ((i + 1 : Nat) : Int) (by rw [lT _ (by omega)]; omega) rfl ?_
  refine sMN hZ rfl rfl <| nF [(2, _), (4, _), (5, _), (10, _), (11, _), (12, _)] (kR rfl) <| jC2 (i + 1, v2, aput M x.id 1) ⟨by show i + 1 ≤ _; omega, hv2, hM2, hq⟩ (by simp; omega) (kR rfl) ?_
  simp only
  rw [vL1 hx]
  exact kC 2 rfl
 ·refine jB5 ?_
  repeat (with_reducible refine nTE ?_)
  refine nBE ?_
  refine nN ?_
  have hke : i = L.length := by simp at h; omega
  subst hke
  rw [uO, ofE] at hq
  have h0 : ofQ L = 0 := hq.symm
  obtain ⟨o1, o2, o3, o4⟩ := zN9 h0
  rw [xY, h0]
  have hol := o4.length_eq
  rcases zM L.length with hz | hz
  ·obtain rfl : L = [] := List.length_eq_zero_iff.1 hz
   obtain ⟨Av, cv, rfl, hAv⟩ := hv.form
   refine jA7 (.own g1 58 [.slice none 0 0] :: rowE (.slice Av 0 cv) 63 2 []) (kA ((xJ _ (lX T _)).trans (qX _ _))) <| aR fun Z hZ => sM rfl rfl <| sCP0 (wZ1 Av cv) ?_
   refine sN (hZ _ _ <| f2K 2 5 rfl <| aR fun Z hZ => sM rfl rfl <| jB6 tyZ58 tyP58 ?_)
   first | refine sS0 0 tyS58 ?_
   refine sAN hZ rfl rfl <| f2K 2 3 rfl <| aE <| jD8 _ rfl (kH 0 rfl rfl tyA58 tyS58 rfl) rfl (kC 1 rfl) ⟨_, rfl, .inl ⟨rfl, hv, rfl⟩⟩
  ·obtain ⟨gv, cv, rfl⟩ := hv.some hz
   refine jA7 ([.ob gv (RowP 63 2 L.length cv (jC9 L))] ++ [.own g1 58 [.slice none 0 0]]) ((kD _ _).trans (kA ((xJ _ (lX T _)).trans (qX _ _)))) <| aR fun Z hZ => sM rfl rfl <| jB4 [.ob gv (RowP 63 2 L.length cv (jC9 L))] [.own g1 58 [.slice none 0 0]] (yR5 gv L.length cv L rfl (by omega)) rfl (hV _) rfl ?_
   rintro v H' ⟨rfl, Ms, hp, hs, rfl⟩
   obtain rfl := wF9 o1 hp hs
   refine jC6 [.ob gv (RowP 63 2 L.length cv (jC9 (jR8 L))), .own g1 58 [.slice none 0 0]] (hV _) <| sN (hZ _ _ <| f2K 2 5 rfl <| aR fun Z hZ => sM rfl rfl <| jB6 tyZ58 tyP58 ?_)
   refine sS0 1 tyS58 ?_
   refine sAN hZ rfl rfl <| f2K 2 3 rfl <| aE <| jD8 [.ob gv (RowP 63 2 L.length cv (jC9 (jR8 L)))] rfl (kH 1 rfl rfl tyA58 tyS58 rfl) rfl (kA (xE [_] [_])) ⟨_, rfl, .inl ⟨rfl, by rw [hol]; exact RowOk.mk gv _ cv, rfl⟩⟩
end
section
open Go.RowKit
def zLo (L : List It) : Int := if L = [] then 0 else jW5 (itAt L 0).id
def zHi (L : List It) : Int := if L = [] then 0 else jW5 (itAt L (L.length - 1)).id
theorem wV5 (A : Option Addr) (c : Nat) (L : List It) (T : Heap) (hA : jK9 A L.length) (hT : 0 < L.length → T = roE A (jC9 L)) (hro : Ro T) (hL : L.length ≤ 1000000) (hk : zC7 L) :
  Fn Tryz.prog 108 [chV A L.length c] T fun v _ => v = .tuple #[iq (zLo L), iq (zHi L), .bool (!L.isEmpty)] := by
 refine fE 25 Tryz.func108 rfl (fun w0 => aR (fun Z hZ => jB2 (fun g1 => ?_)))
 refine sA rfl rfl <| sA rfl rfl <| sAN hZ rfl rfl <| f1K 1 rfl <| aR (fun Z hZ => sFA0 jX6 ?_)
 first | refine sL0 0 tyA56 tyS56 ?_
 refine jE5 Tryz.underlying56 rfl rfl <| sAN hZ rfl rfl <| f2K 1 5 rfl <| aS <| aR fun Z hZ => sM rfl rfl <| jB1 ?_
 refine sN (hZ _ _ <| f3K 1 5 10 rfl <| aC0 (fun h => ?_) (fun h => ?_))
 ·have h0 : L = [] := List.length_eq_zero_iff.1 (by simpa using h)
  subst h0
  refine aR fun Z hZ => sA rfl rfl <| sA rfl rfl <| sAN hZ rfl rfl ?_
  refine f3K 2 3 4 rfl ?_
  refine aE ?_
  repeat (with_reducible refine nTR ?_)
  exact jN6 rfl rfl rfl rfl rfl
 have h0 : 0 < L.length := by
  have : ¬ L.length = 0 := by simpa using h
  omega
 have hne : L ≠ [] := List.length_pos_iff.1 h0
 have x1 := kM4 (L := L) (i := 0) h0
 obtain ⟨m, hm⟩ := xZ9 (L.length - 1)
 have x2 := kM4 (L := L) (i := m) (by omega)
 have z1 := wA1 (itAt L 0).id (hk _ (xN x1))
 have z2 := wA1 (itAt L m).id (hk _ (xN x2))
 rw [show zLo L = jW5 (itAt L 0).id by unfold zLo; rw [if_neg hne], show zHi L = jW5 (itAt L m).id by unfold zHi; rw [if_neg hne, hm], show L.isEmpty = false by simpa using hne]
 obtain ⟨g, o, rfl⟩ := hA h0
 obtain rfl := hT h0
 refine aK <| nN <| jC1 jF1 (by kernel_rfl) (fun Z hZ => ?_)
 refine qFA0 jX6 ?_
 first | refine jA9 0 tyA56 tyS56 ?_
 refine jG1 (o + 0 * 2) Tryz.underlying56 tyS63 rfl rfl (by omega) (by simp) rfl ?_
 refine qFA0 kD0 ?_
 refine jK1 1 rfl rfl (0 * 2) rfl tyA61 tyS61 (vE6 x1) rfl <| jG2 z1 rfl rfl <| qFA0 jX6 ?_
 first | refine jA9 0 tyA56 tyS56 ?_
 refine qM rfl rfl <| vP7 rfl rfl ((m : Nat) : Int) (by rw [lT _ (by omega)]; omega) rfl ?_
 refine jG1 (o + m * 2) Tryz.underlying56 tyS63 rfl rfl (by omega) (by simp) rfl ?_
 refine qFA0 kD0 ?_
 refine jK1 1 rfl rfl (m * 2) rfl tyA61 tyS61 (vE6 x2) rfl <| jG2 z2 rfl rfl <| jB8 rfl rfl <| jB8 rfl rfl <| jB8 rfl rfl <| jE9 (hZ _ _ <| f3K 2 3 4 rfl <| aE <| jN6 rfl rfl rfl rfl rfl)
end
section
open Go.RowKit
end
section
open Go.RowKit
end
section
open Go.RowKit
theorem ChOk.its {L : List It} (h : ChOk L) : zC7 L := fun e he => by have := h.lt e he; omega
end
section
open Go.RowKit
theorem Sat.both {w : World} {T U : Heap} (h : Sat w [] T w) (k : Sat w [] U w) (hT : Ro T) (hU : Ro U) : Sat w [] (T ++ U) w :=
 ⟨h.only, fun e he => by
  rcases List.mem_append.1 he with he | he
  ·exact h.ents e he
  ·exact k.ents e he, List.pairwise_append.2 ⟨h.sep, k.sep, fun a ha b hb hw => by
   rw [hT a ha, hU b hb] at hw
   cases hw⟩⟩
theorem kN9 {L : List TypeDesc} {cs : List Value} (h : Alike (.string :: L) cs) : ∃ (s : List UInt8) (c : List Value), cs = .string (str s) :: c ∧ s.length ≤ maxLen ∧ Alike L c := by
 cases h with
 | cons h1 h2 =>
  obtain ⟨l, rfl, hl⟩ := h1
  exact ⟨l, _, rfl, hl, h2⟩
def ofL (L : List It) : List It := if ofQ L = 0 then jR8 L else []
set_option maxRecDepth 100000
end
section
open Go.RowKit
theorem vR2 : ∀ (M : List It) (seen : List Nat), (seen ++ idsI M).Nodup → seen.length + M.length ≤ 2048 → (∀ e ∈ M, e.id < 6004799503160661 ∧ e.tx ≠ [] ∧ e.tx.length ≤ 65536) → ofE seen M = 0
 | [], _, _, _, _ => rfl
 | e :: r, seen, hn, hl, hg => by
  have h1 := hg e lP
  have h2 : e.id ∉ seen := fun hm => by
   have := List.nodup_append.1 hn
   exact this.2.2 e.id hm e.id (by simp [idsI]) rfl
  have h3 : ¬ 2048 ≤ seen.length := by simp at hl; omega
  have hw : jG0 e.id e.tx (decide (2048 ≤ seen.length)) = 0 := by
   unfold jG0
   rw [if_neg (by omega), if_neg h1.2.1, if_neg (by omega), decide_eq_false h3]
   rfl
  rw [ofE, if_neg h2, hw, if_neg (by simp)]
  refine vR2 r (seen ++ [e.id]) (by simpa [idsI] using hn) (by simp at hl ⊢; omega) fun x hx => hg x (lU _ hx)
theorem yU6 {O M : List It} (hO : ChOk O) (hp : M.Perm O) : ofQ M = 0 ∧ ofL M = O := by
 have hn : (idsI O).Nodup := by
  unfold idsI
  have := hO.rise
  exact (List.pairwise_map.2 (this.imp fun h => Nat.ne_of_lt h))
 have hnM : (idsI M).Nodup := (hp.map fun e : It => e.id).nodup_iff.2 hn
 have h0 : ofQ M = 0 := vR2 M [] (by simpa using hnM) (by have := hp.length_eq; have := hO.len; simp; omega) fun e he => by
  have hm := hp.mem_iff.1 he
  exact ⟨hO.lt e hm, hO.tx e hm⟩
 refine ⟨h0, ?_⟩
 unfold ofL
 rw [if_pos h0]
 exact (wF9 hnM hp.symm (hO.rise.imp fun h => Nat.le_of_lt h)).symm
end
namespace V
open Go.RowKit
def mwrQ (e : En) (many : Nat) (data : List UInt8) : Nat := if e.run = 0 then 14 else if data.length < e.off + e.len then 8 else if 2048 < many then 21 else if 65536 < e.len then 5 else 0
def txOf (x : En) (data : List UInt8) : List UInt8 := (data.drop x.off).take x.len
def jT1 (x : En) (data : List UInt8) : List It := (List.range x.run).map fun k => ⟨x.id + k, txOf x data⟩
def mbR (data : List UInt8) : Nat → List It → List En → Nat × List It
 | _, out, [] => (0, out)
 | many, out, x :: r => if mwrQ x (many + x.run) data = 0 then mbR data (many + x.run) (out ++ jT1 x data) r else (mwrQ x (many + x.run) data, [])
def mbQ (L : List En) (data : List UInt8) : Nat × List It := if rowC L = 0 then mbR data 0 [] L else (rowC L, [])
theorem vR6 {e : En} {many : Nat} {data : List UInt8} (h : mwrQ e many data = 0) : e.run ≠ 0 ∧ e.off + e.len ≤ data.length ∧ many ≤ 2048 ∧ e.len ≤ 65536 := by
 unfold mwrQ at h
 repeat' split at h
 all_goals first | omega | skip
 all_goals exact ⟨by assumption, by omega, by omega, by omega⟩
theorem wL4 (x : En) (data : List UInt8) : (jT1 x data).length = x.run := by simp [jT1]
theorem yD4 {x : En} {data : List UInt8} {k : Nat} (h : k < x.run) : (jT1 x data).take (k + 1) = (jT1 x data).take k ++ [⟨x.id + k, txOf x data⟩] := by
 rw [List.take_add_one]
 congr 1
 simp [jT1, h]
theorem yK5 (data : List UInt8) : ∀ (L : List En) (free many : Nat) (out : List It), jF5 L → rowQ free L = 0 → Rise out → (∀ e ∈ out, e.id < free ∧ e.id < 6004799503160661 ∧ e.tx ≠ [] ∧ e.tx.length ≤ 65536) → out.length = many → many ≤ 2048 → ∀ O, mbR data many out L = (0, O) → ChOk O
 | [], _, _, out, _, _, hr, ho, hl, hm, O, h => by
  rw [mbR] at h
  injection h with _ h
  subst h
  exact ⟨hr, fun e he => (ho e he).2.1, fun e he => (ho e he).2.2, by omega⟩
 | x :: r, free, many, out, hE, hq, hr, ho, hl, hm, O, h => by
  have hx := hE x lP
  rw [rowQ] at hq
  split at hq
  ·rename_i hc
   split at hq
   ·cases hq
   ·rename_i hf
    rw [mbR] at h
    split at h
    ·rename_i hw
     obtain ⟨w1, w2, w3, w4⟩ := vR6 hw
     obtain ⟨c1, c2, c3, c4⟩ := kG1 hx hc
     have hwide : x.wide = x.run := by unfold En.wide; omega
     have hlast : jK4 x + 1 = x.id + x.run := by unfold jK4; rw [if_pos hc, hwide]; omega
     have htx : (txOf x data).length = x.len := by unfold txOf; rw [xV, qF]; omega
     refine yK5 data r (jK4 x + 1) (many + x.run) _ (fun e he => hE e (lU _ he)) hq ?_ (fun e he => ?_) (by rw [lN, wL4, hl]) w3 O h
     ·refine List.pairwise_append.2 ⟨hr, List.pairwise_map.2 (List.pairwise_lt_range.imp fun h => by show x.id + _ < x.id + _; omega), fun a ha b hb => ?_⟩
      obtain ⟨k, _, rfl⟩ := List.mem_map.1 hb
      have := (ho a ha).1
      show a.id < x.id + k
      omega
     ·rcases List.mem_append.1 he with he | he
      ·obtain ⟨h1, h2, h3⟩ := ho e he
       exact ⟨by omega, h2, h3⟩
      ·obtain ⟨k, hk, rfl⟩ := List.mem_map.1 he
       have hk := List.mem_range.1 hk
       refine ⟨by show x.id + k < _; omega, by show x.id + k < _; omega, fun hn => ?_, by show (txOf x data).length ≤ _; omega⟩
       have : (txOf x data).length = 0 := by rw [show txOf x data = [] from hn]; rfl
       omega
    ·rename_i hw
     injection h with h _
     exact absurd h hw
  ·rename_i hc
   exact absurd hq hc
theorem yK4 {data : List UInt8} : ∀ (L : List En) (many : Nat) (out : List It), (mbR data many out L).1 ≠ 0 → (mbR data many out L).2 = []
 | [], _, _, h => absurd rfl h
 | x :: r, many, out, h => by
  rw [mbR] at h ⊢
  split
  ·rename_i hw
   rw [if_pos hw] at h
   exact yK4 r _ _ h
  ·rfl
theorem zO1 {L : List En} (hE : jF5 L) (data : List UInt8) : ChOk (mbQ L data).2 := by
 unfold mbQ
 split
 ·rename_i hr
  have hq : rowQ 0 L = 0 := by
   unfold rowC at hr
   split at hr
   ·cases hr
   ·exact hr
  by_cases h0 : (mbR data 0 [] L).1 = 0
  ·exact yK5 data L 0 0 [] hE hq qR (fun e he => by cases he) rfl (by omega) _ (Prod.ext h0 rfl)
  ·rw [yK4 L 0 [] h0]; exact ChOk.nil
 ·exact ChOk.nil
end V
end Go.Proofs.YteofkgedfjffcaaGreatDoor
