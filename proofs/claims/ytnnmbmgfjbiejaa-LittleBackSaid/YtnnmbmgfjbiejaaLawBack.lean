/- The law LittleBack: numbers that are laid one behind the other are taken off in that order, each modulo what its bytes hold, and nothing is left; with one byte less the last one is not there. No conditions. -/
import Derived.Test.YtnnmbmgfjbiejaaLittle9
import Derived.Test.YtnnmbmgfjbiejaaOpen2
import Derived.Deep.DeepCutAuto
namespace Go.Proofs.Ytnnmbmgfjbiejaa
open Go.RowKit
set_option linter.unusedVariables false
set_option linter.unusedSimpArgs false
/-- How many bytes the k-th number has. -/
def szN (q : List UInt8) (k : Nat) : Nat := 1 + (q.getD k 0).toNat % 8
theorem szN_bd (q : List UInt8) (k : Nat) : 1 ≤ szN q k ∧ szN q k ≤ 8 := by unfold szN; omega
/-- The bytes of the first k numbers. -/
def encB (l : List Nat) (q : List UInt8) : Nat → List UInt8
  | 0 => []
  | k + 1 => encB l q k ++ leB (szN q k) (l.getD k 0)
theorem encB_le (l : List Nat) (q : List UInt8) : ∀ k, (encB l q k).length ≤ 8 * k
  | 0 => by simp [encB]
  | k + 1 => by
    have := encB_le l q k
    have := szN_bd q k
    simp only [encB, List.length_append, leB_length]
    omega
theorem encB_succ (l : List Nat) (q : List UInt8) (k : Nat) : (encB l q (k + 1)).length = (encB l q k).length + szN q k := by
  simp only [encB, List.length_append, leB_length]
theorem encB_mono (l : List Nat) (q : List UInt8) (k : Nat) : ∀ m, k ≤ m → ∃ r, encB l q m = encB l q k ++ r
  | 0, h => ⟨[], by have : k = 0 := by omega
                    subst this; simp⟩
  | m + 1, h => by
    rcases Nat.lt_or_ge m k with h' | h'
    · have : k = m + 1 := by omega
      subst this
      exact ⟨[], by simp⟩
    · obtain ⟨r, e⟩ := encB_mono l q k m h'
      exact ⟨r ++ leB (szN q m) (l.getD m 0), by rw [encB, e, List.append_assoc]⟩
theorem numL_leB : ∀ n x, numL (leB n x) = x % 256 ^ n
  | 0, x => by simp [leB, numL, Nat.mod_one]
  | n + 1, x => by
    rw [leB, numL, numL_leB n, Nat.pow_succ, Nat.mul_comm (256 ^ n), Nat.mod_mul]
    have : (UInt8.ofNat (x % 256)).toNat = x % 256 := by simp
    rw [this]
theorem wrap_sz (q : List UInt8) (k : Nat) (h : k < q.length) : IntKind.i64.wrap (1 + IntKind.i64.wrap ((q[k].toNat : Int).tmod 8)) = (szN q k : Int) := by
  have e : szN q k = 1 + q[k].toNat % 8 := by simp [szN, List.getD, h]
  rw [e]
  generalize q[k].toNat = b
  rw [Int.tmod_eq_emod_of_nonneg (by omega), IntKind.wrap_i64, IntKind.wrap_i64]
  omega
theorem leB_take : ∀ n m x, m ≤ n → (leB n x).take m = leB m x
  | n, 0, x, _ => by simp [leB]
  | 0, m + 1, x, h => by omega
  | n + 1, m + 1, x, h => by simp only [leB, List.take_succ_cons]; rw [leB_take n m _ (by omega)]
theorem own_cap {w : World} {base : Nat} {e : TypeId} {size : Nat} {A : Option Addr} {n c : Nat} {xs : List Value} (h : w.ownsRow base e size (.slice A n c) n xs) : n ≤ c := by
  rcases h.2 with ⟨hv, hn⟩ | ⟨g, cap, cur, hv, _, _, hc, _⟩
  · omega
  · injection hv with _ _ hc2
    omega
theorem Rd.take {w : World} {A : Option Addr} {n m : Nat} {xs : List Value} (h : Rd w 1 A n xs) (hm : m ≤ n) (hA : A ≠ none) : Rd w 1 A m (xs.take m) := by
  refine ⟨by rw [List.length_take, h.1]; omega, fun e => absurd e hA, fun hp => ?_⟩
  obtain ⟨g, o, e, hg, hc⟩ := h.2.2 (by omega)
  refine ⟨g, o, e, hg, fun j u hu => hc j u ?_⟩
  have hj : j < m := by
    have := (List.getElem?_eq_some_iff.1 hu).1
    rw [List.length_take] at this
    omega
  rwa [List.getElem?_take_of_lt hj] at hu
theorem take_enc (P L R : List UInt8) (h : L.length ≤ 8 ∧ 1 ≤ L.length) :
    takeT (str (P ++ L ++ R)) P.length 0 L.length (fitsB L.length) = str L ∧ takeP (str (P ++ L ++ R)) P.length 0 L.length (fitsB L.length) = (P.length : Int) + L.length ∧ takeE (str (P ++ L ++ R)) P.length 0 L.length (fitsB L.length) = 0 := by
  have hf : fitsB (L.length : Int) = true := by simp [fitsB]; omega
  have hst : stands (str (P ++ L ++ R)) P.length = true := by simp [stands, str_size]; omega
  have e : takeE (str (P ++ L ++ R)) P.length 0 L.length (fitsB L.length) = 0 := by
    rw [hf]
    simp only [takeE, hst, str_size, List.length_append]
    rw [if_neg (by omega), if_neg (by simp), if_neg (by omega)]
  refine ⟨?_, ?_, e⟩
  · unfold takeT
    rw [if_pos e, str_extract, Int.toNat_natCast, show ((P.length : Int) + (L.length : Int)).toNat - P.length = L.length from by omega, List.append_assoc, List.drop_left, List.take_left]
  · unfold takeP
    rw [if_pos e]
theorem take_round (l : List Nat) (q : List UInt8) (k : Nat) (hk : k < l.length) (B : List UInt8) (hB : encB l q l.length = B) (n : Nat) (hn : szN q k = n) (E : Nat) (hE : (encB l q k).length = E) :
    takeT (str B) E 0 n (fitsB n) = str (leB n (l.getD k 0)) ∧ takeP (str B) E 0 n (fitsB n) = (E : Int) + n ∧ takeE (str B) E 0 n (fitsB n) = 0 := by
  obtain ⟨R, e⟩ := encB_mono l q (k + 1) l.length (by omega)
  rw [hB] at e
  have h := take_enc (encB l q k) (leB (szN q k) (l.getD k 0)) R (by have := szN_bd q k; rw [leB_length]; omega)
  rw [leB_length, ← encB.eq_2, ← e, hn, hE] at h
  exact h
theorem take_last (P L : List UInt8) (h : L.length ≤ 8 ∧ 1 ≤ L.length) : takeP (str ((P ++ L).take ((P ++ L).length - 1))) P.length 0 L.length (fitsB L.length) = P.length ∧ takeE (str ((P ++ L).take ((P ++ L).length - 1))) P.length 0 L.length (fitsB L.length) = 3 := by
  have hf : fitsB (L.length : Int) = true := by simp [fitsB]; omega
  have hsz : (str ((P ++ L).take ((P ++ L).length - 1))).size = P.length + L.length - 1 := by rw [str_size]; simp
  have hst : stands (str ((P ++ L).take ((P ++ L).length - 1))) P.length = true := by simp only [stands, hsz, decide_eq_true_eq]; omega
  have e : takeE (str ((P ++ L).take ((P ++ L).length - 1))) P.length 0 L.length (fitsB L.length) = 3 := by
    rw [hf]
    simp only [takeE, hst, hsz]
    simp
    omega
  refine ⟨?_, e⟩
  unfold takeP
  rw [if_neg (by rw [e]; omega)]
/-- What the scan of the text that lacks a byte holds behind k numbers. -/
def LastRel (l : List Nat) (q : List UInt8) (k : Nat) (P Er : Int) : Prop := (k < l.length → P = ((encB l q k).length : Nat) ∧ Er = 0) ∧ (k = l.length → Er = 3)
theorem last_round (l : List Nat) (q : List UInt8) (k : Nat) (hk : k < l.length) (B T : List UInt8) (hB : encB l q l.length = B) (hT : B.take (B.length - 1) = T) (E : Nat) (hE : (encB l q k).length = E) :
    LastRel l q (k + 1) (takeP (str T) E 0 (szN q k) (fitsB (szN q k))) (takeE (str T) E 0 (szN q k) (fitsB (szN q k))) := by
  have hs := szN_bd q k
  have hl : (leB (szN q k) (l.getD k 0)).length = szN q k := leB_length _ _
  refine ⟨fun h => ?_, fun h => ?_⟩
  · obtain ⟨R, e⟩ := encB_mono l q (k + 1) l.length (by omega)
    have hR : 1 ≤ R.length := by
      obtain ⟨R2, e2⟩ := encB_mono l q (k + 1 + 1) l.length (by omega)
      have h3 := congrArg List.length (e.symm.trans e2)
      rw [List.length_append, List.length_append, encB_succ l q (k + 1)] at h3
      have := szN_bd q (k + 1)
      omega
    rw [hB] at e
    have hTe : T = encB l q k ++ leB (szN q k) (l.getD k 0) ++ R.take (R.length - 1) := by
      rw [← hT, e, List.length_append, List.take_append]
      rw [List.take_of_length_le (by omega), encB]
      congr 2
      omega
    have h4 := take_enc (encB l q k) (leB (szN q k) (l.getD k 0)) (R.take (R.length - 1)) (by rw [hl]; omega)
    rw [hl, ← hTe, hE] at h4
    rw [h4.2.1, h4.2.2, encB_succ, hE]
    exact ⟨by omega, rfl⟩
  · have hTe : T = (encB l q k ++ leB (szN q k) (l.getD k 0)).take ((encB l q k ++ leB (szN q k) (l.getD k 0)).length - 1) := by
      rw [← hT, ← hB, ← h, encB]
    have h4 := take_last (encB l q k) (leB (szN q k) (l.getD k 0)) (by rw [hl]; omega)
    rw [hl, ← hTe, hE] at h4
    exact h4.2
set_option maxRecDepth 100000 in
set_option maxHeartbeats 4000000 in
theorem LittleBack_walk (A A' : Option Addr) (c c' : Nat) (l : List Nat) (q : List UInt8) (w : World) (hr : Rd w 1 A l.length (uv l)) (hq : Rd w 1 A' q.length (bv q)) (hl : l.length ≤ maxLen) (hql : q.length ≤ maxLen) (hx : ∀ x ∈ l, x < 18446744073709551616) :
    Calls Try.prog 6 #[.slice A l.length c, .slice A' q.length c'] w fun e w' => e = .returned (.bool true) ∧ Bel w w' := by
  unfold maxLen at hl hql
  by_cases h0 : l.length = 0
  · obtain rfl : l = [] := List.eq_nil_of_length_eq_zero h0
    go_enter Try.func6, Try.ntmps6
    go_wp2_with (go_at_call 8; refine (awake_any _).mono ?_; rintro e w1 ⟨rfl, hb1⟩)
    go_ret
    exact ⟨rfl, (by repeat (first | exact Bel.refl _ | exact Bel.drew (Bel.refl _) | refine Bel.drew ?_ | refine Bel.drewN ?_ _ | refine Bel.alloc ?_ _ | refine Bel.set ?_ (by simp; try omega) _ | refine Bel.trans ?_ (by assumption)))⟩
  have hne : ((l.length : Int) == 0) = false := beq_eq_false_iff_ne.2 (by omega)
  by_cases h40 : 40 < l.length
  · clear h0
    go_enter Try.func6, Try.ntmps6
    go_wp2_with (go_at_call 8; refine (awake_any _).mono ?_; rintro e w1 ⟨rfl, hb1⟩)
    go_ret
    exact ⟨rfl, (by repeat (first | exact Bel.refl _ | exact Bel.drew (Bel.refl _) | refine Bel.drew ?_ | refine Bel.drewN ?_ _ | refine Bel.alloc ?_ _ | refine Bel.set ?_ (by simp; try omega) _ | refine Bel.trans ?_ (by assumption)))⟩
  by_cases hlq : q.length < l.length
  · have h40' : l.length ≤ 40 := by omega
    clear h0
    go_enter Try.func6, Try.ntmps6
    go_wp2_with (go_at_call 8; refine (awake_any _).mono ?_; rintro e w1 ⟨rfl, hb1⟩)
    go_ret
    exact ⟨rfl, (by repeat (first | exact Bel.refl _ | exact Bel.drew (Bel.refl _) | refine Bel.drew ?_ | refine Bel.drewN ?_ _ | refine Bel.alloc ?_ _ | refine Bel.set ?_ (by simp; try omega) _ | refine Bel.trans ?_ (by assumption)))⟩
  go_enter Try.func6, Try.ntmps6
  go_wp2_with fail
  go_loopw [5, 6] (fun o i wr => ∃ (k : Nat) (Ao : Option Addr) (co : Nat), k ≤ l.length ∧ i = .int .i64 k ∧ o = .slice Ao (encB l q k).length co ∧ Rd wr 1 Ao (encB l q k).length (bv (encB l q k)) ∧ (Ao = none → co = 0) ∧ (encB l q k).length ≤ co ∧ Bel w wr) (fun _ i _ => l.length - (intOf i).toNat)
  case atStart => exact ⟨0, none, 0, Nat.zero_le _, rfl, rfl, Rd.nil _ _, fun _ => rfl, Nat.le_refl _, Bel.refl _⟩
  case round =>
    obtain ⟨k, Ao, co, hk, rfl, rfl, ho, hAo, hco, hbw⟩ := hrel
    by_cases hlt : k < l.length
    · obtain ⟨g1, o1, hA, hg1, hc1⟩ := hr.some_ (by omega)
      obtain ⟨g2, o2, hA', hg2, hc2⟩ := hq.some_ (by omega)
      subst hA
      subst hA'
      have hcx : ∀ W, Bel wr W → W.cell? ⟨g1, o1 + k, none⟩ = some (.int .u64 (l[k] : Int)) := fun W hW => ((Bel.took (hbw.trans hW)).1 g1 (o1 + k) hg1).trans (hc1 k _ (uv_at l k hlt))
      have hcq : ∀ W, Bel wr W → W.cell? ⟨g2, o2 + k, none⟩ = some (.int .u8 ((q[k]'(by omega)).toNat : Int)) := fun W hW => ((Bel.took (hbw.trans hW)).1 g2 (o2 + k) hg2).trans (hc2 k _ (bv_at q k (by omega)))
      have hq1 : (k : Int) < (q.length : Int) := by omega
      have hkq : k < q.length := by omega
      have HS : Hid (IntKind.i64.wrap (1 + IntKind.i64.wrap ((q[k].toNat : Int).tmod 8)) = (szN q k : Int)) := hide (wrap_sz q k hkq)
      have hlx : l[k] < 18446744073709551616 := by
        exact hx l[k] (List.getElem_mem hlt)
      have hel := encB_le l q k
      have hsz := szN_bd q k
      have HP : Hid (putL (encB l q k) (szN q k) ((l[k] : Nat) : Int).toNat = encB l q (k + 1)) := hide (by simp only [putL, Int.toNat_natCast, if_pos (show 1 ≤ (szN q k : Int) ∧ (szN q k : Int) ≤ 8 from by omega), encB, List.getD, List.getElem?_eq_getElem hlt, Option.getD_some])
      go_wp2_with fail
      go_region_held3 (fun W => Bel wr W) (first | assumption | exact Bel.refl _ | exact (Bel.refl _).drew | (refine Bel.trans ?_ (by assumption); assumption))
        (first | (go_at_call 9; rw [HS.out]; refine (put_any Ao co (encB l q k) (szN q k : Int) (l[k] : Nat) _ (ho.bel (by repeat (first | exact Bel.refl _ | exact Bel.drew (Bel.refl _) | refine Bel.drew ?_ | refine Bel.drewN ?_ _ | refine Bel.alloc ?_ _ | refine Bel.set ?_ (by simp; try omega) _ | refine Bel.trans ?_ (by assumption)))) hAo (by omega) (by omega)).mono ?_; rintro e w7 ⟨A7, c7, rfl, hown7, hA7, hb7⟩; rw [HP.out] at hown7 ⊢))
      have hbw7 : Bel wr w7 := by assumption
      go_wp2_with fail
      go_roundw
      case rel => exact ⟨k + 1, A7, c7, by omega, by go_num, rfl, Rd.of_own hown7, fun h => (hA7 h).2, own_cap hown7, hbw.trans hbw7⟩
      case measure => simp [intOf]; omega
    · have hke : k = l.length := by omega
      subst hke
      generalize hB : encB l q l.length = B at *
      have HB := hide hB
      clear hB
      have hcv : ∀ W, Bel wr W → (convert 22 9 (.slice Ao B.length co)).run Try.prog W = .ok (.string (str B)) W := fun W hW => run_str (ho.bel hW) _ _ _ Try.underlying22 Try.underlying5 Try.underlying9
      go_wp2_with fail
      obtain ⟨wo, rfl⟩ : ∃ wo : World, wo = wr := ⟨_, rfl⟩
      go_loopw [8] (fun i wr => ∃ k : Nat, k ≤ l.length ∧ i = .int .i64 k ∧ Box wr wo.heap.size 31 #[.string (str B), .int .i64 ((encB l q k).length : Nat), .int .i64 0] ∧ Bel wo wr) (fun i _ => l.length - (intOf i).toNat)
      case atStart => exact ⟨0, Nat.zero_le _, rfl, Box.new _ _ _, (by repeat (first | exact Bel.refl _ | exact Bel.drew (Bel.refl _) | refine Bel.drew ?_ | refine Bel.drewN ?_ _ | refine Bel.alloc ?_ _ | refine Bel.set ?_ (by simp; try omega) _ | refine Bel.trans ?_ (by assumption)))⟩
      case round =>
        obtain ⟨k, hk, rfl, hbox, hbr⟩ := hrel
        obtain ⟨b0, b1, b2, bf, bz⟩ := hbox.three
        by_cases hlt : k < l.length
        · obtain ⟨g1, o1, hA, hg1, hc1⟩ := hr.some_ (by omega)
          obtain ⟨g2, o2, hA', hg2, hc2⟩ := hq.some_ (by omega)
          subst hA
          subst hA'
          have hcx : ∀ W, Bel wr W → W.cell? ⟨g1, o1 + k, none⟩ = some (.int .u64 (l[k] : Int)) := fun W hW => ((Bel.took (hbw.trans (hbr.trans hW))).1 g1 (o1 + k) hg1).trans (hc1 k _ (uv_at l k hlt))
          have hcq : ∀ W, Bel wr W → W.cell? ⟨g2, o2 + k, none⟩ = some (.int .u8 ((q[k]'(by omega)).toNat : Int)) := fun W hW => ((Bel.took (hbw.trans (hbr.trans hW))).1 g2 (o2 + k) hg2).trans (hc2 k _ (bv_at q k (by omega)))
          have hq1 : (k : Int) < (q.length : Int) := by omega
          have hkq : k < q.length := by omega
          have HS : Hid (1 + (q[k].toNat : Int) % 8 = (szN q k : Int)) := hide (by simp [szN, List.getD, hkq])
          go_wp2_with fail
          rw [HS.out]
          have hn := szN_bd q k
          have hE := encB_le l q k
          have hBl : B.length ≤ 8 * l.length := by rw [← HB.out]; exact encB_le l q l.length
          have hT := take_round l q k hlt B HB.out (szN q k) rfl (encB l q k).length rfl
          have hxk : l.getD k 0 = l[k] := by simp [List.getD, hlt]
          rw [hxk] at hT
          have hx64 : l[k] < 18446744073709551616 := hx l[k] (List.getElem_mem hlt)
          generalize hxe : l[k] = x at *
          generalize hne' : szN q k = n at *
          generalize hEe : (encB l q k).length = E at *
          have HE := hide hEe
          have HN := hide hne'
          have HT := hide hT
          clear hT hxk hxe hne' hEe HS
          rcases (by omega : n = 1 ∨ n = 2 ∨ n = 3 ∨ n = 4 ∨ n = 5 ∨ n = 6 ∨ n = 7 ∨ n = 8) with rfl | rfl | rfl | rfl | rfl | rfl | rfl | rfl
          · have HX : Hid (((numL (str (leB 1 x)).data.toList : Nat) : Int) = (x : Int) % 256) := hide (by rw [str_data, numL_leB]; simp)
            have hwr : IntKind.u64.wrap ((x : Int) * 72057594037927936) / 72057594037927936 = (x : Int) % 256 := by rw [IntKind.wrap_u64]; omega
            refine (num_any (str B) E 0 1 _ (by rw [str_size]; unfold maxLen; omega)).mono ?_
            rintro e w7 ⟨rfl, hb7⟩
            have t1 : takeT (str B) E 0 1 (fitsB 1) = str (leB 1 x) := HT.out.1
            have t2 : takeP (str B) E 0 1 (fitsB 1) = (E : Int) + 1 := HT.out.2.1
            have t3 : takeE (str B) E 0 1 (fitsB 1) = 0 := HT.out.2.2
            rw [t1, t2, t3, HX.out]
            clear t1 t2 t3
            obtain ⟨hb7c, hb7f, hb7z⟩ := Bel.took hb7; have hb7z0 : wo.heap.size < w7.heap.size := (by (try simp at hb7z); omega); clear hb7z
            have hcx7 := hcx w7 hb7
            go_wp2_with fail
            go_roundw
            case rel =>
              have e : (encB l q (k + 1)).length = E + 1 := by rw [encB_succ, HE.out, HN.out]
              refine ⟨k + 1, by omega, by go_num, ?_, (by repeat (first | exact Bel.refl _ | exact Bel.drew (Bel.refl _) | refine Bel.drew ?_ | refine Bel.drewN ?_ _ | refine Bel.alloc ?_ _ | refine Bel.set ?_ (by simp; try omega) _ | refine Bel.trans ?_ (by assumption)))⟩
              rw [e]
              exact ((((hbox.bel hb7).set 0 _).set 1 _).set 2 _).alloc _
            case measure => simp [intOf]; omega
          · have HX : Hid (((numL (str (leB 2 x)).data.toList : Nat) : Int) = (x : Int) % 65536) := hide (by rw [str_data, numL_leB]; simp)
            have hwr : IntKind.u64.wrap ((x : Int) * 281474976710656) / 281474976710656 = (x : Int) % 65536 := by rw [IntKind.wrap_u64]; omega
            refine (num_any (str B) E 0 2 _ (by rw [str_size]; unfold maxLen; omega)).mono ?_
            rintro e w7 ⟨rfl, hb7⟩
            have t1 : takeT (str B) E 0 2 (fitsB 2) = str (leB 2 x) := HT.out.1
            have t2 : takeP (str B) E 0 2 (fitsB 2) = (E : Int) + 2 := HT.out.2.1
            have t3 : takeE (str B) E 0 2 (fitsB 2) = 0 := HT.out.2.2
            rw [t1, t2, t3, HX.out]
            clear t1 t2 t3
            obtain ⟨hb7c, hb7f, hb7z⟩ := Bel.took hb7; have hb7z0 : wo.heap.size < w7.heap.size := (by (try simp at hb7z); omega); clear hb7z
            have hcx7 := hcx w7 hb7
            go_wp2_with fail
            go_roundw
            case rel =>
              have e : (encB l q (k + 1)).length = E + 2 := by rw [encB_succ, HE.out, HN.out]
              refine ⟨k + 1, by omega, by go_num, ?_, (by repeat (first | exact Bel.refl _ | exact Bel.drew (Bel.refl _) | refine Bel.drew ?_ | refine Bel.drewN ?_ _ | refine Bel.alloc ?_ _ | refine Bel.set ?_ (by simp; try omega) _ | refine Bel.trans ?_ (by assumption)))⟩
              rw [e]
              exact ((((hbox.bel hb7).set 0 _).set 1 _).set 2 _).alloc _
            case measure => simp [intOf]; omega
          · have HX : Hid (((numL (str (leB 3 x)).data.toList : Nat) : Int) = (x : Int) % 16777216) := hide (by rw [str_data, numL_leB]; simp)
            have hwr : IntKind.u64.wrap ((x : Int) * 1099511627776) / 1099511627776 = (x : Int) % 16777216 := by rw [IntKind.wrap_u64]; omega
            refine (num_any (str B) E 0 3 _ (by rw [str_size]; unfold maxLen; omega)).mono ?_
            rintro e w7 ⟨rfl, hb7⟩
            have t1 : takeT (str B) E 0 3 (fitsB 3) = str (leB 3 x) := HT.out.1
            have t2 : takeP (str B) E 0 3 (fitsB 3) = (E : Int) + 3 := HT.out.2.1
            have t3 : takeE (str B) E 0 3 (fitsB 3) = 0 := HT.out.2.2
            rw [t1, t2, t3, HX.out]
            clear t1 t2 t3
            obtain ⟨hb7c, hb7f, hb7z⟩ := Bel.took hb7; have hb7z0 : wo.heap.size < w7.heap.size := (by (try simp at hb7z); omega); clear hb7z
            have hcx7 := hcx w7 hb7
            go_wp2_with fail
            go_roundw
            case rel =>
              have e : (encB l q (k + 1)).length = E + 3 := by rw [encB_succ, HE.out, HN.out]
              refine ⟨k + 1, by omega, by go_num, ?_, (by repeat (first | exact Bel.refl _ | exact Bel.drew (Bel.refl _) | refine Bel.drew ?_ | refine Bel.drewN ?_ _ | refine Bel.alloc ?_ _ | refine Bel.set ?_ (by simp; try omega) _ | refine Bel.trans ?_ (by assumption)))⟩
              rw [e]
              exact ((((hbox.bel hb7).set 0 _).set 1 _).set 2 _).alloc _
            case measure => simp [intOf]; omega
          · have HX : Hid (((numL (str (leB 4 x)).data.toList : Nat) : Int) = (x : Int) % 4294967296) := hide (by rw [str_data, numL_leB]; simp)
            have hwr : IntKind.u64.wrap ((x : Int) * 4294967296) / 4294967296 = (x : Int) % 4294967296 := by rw [IntKind.wrap_u64]; omega
            refine (num_any (str B) E 0 4 _ (by rw [str_size]; unfold maxLen; omega)).mono ?_
            rintro e w7 ⟨rfl, hb7⟩
            have t1 : takeT (str B) E 0 4 (fitsB 4) = str (leB 4 x) := HT.out.1
            have t2 : takeP (str B) E 0 4 (fitsB 4) = (E : Int) + 4 := HT.out.2.1
            have t3 : takeE (str B) E 0 4 (fitsB 4) = 0 := HT.out.2.2
            rw [t1, t2, t3, HX.out]
            clear t1 t2 t3
            obtain ⟨hb7c, hb7f, hb7z⟩ := Bel.took hb7; have hb7z0 : wo.heap.size < w7.heap.size := (by (try simp at hb7z); omega); clear hb7z
            have hcx7 := hcx w7 hb7
            go_wp2_with fail
            go_roundw
            case rel =>
              have e : (encB l q (k + 1)).length = E + 4 := by rw [encB_succ, HE.out, HN.out]
              refine ⟨k + 1, by omega, by go_num, ?_, (by repeat (first | exact Bel.refl _ | exact Bel.drew (Bel.refl _) | refine Bel.drew ?_ | refine Bel.drewN ?_ _ | refine Bel.alloc ?_ _ | refine Bel.set ?_ (by simp; try omega) _ | refine Bel.trans ?_ (by assumption)))⟩
              rw [e]
              exact ((((hbox.bel hb7).set 0 _).set 1 _).set 2 _).alloc _
            case measure => simp [intOf]; omega
          · have HX : Hid (((numL (str (leB 5 x)).data.toList : Nat) : Int) = (x : Int) % 1099511627776) := hide (by rw [str_data, numL_leB]; simp)
            have hwr : IntKind.u64.wrap ((x : Int) * 16777216) / 16777216 = (x : Int) % 1099511627776 := by rw [IntKind.wrap_u64]; omega
            refine (num_any (str B) E 0 5 _ (by rw [str_size]; unfold maxLen; omega)).mono ?_
            rintro e w7 ⟨rfl, hb7⟩
            have t1 : takeT (str B) E 0 5 (fitsB 5) = str (leB 5 x) := HT.out.1
            have t2 : takeP (str B) E 0 5 (fitsB 5) = (E : Int) + 5 := HT.out.2.1
            have t3 : takeE (str B) E 0 5 (fitsB 5) = 0 := HT.out.2.2
            rw [t1, t2, t3, HX.out]
            clear t1 t2 t3
            obtain ⟨hb7c, hb7f, hb7z⟩ := Bel.took hb7; have hb7z0 : wo.heap.size < w7.heap.size := (by (try simp at hb7z); omega); clear hb7z
            have hcx7 := hcx w7 hb7
            go_wp2_with fail
            go_roundw
            case rel =>
              have e : (encB l q (k + 1)).length = E + 5 := by rw [encB_succ, HE.out, HN.out]
              refine ⟨k + 1, by omega, by go_num, ?_, (by repeat (first | exact Bel.refl _ | exact Bel.drew (Bel.refl _) | refine Bel.drew ?_ | refine Bel.drewN ?_ _ | refine Bel.alloc ?_ _ | refine Bel.set ?_ (by simp; try omega) _ | refine Bel.trans ?_ (by assumption)))⟩
              rw [e]
              exact ((((hbox.bel hb7).set 0 _).set 1 _).set 2 _).alloc _
            case measure => simp [intOf]; omega
          · have HX : Hid (((numL (str (leB 6 x)).data.toList : Nat) : Int) = (x : Int) % 281474976710656) := hide (by rw [str_data, numL_leB]; simp)
            have hwr : IntKind.u64.wrap ((x : Int) * 65536) / 65536 = (x : Int) % 281474976710656 := by rw [IntKind.wrap_u64]; omega
            refine (num_any (str B) E 0 6 _ (by rw [str_size]; unfold maxLen; omega)).mono ?_
            rintro e w7 ⟨rfl, hb7⟩
            have t1 : takeT (str B) E 0 6 (fitsB 6) = str (leB 6 x) := HT.out.1
            have t2 : takeP (str B) E 0 6 (fitsB 6) = (E : Int) + 6 := HT.out.2.1
            have t3 : takeE (str B) E 0 6 (fitsB 6) = 0 := HT.out.2.2
            rw [t1, t2, t3, HX.out]
            clear t1 t2 t3
            obtain ⟨hb7c, hb7f, hb7z⟩ := Bel.took hb7; have hb7z0 : wo.heap.size < w7.heap.size := (by (try simp at hb7z); omega); clear hb7z
            have hcx7 := hcx w7 hb7
            go_wp2_with fail
            go_roundw
            case rel =>
              have e : (encB l q (k + 1)).length = E + 6 := by rw [encB_succ, HE.out, HN.out]
              refine ⟨k + 1, by omega, by go_num, ?_, (by repeat (first | exact Bel.refl _ | exact Bel.drew (Bel.refl _) | refine Bel.drew ?_ | refine Bel.drewN ?_ _ | refine Bel.alloc ?_ _ | refine Bel.set ?_ (by simp; try omega) _ | refine Bel.trans ?_ (by assumption)))⟩
              rw [e]
              exact ((((hbox.bel hb7).set 0 _).set 1 _).set 2 _).alloc _
            case measure => simp [intOf]; omega
          · have HX : Hid (((numL (str (leB 7 x)).data.toList : Nat) : Int) = (x : Int) % 72057594037927936) := hide (by rw [str_data, numL_leB]; simp)
            have hwr : IntKind.u64.wrap ((x : Int) * 256) / 256 = (x : Int) % 72057594037927936 := by rw [IntKind.wrap_u64]; omega
            refine (num_any (str B) E 0 7 _ (by rw [str_size]; unfold maxLen; omega)).mono ?_
            rintro e w7 ⟨rfl, hb7⟩
            have t1 : takeT (str B) E 0 7 (fitsB 7) = str (leB 7 x) := HT.out.1
            have t2 : takeP (str B) E 0 7 (fitsB 7) = (E : Int) + 7 := HT.out.2.1
            have t3 : takeE (str B) E 0 7 (fitsB 7) = 0 := HT.out.2.2
            rw [t1, t2, t3, HX.out]
            clear t1 t2 t3
            obtain ⟨hb7c, hb7f, hb7z⟩ := Bel.took hb7; have hb7z0 : wo.heap.size < w7.heap.size := (by (try simp at hb7z); omega); clear hb7z
            have hcx7 := hcx w7 hb7
            go_wp2_with fail
            go_roundw
            case rel =>
              have e : (encB l q (k + 1)).length = E + 7 := by rw [encB_succ, HE.out, HN.out]
              refine ⟨k + 1, by omega, by go_num, ?_, (by repeat (first | exact Bel.refl _ | exact Bel.drew (Bel.refl _) | refine Bel.drew ?_ | refine Bel.drewN ?_ _ | refine Bel.alloc ?_ _ | refine Bel.set ?_ (by simp; try omega) _ | refine Bel.trans ?_ (by assumption)))⟩
              rw [e]
              exact ((((hbox.bel hb7).set 0 _).set 1 _).set 2 _).alloc _
            case measure => simp [intOf]; omega
          · have HX : Hid (((numL (str (leB 8 x)).data.toList : Nat) : Int) = (x : Int) % 18446744073709551616) := hide (by rw [str_data, numL_leB]; simp)
            have hwr : IntKind.u64.wrap ((x : Int) * 1) / 1 = (x : Int) % 18446744073709551616 := by rw [IntKind.wrap_u64]; omega
            refine (num_any (str B) E 0 8 _ (by rw [str_size]; unfold maxLen; omega)).mono ?_
            rintro e w7 ⟨rfl, hb7⟩
            have t1 : takeT (str B) E 0 8 (fitsB 8) = str (leB 8 x) := HT.out.1
            have t2 : takeP (str B) E 0 8 (fitsB 8) = (E : Int) + 8 := HT.out.2.1
            have t3 : takeE (str B) E 0 8 (fitsB 8) = 0 := HT.out.2.2
            rw [t1, t2, t3, HX.out]
            clear t1 t2 t3
            obtain ⟨hb7c, hb7f, hb7z⟩ := Bel.took hb7; have hb7z0 : wo.heap.size < w7.heap.size := (by (try simp at hb7z); omega); clear hb7z
            have hcx7 := hcx w7 hb7
            go_wp2_with fail
            go_roundw
            case rel =>
              have e : (encB l q (k + 1)).length = E + 8 := by rw [encB_succ, HE.out, HN.out]
              refine ⟨k + 1, by omega, by go_num, ?_, (by repeat (first | exact Bel.refl _ | exact Bel.drew (Bel.refl _) | refine Bel.drew ?_ | refine Bel.drewN ?_ _ | refine Bel.alloc ?_ _ | refine Bel.set ?_ (by simp; try omega) _ | refine Bel.trans ?_ (by assumption)))⟩
              rw [e]
              exact ((((hbox.bel hb7).set 0 _).set 1 _).set 2 _).alloc _
            case measure => simp [intOf]; omega
        · have hke : k = l.length := by omega
          subst hke
          rw [HB.out] at hbox b1
          have hBl : B.length ≤ 8 * l.length := by rw [← HB.out]; exact encB_le l q l.length
          have hBm : (str B).size ≤ maxLen := by rw [str_size]; unfold maxLen; omega
          have hB1 : 1 ≤ B.length := by
            rw [← HB.out]
            obtain ⟨j, hj⟩ : ∃ j, l.length = j + 1 := ⟨l.length - 1, by omega⟩
            rw [hj, encB_succ]
            have := szN_bd q j
            omega
          obtain ⟨go, oo, hAo2, hgo, _⟩ := ho.some_ (by omega)
          subst hAo2
          have hbI : (0 : Int) ≤ (B.length : Int) - 1 ∧ (B.length : Int) - 1 ≤ (co : Int) := by omega
          have hbp := ho.take (m := B.length - 1) (by omega) (by simp)
          rw [show bv B = B.map fun b => Value.int .u8 (b.toNat : Int) from rfl, ← List.map_take] at hbp
          have hcv2 : ∀ W, Bel wo W → (convert 22 9 (.slice (some ⟨go, oo, none⟩) (B.length - 1) co)).run Try.prog W = .ok (.string (str (B.take (B.length - 1)))) W := fun W hW => run_str (Rd.bel hbp hW) _ _ _ Try.underlying22 Try.underlying5 Try.underlying9
          have hbne : ((B.length : Int) == 0) = false := beq_eq_false_iff_ne.2 (by omega)
          have hst : stands (str B) B.length = true := by simp [stands, str_size]
          have HE0 : Hid (endE (str B) B.length 0 = 0) := hide (by simp [endE, hst, str_size])
          have HR0 : Hid (restS (str B) B.length 0 = str []) := hide (by simp [restS, hst, str_extract, str_size]; rfl)
          clear hst
          go_wp2_with (first | (go_at_call 19; refine (end_any _ _ _ _).mono ?_; rintro e w5 ⟨rfl, hb5⟩; rw [HE0.out]; obtain ⟨hb5c, hb5f, hb5z⟩ := Bel.took hb5; have hb5z0 : wo.heap.size < w5.heap.size := (by (try simp at hb5z); omega); clear hb5z) | (go_at_call 17; refine (rest_any _ _ _ _ hBm).mono ?_; rintro e w6 ⟨rfl, hb6⟩; rw [HR0.out]; have hw6 : Bel wo w6 := (hbr.trans hb5).trans hb6))
          generalize hTT : B.take (B.length - 1) = T at *
          have HTT := hide hTT
          have hTs : (str T).size ≤ maxLen := by rw [str_size, ← hTT, List.length_take]; unfold maxLen; omega
          clear hTT b0 b1 b2 bf hbox
          go_loopw [13] (fun i wr => ∃ (k : Nat) (P Er : Int), k ≤ l.length ∧ i = .int .i64 k ∧ Box wr w6.heap.size 31 #[.string (str T), .int .i64 P, .int .i64 Er] ∧ LastRel l q k P Er ∧ Bel w6 wr) (fun i _ => l.length - (intOf i).toNat)
          case atStart => exact ⟨0, 0, 0, Nat.zero_le _, rfl, Box.new _ _ _, ⟨fun _ => ⟨by simp [encB], rfl⟩, fun h => absurd h.symm h0⟩, (by repeat (first | exact Bel.refl _ | exact Bel.drew (Bel.refl _) | refine Bel.drew ?_ | refine Bel.drewN ?_ _ | refine Bel.alloc ?_ _ | refine Bel.set ?_ (by simp; try omega) _ | refine Bel.trans ?_ (by assumption)))⟩
          case round =>
            obtain ⟨k, P, Er, hk, rfl, hbox, hlast, hbr2⟩ := hrel
            by_cases hlt : k < l.length
            · obtain ⟨rfl, rfl⟩ := hlast.1 hlt
              generalize hEe : (encB l q k).length = E at *
              have HN := hide (last_round l q k hlt B T HB.out HTT.out E hEe)
              clear hEe hlast
              obtain ⟨b0, b1, b2, bf, bz2⟩ := hbox.three
              obtain ⟨g2, o2, hA', hg2, hc2⟩ := hq.some_ (by omega)
              subst hA'
              have hkq : k < q.length := by omega
              have hcq : wr.cell? ⟨g2, o2 + k, none⟩ = some (.int .u8 (q[k].toNat : Int)) := ((Bel.took ((hbw.trans hw6).trans hbr2)).1 g2 (o2 + k) hg2).trans (hc2 k _ (bv_at q k hkq))
              have hq1 : (k : Int) < (q.length : Int) := by omega
              have HS : Hid (IntKind.i64.wrap (1 + IntKind.i64.wrap ((q[k].toNat : Int).tmod 8)) = (szN q k : Int)) := hide (wrap_sz q k hkq)
              go_wp2_with fail
              go_region_with (first | (go_at_call 12; rw [HS.out]; refine (num_any (str T) E 0 (szN q k : Int) _ hTs).mono ?_; rintro e w7 ⟨rfl, hb7⟩; obtain ⟨d0, d1, d2, df, dz⟩ := (hbox.drew.bel hb7).three))
              all_goals
                go_wp2_with fail
                go_roundw
                case rel =>
                  refine ⟨k + 1, _, _, by omega, by go_num, ?_, HN.out, (by repeat (first | exact Bel.refl _ | exact Bel.drew (Bel.refl _) | refine Bel.drew ?_ | refine Bel.drewN ?_ _ | refine Bel.alloc ?_ _ | refine Bel.set ?_ (by simp; try omega) _ | refine Bel.trans ?_ (by assumption)))⟩
                  exact (((hbox.drew.bel hb7).set 0 _).set 1 _).set 2 _
                case measure => simp [intOf]; omega
            · have hke : k = l.length := by omega
              subst hke
              have her := hlast.2 rfl
              subst her
              clear hlast
              obtain ⟨b0, b1, b2, bf, bz2⟩ := hbox.three
              have HE0 : Hid (endE (str T) P 3 = 3) := hide (by simp [endE])
              go_wp2_with (first | (go_at_call 19; refine (end_any _ _ _ _).mono ?_; rintro e w8 ⟨rfl, hb8⟩; rw [HE0.out]) | (go_at_call 8; refine (awake_any _).mono ?_; rintro e w9 ⟨rfl, hb9⟩))
              go_ret
              exact ⟨rfl, (by repeat (first | exact Bel.refl _ | exact Bel.drew (Bel.refl _) | refine Bel.drew ?_ | refine Bel.drewN ?_ _ | refine Bel.alloc ?_ _ | refine Bel.set ?_ (by simp; try omega) _ | refine Bel.trans ?_ (by assumption)))⟩
theorem LittleBack_read {H : Type} {enc : TypeId × Value → H} (w : World) {base : Nat} {v0 v1 : Value} {d0 d1 : DataW H} {p0 p1 : List MemPlace}
    (k0 : Value.okWide Try.prog w .any base 56 v0) (h0 : DataW.Trod enc Try.prog w 0 (fun _ => true) true 56 v0 d0 p0)
    (k1 : Value.okWide Try.prog w .any base 22 v1) (h1 : DataW.Trod enc Try.prog w 0 (fun _ => true) true 22 v1 d1 p1) :
    Calls Try.prog 6 #[v0, v1] w fun e w' => e = .returned (.bool true) ∧ Bel w w' := by
  obtain ⟨A, c, l, rfl, hr, _, hl, hx⟩ := open_u64s Try.underlying56 Try.underlying23 (by kernel_rfl) k0 h0
  obtain ⟨A', c', q, rfl, hq, _, hql⟩ := open_bytes Try.underlying22 Try.underlying5 (by kernel_rfl) k1 h1
  exact LittleBack_walk A A' c c' l q w hr hq hl hql hx
namespace littleBack
open Go.ChangeShapes Go.WideShapes Go.ChangeAt Go.RowKit
theorem own : ownKnob Try.prog.godebug = none := by kernel_rfl
theorem laidOut : laidOutB Try.prog = true := by kernel_rfl
set_option maxRecDepth 100000 in
theorem lifted (os : Os) (started : os.Started) (H : Type) (enc : TypeId × Value → H) :
    ReturnsInHanded {} Try.checked os 6 .any (Rows.littleBackSpec.pre6 enc Try.prog Try.f6 Rows.littleBackRow.domain false) (Rows.littleBackSpec.post enc Try.prog Try.f6 false true false false) := by
  refine returnsInHanded_of_change (C := Try.checked) own started (by kernel_rfl) Try.func6
    (ChangeSpec.witness6 (enc := enc) (C := Try.checked) false ⟨#[], #[.slice none 0 0, .slice none 0 0], []⟩ 8 (by kernel_rfl) (by kernel_rfl) (by kernel_rfl) (by kernel_rfl)) ?_
  intro W base args ds gs before hval0 hW hcnd _
  have hval : ∀ (j : Nat) t v, Try.f6.params[j]? = some t → args[j]? = some v → Value.okWide Try.prog W .any base t v := hval0
  have hW' := hW
  obtain ⟨p, q, hA0, hV, rfl, hfz, hnd⟩ := hW
  have hA : DataW.TrodAll enc Try.prog W 0 (fun _ => true) true Try.f6.params.toList args.toList ds p := hA0
  rw [Try.params6] at hA hval
  obtain ⟨v0, vs0, d0, ds0, p0, q0, hargs, rfl, rfl, h0, r0⟩ := trodAll_cons hA
  obtain ⟨v1, vs1, d1, ds1, p1, q1, rfl, rfl, rfl, h1, r1⟩ := trodAll_cons r0
  obtain ⟨rfl, rfl, rfl⟩ := trodAll_nil r1
  obtain rfl : args = #[v0, v1] := by cases args; simp_all
  obtain ⟨rfl, rfl⟩ := trodVars_none hV
  have lt0 : ∀ x ∈ p0, x.block < W.heap.size := by obtain ⟨m, hm⟩ := h0; exact DataW.trod_lt m _ _ _ hm
  have lt1 : ∀ x ∈ p1, x.block < W.heap.size := by obtain ⟨m, hm⟩ := h1; exact DataW.trod_lt m _ _ _ hm
  refine (LittleBack_read W (hval 0 56 v0 rfl rfl) h0 (hval 1 22 v1 rfl rfl) h1).mono fun e W' ⟨he, bel0⟩ => ?_
  have bel : Below W.heap.size W W' := bel0
  subst he
  exact ⟨_, rfl, _, _, _, [], _, [], hW', trodAll_mk1 (shut_bool Try.underlying4 _), (trodAll_cons_mk (Below.trod laidOut (by kernel_rfl) (of_decide_eq_true (by kernel_rfl)) h0 bel lt0) (trodAll_cons_mk (Below.trod laidOut (by kernel_rfl) (of_decide_eq_true (by kernel_rfl)) h1 bel lt1) trodAll_mk0)), rfl, bel.frame _, fun h => by cases h⟩
theorem over : Rows.littleBackRow.holds Try.pinned (OpenSpec.ofChange Rows.littleBackSpec) :=
  OpenClaim.holds_of_wide 6 Try.f6 rfl rfl rfl rfl rfl rfl rfl ⟨rfl, rfl, rfl, rfl, rfl⟩ rfl rfl rfl rfl rfl (by kernel_rfl) Try.func6 (by kernel_rfl)
    (of_decide_eq_true (by kernel_rfl)) (by unfold Func.isWrapper; first | (rw [if_pos (by decide +kernel)]; kernel_rfl) | (rw [if_neg (by decide +kernel)]; exact ⟨rfl, rfl⟩))
    (fun os started H enc _ => lifted os started H enc)
theorem proved : Rows.LittleBackSaid := over
#print axioms proved
end littleBack
end Go.Proofs.Ytnnmbmgfjbiejaa
