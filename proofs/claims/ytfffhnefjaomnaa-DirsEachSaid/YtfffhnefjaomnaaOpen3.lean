/- How a struct of plain fields reads, parts within parts. No conditions. -/
import Derived.Test.YtfffhnefjaomnaaOpen
namespace Go.Proofs.Ytfffhnefjaomnaa
open Go.RowKit Go.ChangeShapes Go.WideShapes Go.ChangeAt Go.Joins
set_option linter.unusedVariables false
set_option linter.unusedSimpArgs false
def Scal : TypeDesc → Value → Prop
  | .bool, v => ∃ b, v = .bool b
  | .int k, v => ∃ n, v = .int k n ∧ (Lit.int k n).wf = true
  | .string, v => ∃ l, v = .string (str l) ∧ l.length ≤ maxLen
  | _, _ => False
def leavesF (lv : TypeId → Option (List TypeDesc)) (sz : TypeId → Nat) : Nat → List Field → Option (List TypeDesc)
  | _, [] => some []
  | off, f :: r => match lv f.type, leavesF lv sz (off + sz f.type) r with
    | some a, some b => bif Nat.beq f.offset off && Nat.beq a.length (sz f.type) then some (a ++ b) else none
    | _, _ => none
/-- What stands in each cell. -/
def leaves (P : Program) : Nat → TypeId → Option (List TypeDesc)
  | 0, _ => none
  | n + 1, t => match P.underlying t with
    | some .bool => some [.bool]
    | some (.int k) => some [.int k]
    | some .string => some [.string]
    | some (.struct fs) => match leavesF (leaves P n) P.cellsOf 0 fs.toList with
      | some L => bif Nat.beq L.length (P.cellsOf t) then some L else none
      | none => none
    | _ => none
inductive Alike : List TypeDesc → List Value → Prop
  | nil : Alike [] []
  | cons {d : TypeDesc} {v : Value} {L : List TypeDesc} {cs : List Value} (h : Scal d v) (t : Alike L cs) : Alike (d :: L) (v :: cs)
theorem Alike.append : ∀ {L M : List TypeDesc} {a b : List Value}, Alike L a → Alike M b → Alike (L ++ M) (a ++ b)
  | [], _, _, _, .nil, h => h
  | _ :: _, _, _, _, .cons h t, k => .cons h (t.append k)
section
variable {H : Type} {enc : TypeId × Value → H} {P : Program} {w : World} {base : Nat} {spare : Nat → Bool} {held : Bool}
theorem leavesF_ok {lv : TypeId → Option (List TypeDesc)} {fuel : Nat} {cs : List Value} (ih : ∀ t L ds x, lv t = some L → DataW.trod enc P w base spare held fuel t ds = some x → Alike L ds) :
    ∀ (fs : List Field) (off : Nat) (L : List TypeDesc) (xs : List (DataW H × List MemPlace)), leavesF lv P.cellsOf off fs = some L → fs.mapM (fun f => DataW.trod enc P w base spare held fuel f.type ((cs.drop f.offset).take (P.cellsOf f.type))) = some xs → Alike L ((cs.drop off).take L.length)
  | [], off, L, xs, h, _ => by
    obtain rfl := Option.some.inj h
    simpa using Alike.nil
  | f :: r, off, L, xs, h, hx => by
    simp only [leavesF] at h
    cases h1 : lv f.type with
    | none => simp [h1] at h
    | some a =>
      cases h2 : leavesF lv P.cellsOf (off + P.cellsOf f.type) r with
      | none => simp [h1, h2] at h
      | some b =>
        simp only [h1, h2] at h
        cases hb : Nat.beq f.offset off && Nat.beq a.length (P.cellsOf f.type) with
        | false => rw [hb] at h; cases h
        | true =>
          rw [hb] at h
          obtain rfl := Option.some.inj h
          simp only [Bool.and_eq_true] at hb
          have e1 := Nat.eq_of_beq_eq_true hb.1
          have e2 := Nat.eq_of_beq_eq_true hb.2
          rw [List.mapM_cons] at hx
          cases k1 : DataW.trod enc P w base spare held fuel f.type ((cs.drop f.offset).take (P.cellsOf f.type)) with
          | none => simp [k1] at hx
          | some y =>
            cases k2 : r.mapM (fun f => DataW.trod enc P w base spare held fuel f.type ((cs.drop f.offset).take (P.cellsOf f.type))) with
            | none => simp [k1, k2] at hx
            | some ys =>
              have h3 := ih _ _ _ _ h1 k1
              have h4 := leavesF_ok ih r _ b ys h2 k2
              rw [e1, ← e2] at h3
              rw [← e2] at h4
              rw [List.length_append, List.take_add, List.drop_drop]
              exact h3.append h4
theorem leaves_ok : ∀ (n fuel : Nat) (t : TypeId) (L : List TypeDesc) (cs : List Value) (x : DataW H × List MemPlace), leaves P n t = some L → DataW.trod enc P w base spare held fuel t cs = some x → Alike L cs
  | 0, _, _, _, _, _, h, _ => by simp [leaves] at h
  | n + 1, 0, _, _, _, _, _, h => by simp [DataW.trod] at h
  | n + 1, fuel + 1, t, L, cs, x, hL, h => by
    unfold leaves at hL
    unfold DataW.trod at h
    cases hu : P.underlying t with
    | none => simp [hu] at hL
    | some d =>
      rw [hu] at hL
      simp only [hu] at h
      cases d with
      | bool =>
        obtain rfl := Option.some.inj hL
        rcases cs with _ | ⟨c, _ | ⟨c2, cs⟩⟩
        · simp at h
        · cases c <;> simp at h
          exact .cons ⟨_, rfl⟩ .nil
        · simp at h
      | int k =>
        obtain rfl := Option.some.inj hL
        rcases cs with _ | ⟨c, _ | ⟨c2, cs⟩⟩
        · simp at h
        · cases c <;> simp at h
          obtain ⟨⟨rfl, hw⟩, _⟩ := h
          exact .cons ⟨_, rfl, hw⟩ .nil
        · simp at h
      | string =>
        obtain rfl := Option.some.inj hL
        rcases cs with _ | ⟨c, _ | ⟨c2, cs⟩⟩
        · simp at h
        · cases c <;> simp at h
          rename_i s
          obtain ⟨l, rfl⟩ := str_of s
          exact .cons ⟨l, rfl, by have := h.1; rwa [str_size] at this⟩ .nil
        · simp at h
      | struct fs =>
        simp only at hL
        cases hF : leavesF (leaves P n) P.cellsOf 0 fs.toList with
        | none => simp [hF] at hL
        | some M =>
          simp only [hF] at hL
          cases hb : Nat.beq M.length (P.cellsOf t) with
          | false => rw [hb] at hL; cases hL
          | true =>
            rw [hb] at hL
            obtain rfl := Option.some.inj hL
            have e := Nat.eq_of_beq_eq_true hb
            simp only at h
            split at h
            · rename_i hl
              cases hx : fs.toList.mapM (fun f => DataW.trod enc P w base spare held fuel f.type ((cs.drop f.offset).take (P.cellsOf f.type))) with
              | none => simp [hx] at h
              | some xs =>
                have := leavesF_ok (fun t L ds x h1 h2 => leaves_ok n fuel t L ds x h1 h2) fs.toList 0 M xs hF hx
                rwa [List.drop_zero, e, ← hl, List.take_length] at this
            · cases h
      | _ => simp at hL
/-- A struct's value, by its cells. -/
theorem open_struct {t : TypeId} {r : Reach} {b0 : Nat} {v : Value} {d : DataW H} {p : List MemPlace} {fs : Array Field} {L : List TypeDesc} (n : Nat) (ht : P.underlying t = some (.struct fs)) (hL : leaves P n t = some L)
    (hv : Value.okWide P w r b0 t v) (h : DataW.Trod enc P w base spare held t v d p) : ∃ cs, v = .agg cs.toArray ∧ Alike L cs := by
  obtain ⟨cs, rfl, hsz⟩ := okWide_struct ht hv
  obtain ⟨fuel, hf⟩ := h
  obtain ⟨l⟩ := cs
  exact ⟨l, rfl, leaves_ok n fuel t L l _ hL (by simpa [Value.cells] using hf)⟩
end
theorem alike_u64 {L : List TypeDesc} {cs : List Value} (h : Alike (.int .u64 :: L) cs) : ∃ (n : Nat) (c : List Value), cs = .int .u64 (n : Int) :: c ∧ n < 18446744073709551616 ∧ Alike L c := by
  cases h with
  | cons h t =>
    obtain ⟨n, rfl, hn⟩ := h
    have := wf_u64 hn
    exact ⟨n.toNat, _, by show _ = Value.int .u64 ((n.toNat : Nat) : Int) :: _; rw [Int.toNat_of_nonneg this.1], by omega, t⟩
theorem alike_u32 {L : List TypeDesc} {cs : List Value} (h : Alike (.int .u32 :: L) cs) : ∃ (n : Nat) (c : List Value), cs = .int .u32 (n : Int) :: c ∧ n < 4294967296 ∧ Alike L c := by
  cases h with
  | cons h t =>
    obtain ⟨n, rfl, hn⟩ := h
    have := wf_u32 hn
    exact ⟨n.toNat, _, by show _ = Value.int .u32 ((n.toNat : Nat) : Int) :: _; rw [Int.toNat_of_nonneg this.1], by omega, t⟩
theorem alike_u16 {L : List TypeDesc} {cs : List Value} (h : Alike (.int .u16 :: L) cs) : ∃ (n : Nat) (c : List Value), cs = .int .u16 (n : Int) :: c ∧ n < 65536 ∧ Alike L c := by
  cases h with
  | cons h t =>
    obtain ⟨n, rfl, hn⟩ := h
    have := wf_u16 hn
    exact ⟨n.toNat, _, by show _ = Value.int .u16 ((n.toNat : Nat) : Int) :: _; rw [Int.toNat_of_nonneg this.1], by omega, t⟩
theorem alike_u8 {L : List TypeDesc} {cs : List Value} (h : Alike (.int .u8 :: L) cs) : ∃ (n : Nat) (c : List Value), cs = .int .u8 (n : Int) :: c ∧ n < 256 ∧ Alike L c := by
  cases h with
  | cons h t =>
    obtain ⟨n, rfl, hn⟩ := h
    have := wf_u8 hn
    exact ⟨n.toNat, _, by show _ = Value.int .u8 ((n.toNat : Nat) : Int) :: _; rw [Int.toNat_of_nonneg this.1], by omega, t⟩
theorem alike_i64 {L : List TypeDesc} {cs : List Value} (h : Alike (.int .i64 :: L) cs) : ∃ (n : Int) (c : List Value), cs = .int .i64 n :: c ∧ (-9223372036854775808 ≤ n ∧ n < 9223372036854775808) ∧ Alike L c := by
  cases h with
  | cons h t =>
    obtain ⟨n, rfl, hn⟩ := h
    exact ⟨n, _, rfl, wf_i64 hn, t⟩
theorem alike_bool {L : List TypeDesc} {cs : List Value} (h : Alike (.bool :: L) cs) : ∃ b c, cs = .bool b :: c ∧ Alike L c := by
  cases h with
  | cons h t =>
    obtain ⟨b, rfl⟩ := h
    exact ⟨b, _, rfl, t⟩
end Go.Proofs.Ytfffhnefjaomnaa
