/- The small example of charts. No conditions. -/
import Derived.Test.YtahmhcmfeloclaaCh14
namespace Go.Proofs.Ytahmhcmfeloclaa
open Go.RowKit
set_option linter.unusedVariables false
set_option linter.unusedSimpArgs false
def chC : List It := [⟨5, [98]⟩]
def chD : List It := [⟨0, [97]⟩, ⟨5, [98]⟩]
def chT : List It := [⟨1, [120]⟩, ⟨1, [121]⟩]
def chA : List It := [⟨0, [97]⟩]
theorem ch1 : putQ 5 [98] [] = chC ∧ putE 5 [98] [] = 0 := ⟨by kernel_rfl, by kernel_rfl⟩
theorem ch2 : putQ 0 [97] chC = chD ∧ putE 0 [97] chC = 0 := ⟨by kernel_rfl, by kernel_rfl⟩
theorem ch3 : putQ 1 [] chC = chC ∧ putE 1 [] chC = 2 := ⟨by kernel_rfl, by kernel_rfl⟩
theorem ch4 : ofQ chT = 22 := by kernel_rfl
theorem ch5 : cDel 5 chD = chA := by kernel_rfl
theorem ch6 : zLo chD = 0 ∧ zHi chD = 2 := ⟨by kernel_rfl, by kernel_rfl⟩
theorem chC_ok : ChOk chC := by have := ChOk.nil.putQ 5 [98]; rwa [ch1.1] at this
theorem chD_ok : ChOk chD := by have := chC_ok.putQ 0 [97]; rwa [ch2.1] at this
theorem chA_ok : ChOk chA := by have := chD_ok.del 5; rwa [ch5] at this
theorem slIn_pos {A : Option Addr} {n c : Nat} (h : SlIn A n c) (hn : 0 < n) : ∃ g o, A = some ⟨g, o, none⟩ := h.arg hn
theorem ChOk.its {L : List It} (h : ChOk L) : ItsOk L := fun e he => by have := h.lt e he; omega
end Go.Proofs.Ytahmhcmfeloclaa
