/-
  The document's example, and what it comes to.
-/
import Derived.Test.YtjbfdfmngampdaaP6
import Derived.KernelRfl
set_option linter.all false
namespace Go.Proofs.Ytjbfdfmngampdaa
open Go Go.H
def sL (x : Int) : List Supply := [⟨⟨50, 55⟩, 1, 10, x⟩, ⟨⟨30, 30⟩, 1, 8, 1⟩, ⟨⟨10, 12⟩, 0, 5, 3⟩]
def sD : Decree := ⟨10, 50, 5, 6⟩
def sT : List Test := [⟨3, 0, ⟨40, 48⟩⟩, ⟨8, 1, ⟨44, 46⟩⟩, ⟨20, 0, ⟨30, 35⟩⟩]
theorem sMix4 : mixA (sL 4) ⟨10, 40, 60⟩ = ([5, 5, 0], 25, 0) := by decide +kernel
theorem sMix9 : mixA (sL 9) ⟨10, 40, 60⟩ = ([3, 7, 4], 46, 0) := by decide +kernel
theorem sKept : keptA sD sT 8 = (1, 0) := by decide +kernel
theorem sDue : dueA sD sT 8 = (⟨0, 18⟩, 0) := by decide +kernel
theorem sWorst : worstA sD sT = (20, 0, 0) := by decide +kernel
theorem sMiss : MissR sT 2 12 ⟨0, 30⟩ (15, 0, 0) := by
  refine .inr (.inr (.inr ⟨by decide, ⟨by decide, by decide, by decide, by decide, by decide, by decide, by decide⟩, 15, 0, rfl, by decide, by decide, by decide, by decide, by decide, fun h' s' h1 h2 h3 h4 => ?_, fun s' h1 h2 => by omega⟩))
  dsimp only at h1
  have hh : h' = 11 ∨ h' = 12 ∨ h' = 13 ∨ h' = 14 := by omega
  have hs : s' = 0 ∨ s' = 1 := by omega
  rcases hh with rfl | rfl | rfl | rfl <;> rcases hs with rfl | rfl <;> decide
theorem eqc_self : ∀ {xs : List Value}, (∀ x ∈ xs, Num x) → eqc xs xs = true
  | [], _ => rfl
  | x :: xs, h => by
    obtain ⟨n, rfl⟩ := h x List.mem_cons_self
    simp only [eqc, eqc_self fun y hy => h y (List.mem_cons_of_mem _ hy)]
    simp
end Go.Proofs.Ytjbfdfmngampdaa
