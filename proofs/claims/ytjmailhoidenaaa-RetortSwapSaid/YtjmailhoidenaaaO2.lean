/-
  A slice that reads as data is no longer than its room; bytes.
-/
import Derived.Test.YtjmailhoidenaaaO
set_option linter.all false
namespace Go.Proofs.Ytjmailhoidenaaa
open Go Go.H
section
variable {H : Type} {enc : TypeId × Value → H} {w : World} {sp : Nat → Bool} {held : Bool}
theorem slice_cap {t e : TypeId} (ht : Try.prog.underlying t = some (.slice e)) {a : Option Addr} {n c : Nat} {d : DataW H} {ps : List MemPlace} (h : DataW.Trod enc Try.prog w 0 sp held t (.slice a n c) d ps) : n ≤ c := by
  obtain ⟨fuel, h⟩ := h
  have hc : (Value.slice a n c).cells.toList = [.slice a n c] := rfl
  rw [hc] at h
  cases fuel with
  | zero => simp [DataW.trod] at h
  | succ fuel =>
    unfold DataW.trod at h
    rw [ht] at h
    split at h <;> first | (simp at *; done) | skip
    · rename_i hq; cases hq; exact Nat.le_refl _
    · rename_i e' a' len cap hq
      cases hq
      simp only at h
      split at h
      · rename_i hc; exact hc.2.1
      · cases h
theorem stokes_cap {a : Option Addr} {n c : Nat} {d : DataW H} {ps : List MemPlace} (h : DataW.Trod enc Try.prog w 0 sp held 25 (.slice a n c) d ps) : n ≤ c := slice_cap Try.underlying25 h
/-- A byte. -/
def eB (n : Int) : List Value := [.int .u8 n]
theorem trod_u8 {t : TypeId} (ht : Try.prog.underlying t = some (.int .u8)) {fuel : Nat} {cs : List Value} {x : DataW H × List MemPlace} (h : DataW.trod enc Try.prog w 0 sp held fuel t cs = some x) : ∃ n, cs = eB n := by
  cases fuel with
  | zero => simp [DataW.trod] at h
  | succ fuel =>
    unfold DataW.trod at h
    rw [ht] at h
    split at h <;> first | (simp at *; done) | skip
    rename_i k k' n hq
    cases hq
    split at h
    · rename_i hc
      obtain ⟨rfl, hw⟩ := hc
      exact ⟨n, rfl⟩
    · cases h
end
end Go.Proofs.Ytjmailhoidenaaa
