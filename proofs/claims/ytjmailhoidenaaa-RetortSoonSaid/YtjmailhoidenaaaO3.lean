/-
  A list of bytes, as a law's argument reads.
-/
import Derived.Test.YtjmailhoidenaaaO
import Derived.Test.YtjmailhoidenaaaP02q
set_option linter.all false
namespace Go.Proofs.Ytjmailhoidenaaa
open Go Go.H
section
variable {H : Type} {enc : TypeId × Value → H} {w : World} {sp : Nat → Bool} {held : Bool}
theorem cells5 : Try.prog.cellsOf 5 = 1 := by kernel_rfl
theorem open_byte (n : Nat) (l : List Value) (y : DataW H × List MemPlace) (h : DataW.trod enc Try.prog w 0 sp held n 5 l = some y) : ∃ x : Byte, l = eBy x := by
  cases n with
  | zero => simp [DataW.trod] at h
  | succ fuel =>
    unfold DataW.trod at h
    rw [Try.underlying5] at h
    split at h <;> first | (simp at *; done) | skip
    rename_i k k' n hq
    cases hq
    split at h
    · rename_i hc
      obtain ⟨rfl, hw⟩ := hc
      exact ⟨⟨n, in8_of hw⟩, rfl⟩
    · cases h
theorem open_bytes {v : Value} {d : DataW H} {ps : List MemPlace} {r : Reach} {b : Nat} (hv : Value.okWide Try.prog w r b 52 v) (h : DataW.Trod enc Try.prog w 0 sp held 52 v d ps) : ∃ a c xs, v = .slice a (xs : List Byte).length c ∧ xs.length ≤ 9223372036854775807 ∧ SlV (full w) 1 eBy a xs := by
  have hc : v.cells.toList = [v] := by
    unfold Value.okWide at hv
    rw [Try.underlying52] at hv
    simp only [Cell.okWide, Cell.ok, Try.underlying52] at hv
    cases v <;> first | rfl | (simp at hv; done)
  obtain ⟨n, hn⟩ := h
  obtain ⟨a, c, l, e, h1, h2⟩ := open_slv Try.underlying52 cells5 (by decide) open_byte hn
  rw [hc] at e
  cases e
  exact ⟨a, c, l, rfl, h1, h2⟩
end
end Go.Proofs.Ytjmailhoidenaaa
