/-
  Supplies, tests, decrees and spans, as a law's arguments read.
-/
import Derived.Test.YtjbfdfmngampdaaHG
import Derived.Test.YtjbfdfmngampdaaTy
import Derived.Test.YtjbfdfmngampdaaD
set_option linter.all false
namespace Go.Proofs.Ytjbfdfmngampdaa
open Go Go.H
set_option maxRecDepth 100000
section
variable {H : Type} {enc : TypeId × Value → H} {w : World} {sp : Nat → Bool} {held : Bool}
theorem cells3 : Try.prog.cellsOf 3 = 1 := by kernel_rfl
theorem cells26 : Try.prog.cellsOf 26 = 2 := by kernel_rfl
theorem cells55 : Try.prog.cellsOf 55 = 4 := by kernel_rfl
theorem cells36 : Try.prog.cellsOf 36 = 4 := by kernel_rfl
theorem open_i {n : Nat} {l : List Value} {y : DataW H × List MemPlace} (h : DataW.trod enc Try.prog w 0 sp held n 3 l = some y) : ∃ i : Int, l = [I i] := by
  obtain ⟨i, e, _⟩ := open_num Try.underlying3 h
  exact ⟨i, e⟩
theorem open_span (n : Nat) (l : List Value) (y : DataW H × List MemPlace) (h : DataW.trod enc Try.prog w 0 sp held n 26 l = some y) : ∃ x, l = eSpan x := by
  obtain ⟨hl, hf⟩ := trod_struct_open Try.underlying26 h
  rw [cells26] at hl
  obtain ⟨a, b, rfl⟩ := list2 hl
  obtain ⟨_, _, h0⟩ := hf _ (List.mem_cons_self)
  obtain ⟨_, _, h1⟩ := hf _ (List.mem_cons_of_mem _ (List.mem_cons_self))
  simp only [cells3] at h0 h1
  obtain ⟨x0, e0⟩ := open_i h0
  obtain ⟨x1, e1⟩ := open_i h1
  cases e0; cases e1
  exact ⟨⟨x0, x1⟩, rfl⟩
theorem open_test (n : Nat) (l : List Value) (y : DataW H × List MemPlace) (h : DataW.trod enc Try.prog w 0 sp held n 55 l = some y) : ∃ x, l = eTest x := by
  obtain ⟨hl, hf⟩ := trod_struct_open Try.underlying55 h
  rw [cells55] at hl
  obtain ⟨a, b, c, d, rfl⟩ := list4 hl
  obtain ⟨_, _, h0⟩ := hf _ (List.mem_cons_self)
  obtain ⟨_, _, h1⟩ := hf _ (List.mem_cons_of_mem _ (List.mem_cons_self))
  obtain ⟨_, _, h2⟩ := hf _ (List.mem_cons_of_mem _ (List.mem_cons_of_mem _ (List.mem_cons_self)))
  simp only [cells3, cells26] at h0 h1 h2
  obtain ⟨x0, e0⟩ := open_i h0
  obtain ⟨x1, e1⟩ := open_i h1
  obtain ⟨x2, e2⟩ := open_span _ _ _ h2
  cases e0; cases e1; cases e2
  exact ⟨⟨x0, x1, x2⟩, rfl⟩
theorem open_dec (n : Nat) (l : List Value) (y : DataW H × List MemPlace) (h : DataW.trod enc Try.prog w 0 sp held n 36 l = some y) : ∃ x, l = eDec x := by
  obtain ⟨hl, hf⟩ := trod_struct_open Try.underlying36 h
  rw [cells36] at hl
  obtain ⟨a, b, c, d, rfl⟩ := list4 hl
  obtain ⟨_, _, h0⟩ := hf _ (List.mem_cons_self)
  obtain ⟨_, _, h1⟩ := hf _ (List.mem_cons_of_mem _ (List.mem_cons_self))
  obtain ⟨_, _, h2⟩ := hf _ (List.mem_cons_of_mem _ (List.mem_cons_of_mem _ (List.mem_cons_self)))
  obtain ⟨_, _, h3⟩ := hf _ (List.mem_cons_of_mem _ (List.mem_cons_of_mem _ (List.mem_cons_of_mem _ (List.mem_cons_self))))
  simp only [cells3] at h0 h1 h2 h3
  obtain ⟨x0, e0⟩ := open_i h0
  obtain ⟨x1, e1⟩ := open_i h1
  obtain ⟨x2, e2⟩ := open_i h2
  obtain ⟨x3, e3⟩ := open_i h3
  cases e0; cases e1; cases e2; cases e3
  exact ⟨⟨x0, x1, x2, x3⟩, rfl⟩
variable {v : Value} {d : DataW H} {ps : List MemPlace} {r : Reach} {b : Nat}
theorem open_tests (hv : Value.okWide Try.prog w r b 37 v) (h : DataW.Trod enc Try.prog w 0 sp held 37 v d ps) : ∃ a c xs, v = .slice a (xs : List Test).length c ∧ xs.length ≤ 9223372036854775807 ∧ SlV (full w) 4 eTest a xs := by
  obtain ⟨a, c, xs, e, h1, h2⟩ := open_arg (f := id) Try.underlying37 cells55 (by decide) open_test hv h
  exact ⟨a, c, _, e, h1, h2⟩
theorem open_spanA (hv : Value.okWide Try.prog w r b 26 v) (h : DataW.Trod enc Try.prog w 0 sp held 26 v d ps) : ∃ x, v = .agg ⟨eSpan x⟩ := by
  obtain ⟨n, hn⟩ := h
  unfold Value.okWide at hv
  rw [Try.underlying26] at hv
  obtain ⟨⟨cs⟩, rfl, _, _⟩ := hv
  obtain ⟨x, hx⟩ := open_span _ _ _ hn
  exact ⟨x, by rw [show cs = eSpan x from hx]⟩
theorem open_decA (hv : Value.okWide Try.prog w r b 36 v) (h : DataW.Trod enc Try.prog w 0 sp held 36 v d ps) : ∃ x, v = .agg ⟨eDec x⟩ := by
  obtain ⟨n, hn⟩ := h
  unfold Value.okWide at hv
  rw [Try.underlying36] at hv
  obtain ⟨⟨cs⟩, rfl, _, _⟩ := hv
  obtain ⟨x, hx⟩ := open_dec _ _ _ hn
  exact ⟨x, by rw [show cs = eDec x from hx]⟩
end
end Go.Proofs.Ytjbfdfmngampdaa
