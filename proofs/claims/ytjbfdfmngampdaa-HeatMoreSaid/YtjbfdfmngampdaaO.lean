/-
  Supplies, tests, decrees and spans, as a law's arguments read.
-/
import Derived.Test.YtjbfdfmngampdaaHG
import Derived.Test.YtjbfdfmngampdaaTy
import Derived.Test.YtjbfdfmngampdaaD
set_option linter.all false
namespace Go.Proofs.Ytjbfdfmngampdaa
open Go Go.H
set_option maxRecDepth 100000
theorem cap_ok {P : Program} {w : World} {t e : TypeId} {v : Value} {r : Reach} {b : Nat} (ht : P.underlying t = some (.slice e)) (hv : Value.okWide P w r b t v) : ∀ a n c, v = .slice a n c → n ≤ c := by
  rintro a n c rfl
  unfold Value.okWide at hv
  rw [ht] at hv
  simp only [Cell.okWide, Cell.ok, ht] at hv
  cases a with
  | some a => exact hv.1
  | none => cases n <;> cases c <;> simp_all
section
variable {H : Type} {enc : TypeId × Value → H} {w : World} {sp : Nat → Bool} {held : Bool}
theorem cells3 : Try.prog.cellsOf 3 = 1 := by kernel_rfl
theorem cells26 : Try.prog.cellsOf 26 = 2 := by kernel_rfl
theorem cells28 : Try.prog.cellsOf 28 = 5 := by kernel_rfl
theorem open_i {n : Nat} {l : List Value} {y : DataW H × List MemPlace} (h : DataW.trod enc Try.prog w 0 sp held n 3 l = some y) : ∃ i : Int, l = [I i] := by
  obtain ⟨i, e, _⟩ := open_num Try.underlying3 h
  exact ⟨i, e⟩
theorem open_span (n : Nat) (l : List Value) (y : DataW H × List MemPlace) (h : DataW.trod enc Try.prog w 0 sp held n 26 l = some y) : ∃ x, l = eSpan x := by
  obtain ⟨hl, hf⟩ := trod_struct_open Try.underlying26 h
  rw [cells26] at hl
  obtain ⟨a, b, rfl⟩ := list2 hl
  obtain ⟨_, _, h0⟩ := hf _ (List.mem_cons_self)
  obtain ⟨_, _, h1⟩ := hf _ (List.mem_cons_of_mem _ (List.mem_cons_self))
  simp only [cells3] at h0 h1
  obtain ⟨x0, e0⟩ := open_i h0
  obtain ⟨x1, e1⟩ := open_i h1
  cases e0; cases e1
  exact ⟨⟨x0, x1⟩, rfl⟩
theorem open_sup (n : Nat) (l : List Value) (y : DataW H × List MemPlace) (h : DataW.trod enc Try.prog w 0 sp held n 28 l = some y) : ∃ x, l = eSup x := by
  obtain ⟨hl, hf⟩ := trod_struct_open Try.underlying28 h
  rw [cells28] at hl
  obtain ⟨a, b, c, d, e, rfl⟩ := list5 hl
  obtain ⟨_, _, h0⟩ := hf _ (List.mem_cons_self)
  obtain ⟨_, _, h1⟩ := hf _ (List.mem_cons_of_mem _ (List.mem_cons_self))
  obtain ⟨_, _, h2⟩ := hf _ (List.mem_cons_of_mem _ (List.mem_cons_of_mem _ (List.mem_cons_self)))
  obtain ⟨_, _, h3⟩ := hf _ (List.mem_cons_of_mem _ (List.mem_cons_of_mem _ (List.mem_cons_of_mem _ (List.mem_cons_self))))
  simp only [cells3, cells26] at h0 h1 h2 h3
  obtain ⟨x0, e0⟩ := open_span _ _ _ h0
  obtain ⟨x1, e1⟩ := open_i h1
  obtain ⟨x2, e2⟩ := open_i h2
  obtain ⟨x3, e3⟩ := open_i h3
  cases e0; cases e1; cases e2; cases e3
  exact ⟨⟨x0, x1, x2, x3⟩, rfl⟩
variable {v : Value} {d : DataW H} {ps : List MemPlace} {r : Reach} {b : Nat}
theorem open_sups (hv : Value.okWide Try.prog w r b 22 v) (h : DataW.Trod enc Try.prog w 0 sp held 22 v d ps) : ∃ a c xs, v = .slice a (xs : List Supply).length c ∧ xs.length ≤ 9223372036854775807 ∧ SlV (full w) 5 eSup a xs := by
  obtain ⟨a, c, xs, e, h1, h2⟩ := open_arg (f := id) Try.underlying22 cells28 (by decide) open_sup hv h
  exact ⟨a, c, _, e, h1, h2⟩
theorem open_supA (hv : Value.okWide Try.prog w r b 28 v) (h : DataW.Trod enc Try.prog w 0 sp held 28 v d ps) : ∃ x, v = .agg ⟨eSup x⟩ := by
  obtain ⟨n, hn⟩ := h
  unfold Value.okWide at hv
  rw [Try.underlying28] at hv
  obtain ⟨⟨cs⟩, rfl, _, _⟩ := hv
  obtain ⟨x, hx⟩ := open_sup _ _ _ hn
  exact ⟨x, by rw [show cs = eSup x from hx]⟩
end
end Go.Proofs.Ytjbfdfmngampdaa
