/-
  A house and a list of stokes, as a law's arguments read.
-/
import Derived.Test.YtjmailhoidenaaaH19
import Derived.Test.YtjmailhoidenaaaTy
import Derived.Test.YtjmailhoidenaaaS
set_option linter.all false
namespace Go.Proofs.Ytjmailhoidenaaa
open Go Go.H
section
variable {H : Type} {enc : TypeId × Value → H} {w : World} {sp : Nat → Bool} {held : Bool}
theorem cells48 : Try.prog.cellsOf 48 = 4 := by kernel_rfl
theorem cells38 : Try.prog.cellsOf 38 = 2 := by kernel_rfl
theorem cells3 : Try.prog.cellsOf 3 = 1 := by kernel_rfl
theorem cells22 : Try.prog.cellsOf 22 = 1 := by kernel_rfl
theorem cells24 : Try.prog.cellsOf 24 = 6 := by kernel_rfl
theorem list2 {α : Type} {l : List α} (h : l.length = 2) : ∃ a b, l = [a, b] := by
  rcases l with _ | ⟨a, _ | ⟨b, _ | ⟨c, l⟩⟩⟩ <;> simp at h
  exact ⟨_, _, rfl⟩
theorem list4 {α : Type} {l : List α} (h : l.length = 4) : ∃ a b c d, l = [a, b, c, d] := by
  rcases l with _ | ⟨a, _ | ⟨b, _ | ⟨c, _ | ⟨d, _ | ⟨e, l⟩⟩⟩⟩⟩ <;> simp at h
  exact ⟨_, _, _, _, rfl⟩
theorem list6 {α : Type} {l : List α} (h : l.length = 6) : ∃ a b c d e f, l = [a, b, c, d, e, f] := by
  rcases l with _ | ⟨a, _ | ⟨b, _ | ⟨c, _ | ⟨d, _ | ⟨e, _ | ⟨f, _ | ⟨g, l⟩⟩⟩⟩⟩⟩⟩ <;> simp at h
  exact ⟨_, _, _, _, _, _, rfl⟩
theorem open_i {n : Nat} {v : Value} {y : DataW H × List MemPlace} (h : DataW.trod enc Try.prog w 0 sp held n 3 [v] = some y) : ∃ i, v = I i ∧ -9223372036854775808 ≤ i ∧ i ≤ 9223372036854775807 := by
  obtain ⟨v', e, i, rfl, hi⟩ := trod_i64 Try.underlying3 h
  cases e
  exact ⟨i, rfl, hi⟩
theorem open_stoke (n : Nat) (l : List Value) (y : DataW H × List MemPlace) (h : DataW.trod enc Try.prog w 0 sp held n 48 l = some y) : ∃ x, l = eStoke x := by
  obtain ⟨hl, hf⟩ := trod_struct_open Try.underlying48 h
  rw [cells48] at hl
  obtain ⟨a, b, c, d, rfl⟩ := list4 hl
  obtain ⟨_, _, h1⟩ := hf _ (List.mem_cons_self)
  obtain ⟨_, _, h2⟩ := hf _ (List.mem_cons_of_mem _ List.mem_cons_self)
  obtain ⟨_, _, h3⟩ := hf _ (List.mem_cons_of_mem _ (List.mem_cons_of_mem _ List.mem_cons_self))
  obtain ⟨_, _, h4⟩ := hf _ (List.mem_cons_of_mem _ (List.mem_cons_of_mem _ (List.mem_cons_of_mem _ List.mem_cons_self)))
  simp only [cells3] at h1 h2 h3 h4
  obtain ⟨a, rfl, _⟩ := open_i h1
  obtain ⟨b, rfl, _⟩ := open_i h2
  obtain ⟨c, rfl, _⟩ := open_i h3
  obtain ⟨d, rfl, _⟩ := open_i h4
  exact ⟨⟨a, b, c, d⟩, rfl⟩
theorem open_span (n : Nat) (l : List Value) (y : DataW H × List MemPlace) (h : DataW.trod enc Try.prog w 0 sp held n 38 l = some y) : ∃ x, l = eSpan x := by
  obtain ⟨hl, hf⟩ := trod_struct_open Try.underlying38 h
  rw [cells38] at hl
  obtain ⟨a, b, rfl⟩ := list2 hl
  obtain ⟨_, _, h1⟩ := hf _ (List.mem_cons_self)
  obtain ⟨_, _, h2⟩ := hf _ (List.mem_cons_of_mem _ List.mem_cons_self)
  simp only [cells3] at h1 h2
  obtain ⟨a, rfl, _⟩ := open_i h1
  obtain ⟨b, rfl, _⟩ := open_i h2
  exact ⟨⟨a, b⟩, rfl⟩
theorem open_stokes {v : Value} {d : DataW H} {ps : List MemPlace} (hv : v.cells.toList = [v]) (h : DataW.Trod enc Try.prog w 0 sp held 25 v d ps) : ∃ a c l, v = .slice a (l : List Stoke).length c ∧ l.length ≤ 9223372036854775807 ∧ SlV (full w) 4 eStoke a l := by
  obtain ⟨n, hn⟩ := h
  obtain ⟨a, c, l, e, h1, h2⟩ := open_slv Try.underlying25 cells48 (by decide) open_stoke hn
  rw [hv] at e
  cases e
  exact ⟨a, c, l, rfl, h1, h2⟩
theorem cells_slice {v : Value} {r : Reach} {b : Nat} (hv : Value.okWide Try.prog w r b 25 v) : v.cells.toList = [v] := by
  unfold Value.okWide at hv
  rw [Try.underlying25] at hv
  simp only [Cell.okWide, Cell.ok, Try.underlying25] at hv
  cases v <;> first | rfl | (simp at hv; done)
theorem open_house {v : Value} {d : DataW H} {ps : List MemPlace} {r : Reach} {b : Nat} (hv : Value.okWide Try.prog w r b 24 v) (h : DataW.Trod enc Try.prog w 0 sp held 24 v d ps) :
    ∃ a c hw, v = .agg ⟨eHouse a c hw⟩ ∧ SlV (full w) 2 eSpan a hw.curve := by
  obtain ⟨n, hn⟩ := h
  unfold Value.okWide at hv
  rw [Try.underlying24] at hv
  obtain ⟨⟨cs⟩, rfl, _, _⟩ := hv
  obtain ⟨hl, hf⟩ := trod_struct_open Try.underlying24 hn
  rw [cells24] at hl
  obtain ⟨c0, c1, c2, c3, c4, c5, rfl⟩ := list6 hl
  obtain ⟨_, _, h1⟩ := hf _ (List.mem_cons_self)
  obtain ⟨_, _, h2⟩ := hf _ (List.mem_cons_of_mem _ List.mem_cons_self)
  obtain ⟨_, _, h3⟩ := hf _ (List.mem_cons_of_mem _ (List.mem_cons_of_mem _ List.mem_cons_self))
  obtain ⟨_, _, h4⟩ := hf _ (List.mem_cons_of_mem _ (List.mem_cons_of_mem _ (List.mem_cons_of_mem _ List.mem_cons_self)))
  obtain ⟨_, _, h5⟩ := hf _ (List.mem_cons_of_mem _ (List.mem_cons_of_mem _ (List.mem_cons_of_mem _ (List.mem_cons_of_mem _ List.mem_cons_self))))
  obtain ⟨_, _, h6⟩ := hf _ (List.mem_cons_of_mem _ (List.mem_cons_of_mem _ (List.mem_cons_of_mem _ (List.mem_cons_of_mem _ (List.mem_cons_of_mem _ List.mem_cons_self)))))
  simp only [cells3, cells22] at h1 h2 h3 h4 h5 h6
  obtain ⟨c1, rfl, _⟩ := open_i h2
  obtain ⟨c2, rfl, _⟩ := open_i h3
  obtain ⟨c3, rfl, _⟩ := open_i h4
  obtain ⟨c4, rfl, _⟩ := open_i h5
  obtain ⟨c5, rfl, _⟩ := open_i h6
  obtain ⟨a, c, l, e, h7, h8⟩ := open_slv Try.underlying22 cells38 (by decide) open_span h1
  cases e
  exact ⟨a, c, ⟨l, c1, c2, c3, c4, c5⟩, rfl, h8⟩
end
end Go.Proofs.Ytjmailhoidenaaa
