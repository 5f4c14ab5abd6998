/-
  Yards, carts and lists of numbers, as a law's arguments read.
-/
import Derived.Test.YtlailecnbdlknaaHG
import Derived.Test.YtlailecnbdlknaaTy
import Derived.Test.YtlailecnbdlknaaP7
import Derived.Test.YtlailecnbdlknaaP8
set_option linter.all false
namespace Go.Proofs.Ytlailecnbdlknaa
open Go Go.H
set_option maxRecDepth 100000
section
variable {H : Type} {enc : TypeId × Value → H} {w : World} {sp : Nat → Bool} {held : Bool}
theorem cells3 : Try.prog.cellsOf 3 = 1 := by kernel_rfl
theorem cells5 : Try.prog.cellsOf 5 = 1 := by kernel_rfl
theorem cells49 : Try.prog.cellsOf 49 = 1 := by kernel_rfl
theorem cells62 : Try.prog.cellsOf 62 = 1 := by kernel_rfl
theorem cells22 : Try.prog.cellsOf 22 = 1 := by kernel_rfl
theorem cells23 : Try.prog.cellsOf 23 = 1 := by kernel_rfl
theorem cells24 : Try.prog.cellsOf 24 = 1 := by kernel_rfl
theorem cells35 : Try.prog.cellsOf 35 = 1 := by kernel_rfl
theorem cells26 : Try.prog.cellsOf 26 = 3 := by kernel_rfl
theorem cells41 : Try.prog.cellsOf 41 = 2 := by kernel_rfl
theorem cells48 : Try.prog.cellsOf 48 = 5 := by kernel_rfl
theorem cells51 : Try.prog.cellsOf 51 = 3 := by kernel_rfl
theorem cells61 : Try.prog.cellsOf 61 = 4 := by kernel_rfl
theorem open_i {n : Nat} {l : List Value} {y : DataW H × List MemPlace} (h : DataW.trod enc Try.prog w 0 sp held n 3 l = some y) : ∃ i : Int, l = [I i] := by
  obtain ⟨i, e, _⟩ := open_num Try.underlying3 h
  exact ⟨i, e⟩
def i32 := { n : Int // 0 ≤ n ∧ n ≤ 4294967295 }
def i16 := { n : Int // 0 ≤ n ∧ n ≤ 65535 }
def i8 := { n : Int // 0 ≤ n ∧ n ≤ 255 }
theorem open_span (n : Nat) (l : List Value) (y : DataW H × List MemPlace) (h : DataW.trod enc Try.prog w 0 sp held n 41 l = some y) : ∃ x, l = eSpan x := by
  obtain ⟨hl, hf⟩ := trod_struct_open Try.underlying41 h
  rw [cells41] at hl
  obtain ⟨a, b, rfl⟩ := list2 hl
  obtain ⟨_, _, h1⟩ := hf _ (List.mem_cons_self)
  obtain ⟨_, _, h2⟩ := hf _ (List.mem_cons_of_mem _ List.mem_cons_self)
  simp only [cells3] at h1 h2
  obtain ⟨a, e1⟩ := open_i h1
  obtain ⟨b, e2⟩ := open_i h2
  cases e1; cases e2
  exact ⟨⟨a, b⟩, rfl⟩
theorem open_sale (n : Nat) (l : List Value) (y : DataW H × List MemPlace) (h : DataW.trod enc Try.prog w 0 sp held n 51 l = some y) : ∃ x, l = eSale x := by
  obtain ⟨hl, hf⟩ := trod_struct_open Try.underlying51 h
  rw [cells51] at hl
  obtain ⟨a, b, c, rfl⟩ := list3 hl
  obtain ⟨_, _, h1⟩ := hf _ (List.mem_cons_self)
  obtain ⟨_, _, h2⟩ := hf _ (List.mem_cons_of_mem _ List.mem_cons_self)
  obtain ⟨_, _, h3⟩ := hf _ (List.mem_cons_of_mem _ (List.mem_cons_of_mem _ List.mem_cons_self))
  simp only [cells3] at h1 h2 h3
  obtain ⟨a, e1⟩ := open_i h1
  obtain ⟨b, e2⟩ := open_i h2
  obtain ⟨c, e3⟩ := open_i h3
  cases e1; cases e2; cases e3
  exact ⟨⟨a, b, c⟩, rfl⟩
theorem open_weigh (n : Nat) (l : List Value) (y : DataW H × List MemPlace) (h : DataW.trod enc Try.prog w 0 sp held n 61 l = some y) : ∃ x, l = eWeigh x := by
  obtain ⟨hl, hf⟩ := trod_struct_open Try.underlying61 h
  rw [cells61] at hl
  obtain ⟨a, b, c, d, rfl⟩ := list4 hl
  obtain ⟨_, _, h1⟩ := hf _ (List.mem_cons_self)
  obtain ⟨_, _, h2⟩ := hf _ (List.mem_cons_of_mem _ List.mem_cons_self)
  simp only [cells41] at h1 h2
  obtain ⟨x, e1⟩ := open_span _ _ _ h1
  obtain ⟨z, e2⟩ := open_span _ _ _ h2
  cases e1; cases e2
  exact ⟨⟨x, z⟩, rfl⟩
def StillV (h : Hp) := { x : Still // SlV h 2 eSpan x.oa x.out }
theorem open_still (n : Nat) (l : List Value) (y : DataW H × List MemPlace) (h : DataW.trod enc Try.prog w 0 sp held n 48 l = some y) : ∃ x : StillV (full w), l = eStill x.1 := by
  obtain ⟨hl, hf⟩ := trod_struct_open Try.underlying48 h
  rw [cells48] at hl
  obtain ⟨a, b, c, d, e, rfl⟩ := list5 hl
  obtain ⟨_, _, h1⟩ := hf _ (List.mem_cons_self)
  obtain ⟨_, _, h2⟩ := hf _ (List.mem_cons_of_mem _ List.mem_cons_self)
  obtain ⟨_, _, h3⟩ := hf _ (List.mem_cons_of_mem _ (List.mem_cons_of_mem _ List.mem_cons_self))
  obtain ⟨_, _, h4⟩ := hf _ (List.mem_cons_of_mem _ (List.mem_cons_of_mem _ (List.mem_cons_of_mem _ List.mem_cons_self)))
  obtain ⟨_, _, h5⟩ := hf _ (List.mem_cons_of_mem _ (List.mem_cons_of_mem _ (List.mem_cons_of_mem _ (List.mem_cons_of_mem _ List.mem_cons_self))))
  simp only [cells3, cells35] at h1 h2 h3 h4 h5
  obtain ⟨a, e1⟩ := open_i h1
  obtain ⟨b, e2⟩ := open_i h2
  obtain ⟨d, e4⟩ := open_i h4
  obtain ⟨e, e5⟩ := open_i h5
  obtain ⟨ad, c, xs, e3, _, hx⟩ := open_slv Try.underlying35 cells41 (by decide) open_span h3
  cases e1; cases e2; cases e3; cases e4; cases e5
  exact ⟨⟨⟨a, b, ad, c, xs, d, e⟩, hx⟩, rfl⟩
theorem open_int1 (n : Nat) (l : List Value) (y : DataW H × List MemPlace) (h : DataW.trod enc Try.prog w 0 sp held n 3 l = some y) : ∃ x : Int, l = eI (id x) := open_i h
theorem open_u32 (n : Nat) (l : List Value) (y : DataW H × List MemPlace) (h : DataW.trod enc Try.prog w 0 sp held n 62 l = some y) : ∃ x : i32, l = eW x.1 := by
  obtain ⟨i, e, hw⟩ := open_num Try.underlying62 h
  exact ⟨⟨i, in32_of hw⟩, e⟩
theorem open_u16 (n : Nat) (l : List Value) (y : DataW H × List MemPlace) (h : DataW.trod enc Try.prog w 0 sp held n 49 l = some y) : ∃ x : i16, l = eH x.1 := by
  obtain ⟨i, e, hw⟩ := open_num Try.underlying49 h
  exact ⟨⟨i, in16_of hw⟩, e⟩
theorem open_u8 (n : Nat) (l : List Value) (y : DataW H × List MemPlace) (h : DataW.trod enc Try.prog w 0 sp held n 5 l = some y) : ∃ x : i8, l = eB x.1 := by
  obtain ⟨i, e, hw⟩ := open_num Try.underlying5 h
  exact ⟨⟨i, in8_of hw⟩, e⟩
theorem all_sub {p : Int → Prop} (xs : List { n : Int // p n }) : ∀ x ∈ xs.map Subtype.val, p x := fun x hx => by
  obtain ⟨y, _, rfl⟩ := List.mem_map.1 hx
  exact y.2
variable {v : Value} {d : DataW H} {ps : List MemPlace} {r : Reach} {b : Nat}
theorem open_ints (hv : Value.okWide Try.prog w r b 22 v) (h : DataW.Trod enc Try.prog w 0 sp held 22 v d ps) : ∃ a c xs, v = .slice a (xs : List Int).length c ∧ xs.length ≤ 9223372036854775807 ∧ SlV (full w) 1 eI a xs := by
  obtain ⟨a, c, xs, e, h1, h2⟩ := open_arg (f := id) Try.underlying22 cells3 (by decide) open_int1 hv h
  exact ⟨a, c, _, e, h1, h2⟩
theorem open_carts (hv : Value.okWide Try.prog w r b 34 v) (h : DataW.Trod enc Try.prog w 0 sp held 34 v d ps) : ∃ a c xs, v = .slice a (xs : List Weigh).length c ∧ xs.length ≤ 9223372036854775807 ∧ SlV (full w) 4 eWeigh a xs := by
  obtain ⟨a, c, xs, e, h1, h2⟩ := open_arg (f := id) Try.underlying34 cells61 (by decide) open_weigh hv h
  exact ⟨a, c, _, e, h1, h2⟩
theorem open_by32 (hv : Value.okWide Try.prog w r b 58 v) (h : DataW.Trod enc Try.prog w 0 sp held 58 v d ps) : ∃ a c xs, v = .slice a (xs : List Int).length c ∧ xs.length ≤ 9223372036854775807 ∧ SlV (full w) 1 eW a xs ∧ ∀ x ∈ xs, 0 ≤ x ∧ x ≤ 4294967295 := by
  obtain ⟨a, c, xs, e, h1, h2⟩ := open_arg Try.underlying58 cells62 (by decide) open_u32 hv h
  exact ⟨a, c, _, e, h1, h2, all_sub xs⟩
theorem open_by16 (hv : Value.okWide Try.prog w r b 46 v) (h : DataW.Trod enc Try.prog w 0 sp held 46 v d ps) : ∃ a c xs, v = .slice a (xs : List Int).length c ∧ xs.length ≤ 9223372036854775807 ∧ SlV (full w) 1 eH a xs ∧ ∀ x ∈ xs, 0 ≤ x ∧ x ≤ 65535 := by
  obtain ⟨a, c, xs, e, h1, h2⟩ := open_arg Try.underlying46 cells49 (by decide) open_u16 hv h
  exact ⟨a, c, _, e, h1, h2, all_sub xs⟩
theorem open_by8 (hv : Value.okWide Try.prog w r b 53 v) (h : DataW.Trod enc Try.prog w 0 sp held 53 v d ps) : ∃ a c xs, v = .slice a (xs : List Int).length c ∧ xs.length ≤ 9223372036854775807 ∧ SlV (full w) 1 eB a xs ∧ ∀ x ∈ xs, 0 ≤ x ∧ x ≤ 255 := by
  obtain ⟨a, c, xs, e, h1, h2⟩ := open_arg Try.underlying53 cells5 (by decide) open_u8 hv h
  exact ⟨a, c, _, e, h1, h2, all_sub xs⟩
theorem open_yard (hv : Value.okWide Try.prog w r b 26 v) (h : DataW.Trod enc Try.prog w 0 sp held 26 v d ps) : ∃ y : Yard, v = .agg ⟨eYard y⟩ ∧ YardV (full w) y ∧ y.stock.length ≤ 9223372036854775807 ∧ y.stills.length ≤ 9223372036854775807 ∧ y.sales.length ≤ 9223372036854775807 := by
  obtain ⟨n, hn⟩ := h
  unfold Value.okWide at hv
  rw [Try.underlying26] at hv
  obtain ⟨⟨cs⟩, rfl, _, _⟩ := hv
  obtain ⟨hl, hf⟩ := trod_struct_open Try.underlying26 hn
  rw [cells26] at hl
  obtain ⟨c0, c1, c2, rfl⟩ := list3 hl
  obtain ⟨_, _, h1⟩ := hf _ (List.mem_cons_self)
  obtain ⟨_, _, h2⟩ := hf _ (List.mem_cons_of_mem _ List.mem_cons_self)
  obtain ⟨_, _, h3⟩ := hf _ (List.mem_cons_of_mem _ (List.mem_cons_of_mem _ List.mem_cons_self))
  simp only [cells22, cells23, cells24] at h1 h2 h3
  obtain ⟨sa, sc, ss, e1, l1, q1⟩ := open_slv (en := eI) Try.underlying22 cells3 (by decide) open_int1 h1
  obtain ⟨ta, tc, ts, e2, l2, q2⟩ := open_slv (en := fun x : StillV (full w) => eStill x.1) Try.underlying23 cells48 (by decide) open_still h2
  obtain ⟨la, lc, ls, e3, l3, q3⟩ := open_slv Try.underlying24 cells51 (by decide) open_sale h3
  cases e1; cases e2; cases e3
  refine ⟨⟨sa, sc, ss, ta, tc, ts.map (fun x => x.1), la, lc, ls⟩, by simp only [eYard, List.length_map], ⟨q1, q2.map (f := fun x : StillV (full w) => x.1), q3, fun x hx => ?_⟩, l1, by simpa using l2, l3⟩
  obtain ⟨z, _, rfl⟩ := List.mem_map.1 hx
  exact z.2
end
end Go.Proofs.Ytlailecnbdlknaa
