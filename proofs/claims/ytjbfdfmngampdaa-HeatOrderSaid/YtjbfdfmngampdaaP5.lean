/-
  What the search keeps: the sums of the rest; the best so far.
-/
import Derived.Test.YtjbfdfmngampdaaP4
import Derived.Test.YtjbfdfmngampdaaP3
set_option linter.all false
namespace Go.Proofs.Ytjbfdfmngampdaa
open Go Go.H
def leftC (l : List Supply) (k : Nat) : List Value := (List.range 5).flatMap fun i => if k ≤ i then [I (restS (·.volume) (l.drop i)), I (restS (·.heat.lo) (l.drop i))] else [I 0, I 0]
theorem left_get {l : List Supply} {k j : Nat} (h1 : k ≤ j) (h2 : j ≤ 4) : (leftC l k)[0 + j * 2]? = some (I (restS (·.volume) (l.drop j))) ∧ (leftC l k)[0 + j * 2 + 1]? = some (I (restS (·.heat.lo) (l.drop j))) := by
  have : j = 0 ∨ j = 1 ∨ j = 2 ∨ j = 3 ∨ j = 4 := by omega
  have e : leftC l k = (if k ≤ 0 then [I (restS (·.volume) (l.drop 0)), I (restS (·.heat.lo) (l.drop 0))] else [I 0, I 0]) ++ ((if k ≤ 1 then [I (restS (·.volume) (l.drop 1)), I (restS (·.heat.lo) (l.drop 1))] else [I 0, I 0]) ++ ((if k ≤ 2 then [I (restS (·.volume) (l.drop 2)), I (restS (·.heat.lo) (l.drop 2))] else [I 0, I 0]) ++ ((if k ≤ 3 then [I (restS (·.volume) (l.drop 3)), I (restS (·.heat.lo) (l.drop 3))] else [I 0, I 0]) ++ ((if k ≤ 4 then [I (restS (·.volume) (l.drop 4)), I (restS (·.heat.lo) (l.drop 4))] else [I 0, I 0]) ++ [])))) := rfl
  rw [e]
  rcases this with rfl | rfl | rfl | rfl | rfl
  · rw [if_pos h1]; exact ⟨rfl, rfl⟩
  · rw [if_pos h1]; constructor <;> split <;> rfl
  · rw [if_pos h1]; constructor <;> split <;> split <;> rfl
  · rw [if_pos h1]; constructor <;> split <;> split <;> split <;> rfl
  · rw [if_pos h1]; constructor <;> split <;> split <;> split <;> split <;> rfl
theorem left_len (l : List Supply) (k : Nat) : (leftC l k).length = 10 := by
  unfold leftC
  rw [flat_lenN (fun i => by split <;> rfl)]
  rfl
where flat_lenN {g : Nat → List Value} (hg : ∀ i, (g i).length = 2) {n : Nat} : ((List.range n).flatMap g).length = (List.range n).length * 2 := flat_lenM hg _
theorem left_set {l : List Supply} {i : Nat} (hi : i ≤ 4) : splice (leftC l (i + 1)) (0 + i * 2) [I (restS (·.volume) (l.drop i)), I (restS (·.heat.lo) (l.drop i))] = leftC l i := by
  have : i = 0 ∨ i = 1 ∨ i = 2 ∨ i = 3 ∨ i = 4 := by omega
  rcases this with rfl | rfl | rfl | rfl | rfl <;> rfl
theorem left_init {l : List Supply} (h : l.length ≤ 4) : leftC l l.length = [I 0, I 0, I 0, I 0, I 0, I 0, I 0, I 0, I 0, I 0] := by
  unfold leftC
  have : ∀ i, (if l.length ≤ i then [I (restS (·.volume) (l.drop i)), I (restS (·.heat.lo) (l.drop i))] else [I 0, I 0]) = [I 0, I 0] := fun i => by
    split
    · rename_i h1
      rw [List.drop_of_length_le h1]; rfl
    · rfl
  simp only [this]
  rfl
def backL (l : List Supply) : List (Nat × Supply) := (List.range l.length).reverse.map fun i => (i + 1, (l[i]?).getD default)
theorem back_len (l : List Supply) : (backL l).length = l.length := by simp [backL]
theorem back_get {l : List Supply} {k : Nat} {z : Nat × Supply} (h : (backL l)[k]? = some z) : ∃ i x, z = (i + 1, x) ∧ i + k + 1 = l.length ∧ l[i]? = some x := by
  have hk := (List.getElem?_eq_some_iff.1 h).1
  rw [back_len] at hk
  unfold backL at h
  rw [List.getElem?_map, List.getElem?_reverse (by simpa using hk), List.length_range, List.getElem?_range (by omega)] at h
  simp only [Option.map_some, Option.some.injEq] at h
  have hl := List.getElem?_eq_getElem (l := l) (i := l.length - 1 - k) (by omega)
  rw [hl] at h
  exact ⟨l.length - 1 - k, _, h.symm, by omega, hl⟩
theorem back_at {l : List Supply} {k i : Nat} {x : Supply} (h : i + k + 1 = l.length) (hx : l[i]? = some x) : (backL l)[k]? = some (i + 1, x) := by
  unfold backL
  rw [List.getElem?_map, List.getElem?_reverse (by simp; omega), List.length_range, List.getElem?_range (by omega)]
  simp only [Option.map_some, Option.some.injEq]
  rw [show l.length - 1 - k = i by omega, hx]
  rfl
theorem rest_step {l : List Supply} {i : Nat} {x : Supply} (f : Supply → Int) (hx : l[i]? = some x) : restS f (l.drop i) = restS f (l.drop (i + 1)) + f x * x.most := by
  obtain ⟨h, e⟩ := List.getElem?_eq_some_iff.1 hx
  rw [List.drop_eq_getElem_cons h, e, restS_cons]
  omega
/-! ### The best so far -/
def bmB : Best → List Int
  | none => []
  | some (m, _) => m
def bcB : Best → Int
  | none => 0
  | some (_, c) => c
def repB : Best → Vec → Prop
  | none, P => P = .nil
  | some (m, _), P => (∃ b cap sp, P = .at b cap sp) ∧ P.ok 1 m.length (m.flatMap eI)
theorem rep_cases {b : Best} {P : Vec} (h : repB b P) : (b = none ∧ P = .nil) ∨ ∃ m c b0 cap sp, b = some (m, c) ∧ P = .at b0 cap sp ∧ P.ok 1 m.length (m.flatMap eI) := by
  match b, h with
  | none, h => exact .inl ⟨rfl, h⟩
  | some (m, c), ⟨⟨b0, cap, sp, hp⟩, h2⟩ => exact .inr ⟨m, c, b0, cap, sp, rfl, hp, h2⟩
/-! ### What is answered, way by way -/
section
variable {l : List Supply} {q : Ask} {m : List Int} {c : Int}
theorem mixA_3 (h : l.length > 4) : mixA l q = ([], 0, 3) := by unfold mixA; rw [if_pos h]
theorem mixA_1 (h : ¬ l.length > 4) (h2 : ¬ SupsOk l) : mixA l q = ([], 0, 1) := by unfold mixA; rw [if_neg h, if_neg h2]
theorem mixA_2 (h : ¬ l.length > 4) (h2 : SupsOk l) (h3 : ¬ MixB q) : mixA l q = ([], 0, 2) := by unfold mixA; rw [if_neg h, if_pos h2, if_neg h3]
theorem mixA_n (h : ¬ l.length > 4) (h2 : SupsOk l) (h3 : MixB q) (h4 : mixF l q = none) : mixA l q = ([], 0, 4) := by unfold mixA; rw [if_neg h, if_pos h2, if_pos h3, h4]
theorem mixA_s (h : ¬ l.length > 4) (h2 : SupsOk l) (h3 : MixB q) (h4 : mixF l q = some (m, c)) : mixA l q = (m, c, 0) := by unfold mixA; rw [if_neg h, if_pos h2, if_pos h3, h4]
end
end Go.Proofs.Ytjbfdfmngampdaa
