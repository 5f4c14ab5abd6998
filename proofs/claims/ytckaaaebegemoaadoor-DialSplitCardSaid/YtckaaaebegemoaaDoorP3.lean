/-
  What the reference computes, step by step: one number of cubic feet after another; one reading after another.
-/
import Derived.Test.YtckaaaebegemoaaDoorP2
set_option linter.all false
namespace Go.Proofs.YtckaaaebegemoaaDoor
open Go Go.H
theorem turn_succ (k : Nat) : 10 * turnI (k : Int) = turnI ((k + 1 : Nat) : Int) := by
  show 10 * (((10 ^ k : Nat) : Int)) = ((10 ^ (k + 1) : Nat) : Int)
  rw [Nat.pow_succ]; omega
theorem turn_le {k : Nat} (h : k ≤ 6) : 1 ≤ turnI (k : Int) ∧ turnI (k : Int) ≤ 1000000 := by
  have : k = 0 ∨ k = 1 ∨ k = 2 ∨ k = 3 ∨ k = 4 ∨ k = 5 ∨ k = 6 := by omega
  rcases this with rfl | rfl | rfl | rfl | rfl | rfl | rfl <;> decide
def fitsP (d : Dial) (a b : Card) (g : Int) : Prop := d.rate.lo * (b.hour - a.hour) ≤ g ∧ g ≤ d.rate.hi * (b.hour - a.hour) ∧ leastF d a b ≤ g ∧ (d.sticks = true ∨ (g - leastF d a b) % turnI d.digits = 0)
/-! ### One reading after another -/
theorem ins_at {c : Card} : ∀ {l : List Card} {i : Nat}, i ≤ l.length → (∀ j x, j < i → l[j]? = some x → x.hour < c.hour) →
    (i = l.length → insC c l = some (l.take i ++ c :: l.drop i)) ∧ (∀ x, l[i]? = some x → x.hour = c.hour → insC c l = if x = c then some l else none) ∧ (∀ x, l[i]? = some x → c.hour < x.hour → insC c l = some (l.take i ++ c :: l.drop i))
  | [], i, hi, h => by
    have : i = 0 := by simpa using hi
    subst this
    exact ⟨fun _ => rfl, fun x hx => by simp at hx, fun x hx => by simp at hx⟩
  | y :: l, 0, hi, h => by
    refine ⟨fun h => by simp at h, fun x hx he => ?_, fun x hx he => ?_⟩
    · simp at hx; subst hx
      simp only [insC]
      rw [if_neg (by omega), if_pos he]
    · simp at hx; subst hx
      simp only [insC]
      rw [if_neg (by omega), if_neg (by omega)]
      rfl
  | y :: l, i + 1, hi, h => by
    have hy : y.hour < c.hour := h 0 y (by omega) rfl
    obtain ⟨h1, h2, h3⟩ := ins_at (c := c) (l := l) (i := i) (by simpa using hi) (fun j x hj hx => h (j + 1) x (by omega) (by simpa using hx))
    simp only [insC, if_pos hy]
    refine ⟨fun he => ?_, fun x hx he => ?_, fun x hx he => ?_⟩
    · rw [h1 (by simpa using he)]; rfl
    · rw [h2 x (by simpa using hx) he]
      split <;> rfl
    · rw [h3 x (by simpa using hx) he]; rfl
theorem read_mono {cs : List Card} {house : Int} {k : Nat} (h : readL (cs.take k) house = none) : readL cs house = none := by
  have : ∀ ds, readL (cs.take k ++ ds) house = none := by
    intro ds
    induction ds using snoc_ind with
    | h0 => rw [List.append_nil]; exact h
    | h1 ds c ih =>
      rw [← List.append_assoc, read_snoc]
      split
      · rw [ih]; rfl
      · exact ih
  rw [← List.take_append_drop k cs]; exact this _
theorem nohrs : HoursOk [] := fun x hx => by cases hx
/-! ### When a meter is due: hour by hour -/
/-! ### When two spans are one -/
theorem eqc_spanD (a b : Span) : (!eqc [I a.lo, I a.hi] [I b.lo, I b.hi]) = !decide (a = b) := by
  obtain ⟨a, a'⟩ := a
  obtain ⟨b, b'⟩ := b
  simp only [eqc, Span.mk.injEq]
  by_cases ha : a = b <;> by_cases hb : a' = b' <;> simp [ha, hb]
theorem eqc_self : ∀ {xs : List Value}, (∀ x ∈ xs, Num x) → eqc xs xs = true
  | [], _ => rfl
  | x :: xs, h => by
    obtain ⟨n, rfl⟩ := h x List.mem_cons_self
    simp only [eqc, beq_self_eq_true, Bool.true_and]
    exact eqc_self fun y hy => h y (List.mem_cons_of_mem _ hy)
end Go.Proofs.YtckaaaebegemoaaDoor
