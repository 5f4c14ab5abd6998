/-
  What the reference computes, step by step: one number of cubic feet after another; one reading after another.
-/
import Derived.Test.YtckaaaebegemoaaDoorP2
set_option linter.all false
namespace Go.Proofs.YtckaaaebegemoaaDoor
open Go Go.H
theorem turn_succ (k : Nat) : 10 * turnI (k : Int) = turnI ((k + 1 : Nat) : Int) := by
  show 10 * (((10 ^ k : Nat) : Int)) = ((10 ^ (k + 1) : Nat) : Int)
  rw [Nat.pow_succ]; omega
theorem turn_le {k : Nat} (h : k ≤ 6) : 1 ≤ turnI (k : Int) ∧ turnI (k : Int) ≤ 1000000 := by
  have : k = 0 ∨ k = 1 ∨ k = 2 ∨ k = 3 ∨ k = 4 ∨ k = 5 ∨ k = 6 := by omega
  rcases this with rfl | rfl | rfl | rfl | rfl | rfl | rfl <;> decide
def fitsP (d : Dial) (a b : Card) (g : Int) : Prop := d.rate.lo * (b.hour - a.hour) ≤ g ∧ g ≤ d.rate.hi * (b.hour - a.hour) ∧ leastF d a b ≤ g ∧ (d.sticks = true ∨ (g - leastF d a b) % turnI d.digits = 0)
/-! ### One reading after another -/
theorem nohrs : HoursOk [] := fun x hx => by cases hx
/-! ### When a meter is due: hour by hour -/
/-! ### When two spans are one -/
theorem eqc_spanD (a b : Span) : (!eqc [I a.lo, I a.hi] [I b.lo, I b.hi]) = !decide (a = b) := by
  obtain ⟨a, a'⟩ := a
  obtain ⟨b, b'⟩ := b
  simp only [eqc, Span.mk.injEq]
  by_cases ha : a = b <;> by_cases hb : a' = b' <;> simp [ha, hb]
theorem eqc_self : ∀ {xs : List Value}, (∀ x ∈ xs, Num x) → eqc xs xs = true
  | [], _ => rfl
  | x :: xs, h => by
    obtain ⟨n, rfl⟩ := h x List.mem_cons_self
    simp only [eqc, beq_self_eq_true, Bool.true_and]
    exact eqc_self fun y hy => h y (List.mem_cons_of_mem _ hy)
end Go.Proofs.YtckaaaebegemoaaDoor
