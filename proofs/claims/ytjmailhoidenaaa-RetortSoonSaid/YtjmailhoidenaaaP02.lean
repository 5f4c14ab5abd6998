/-
  Small facts for the walks of the laws.
-/
import Derived.Test.YtjmailhoidenaaaP02a
set_option linter.all false
namespace Go.Proofs.Ytjmailhoidenaaa
open Go Go.H
theorem at_drop {α : Type} {l xs : List α} {p sz j : Nat} {v : α} (h : (l.drop p).take sz = xs) (hj : xs[j]? = some v) : l[p + j]? = some v := by
  subst h
  rw [List.getElem?_take] at hj
  split at hj
  · rwa [List.getElem?_drop] at hj
  · cases hj
theorem ov_at {ov : Nat → Oven} {i : Nat} (hi : i < 8) : ((eOvens ov).drop (0 + i * 5)).take 5 = eOven (ov i) := by
  rcases i with _ | _ | _ | _ | _ | _ | _ | _ | i <;> first | (exfalso; omega) | rfl
theorem bnq {p q : Bool} (h : p = true ↔ q = true) : (!(p == q)) = false := by cases p <;> cases q <;> simp_all
theorem tals_take {i : Int} {l : List Stoke} {k : Nat} {x : Stoke} (hk : l[k]? = some x) : tals i (l.take (k + 1)) = tal i (tals i (l.take k)) x := by
  rw [List.take_add_one, hk]; exact tals_snoc _ _ _
theorem cntH_take {h : Int} {l : List Stoke} {k : Nat} {x : Stoke} (hk : l[k]? = some x) : cntH h (l.take (k + 1)) = cntH h (l.take k) + (if x.hour = h then 1 else 0) := by
  rw [List.take_add_one, hk]; exact cntH_snoc _ _ _
theorem tals_bound (i : Int) (l : List Stoke) : (0 ≤ (tals i l).runs ∧ (tals i l).runs ≤ l.length) ∧ (0 ≤ (tals i l).lit ∧ (tals i l).lit ≤ l.length) := by
  have key : ∀ k, k ≤ l.length → (0 ≤ (tals i (l.take k)).runs ∧ (tals i (l.take k)).runs ≤ k) ∧ (0 ≤ (tals i (l.take k)).lit ∧ (tals i (l.take k)).lit ≤ k) := by
    intro k
    induction k with
    | zero => intro _; simp [tals]
    | succ k ih =>
      intro hk
      obtain ⟨x, hx⟩ : ∃ x, l[k]? = some x := ⟨_, List.getElem?_eq_getElem (by omega)⟩
      have h2 := ih (by omega)
      rw [tals_take hx]
      unfold tal
      repeat' split
      all_goals (try dsimp only) <;> omega
  have := key l.length (Nat.le_refl _)
  rwa [List.take_length] at this
theorem cntH_bound (h : Int) (l : List Stoke) : 0 ≤ cntH h l ∧ cntH h l ≤ l.length := by
  have := List.length_filter_le (fun x : Stoke => decide (x.hour = h)) l
  unfold cntH; omega
end Go.Proofs.Ytjmailhoidenaaa
