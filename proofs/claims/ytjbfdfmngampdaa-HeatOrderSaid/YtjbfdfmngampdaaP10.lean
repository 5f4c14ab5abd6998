/-
  What is due, and the worst hour.
-/
import Derived.Test.YtjbfdfmngampdaaP2
set_option linter.all false
namespace Go.Proofs.Ytjbfdfmngampdaa
open Go Go.H
def sumW (f : Test → Int) (w : List Test) : Int := (w.map f).sum
theorem sumW_snoc (f : Test → Int) (w : List Test) (t : Test) : sumW f (w ++ [t]) = sumW f w + f t := by
  unfold sumW
  rw [List.map_append, List.sum_append_int]
  simp
theorem lackS_sum (d : Decree) (w : List Test) : lackS d w = ⟨(w.length : Int) * mustF d - sumW (·.heat.hi) w, (w.length : Int) * mustF d - sumW (·.heat.lo) w⟩ := by
  induction w using snoc_ind with
  | h0 => simp [lackS, sumW]
  | h1 l t ih =>
    rw [lackS_snoc, ih, sumW_snoc, sumW_snoc, List.length_append, List.length_singleton]
    have : ((l.length + 1 : Nat) : Int) * mustF d = (l.length : Int) * mustF d + mustF d := by rw [Int.natCast_add, Int.add_mul]; simp
    rw [this]
    exact congr (congrArg Span.mk (by dsimp only; omega)) (by dsimp only; omega)
theorem worst_in {d : Decree} {all : List Test} : ∀ l : List Test, l ≠ [] → ∃ t ∈ l, worstF d all l = (ansF (lackF d all t.hour), t.hour) := by
  intro l
  induction l using snoc_ind with
  | h0 => intro h; exact absurd rfl h
  | h1 l t ih =>
    intro _
    have e : worstF d all (l ++ [t]) = worseF (worstF d all l) (ansF (lackF d all t.hour), t.hour) := by unfold worstF; rw [List.foldl_append]; rfl
    rw [e]
    by_cases hl : l = []
    · subst hl
      refine ⟨t, by simp, ?_⟩
      have := ans_bd (lackF d all t.hour)
      exact if_pos (.inl (show ansF (lackF d all t.hour) < 3 by omega))
    · obtain ⟨u, hu, h1⟩ := ih hl
      unfold worseF
      split
      · exact ⟨t, by simp, rfl⟩
      · exact ⟨u, by simp [hu], h1⟩
theorem worst_least {d : Decree} {all : List Test} (l : List Test) : ∀ t ∈ l, (worstF d all l).1 ≤ ansF (lackF d all t.hour) ∧ ((worstF d all l).1 = ansF (lackF d all t.hour) → (worstF d all l).2 ≤ t.hour) := by
  induction l using snoc_ind with
  | h0 => intro t ht; cases ht
  | h1 l u ih =>
    intro t ht
    have e : worstF d all (l ++ [u]) = worseF (worstF d all l) (ansF (lackF d all u.hour), u.hour) := by unfold worstF; rw [List.foldl_append]; rfl
    rw [e]
    unfold worseF
    rcases List.mem_append.1 ht with ht | ht
    · have := ih t ht
      split
      · rename_i h9; dsimp only at h9 ⊢; omega
      · exact this
    · rw [List.mem_singleton.1 ht]
      split
      · exact ⟨Int.le_refl _, fun _ => Int.le_refl _⟩
      · rename_i h9; dsimp only at h9; omega
structure WorstIs (d : Decree) (l : List Test) (wh wk : Int) : Prop where
  kept : keptA d l wh = (wk, 0)
  least : ∀ t ∈ l, wk ≤ ansF (lackF d l t.hour) ∧ (wk = ansF (lackF d l t.hour) → wh ≤ t.hour)
structure DueIs (d : Decree) (l : List Test) (hour : Int) (w : List Test) (m lo hi : Int) : Prop where
  win : w = winL d l hour
  some : 1 ≤ (w.length : Int)
  few : (w.length : Int) ≤ 32
  must : m = (w.length : Int) * mustF d
  lo_ : lo = sumW (·.heat.lo) w
  hi_ : hi = sumW (·.heat.hi) w
  lo0 : 0 ≤ lo
  lohi : lo ≤ hi
  hi1 : hi ≤ 320000
  must0 : 0 ≤ m
  must1 : m ≤ 320000
end Go.Proofs.Ytjbfdfmngampdaa
