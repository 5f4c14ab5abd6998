/-
  What is due, and the worst hour.
-/
import Derived.Test.YtjbfdfmngampdaaP2
set_option linter.all false
namespace Go.Proofs.Ytjbfdfmngampdaa
open Go Go.H
def sumW (f : Test → Int) (w : List Test) : Int := (w.map f).sum
theorem sumW_snoc (f : Test → Int) (w : List Test) (t : Test) : sumW f (w ++ [t]) = sumW f w + f t := by
  unfold sumW
  rw [List.map_append, List.sum_append_int]
  simp
theorem lackS_sum (d : Decree) (w : List Test) : lackS d w = ⟨(w.length : Int) * mustF d - sumW (·.heat.hi) w, (w.length : Int) * mustF d - sumW (·.heat.lo) w⟩ := by
  induction w using snoc_ind with
  | h0 => simp [lackS, sumW]
  | h1 l t ih =>
    rw [lackS_snoc, ih, sumW_snoc, sumW_snoc, List.length_append, List.length_singleton]
    have : ((l.length + 1 : Nat) : Int) * mustF d = (l.length : Int) * mustF d + mustF d := by rw [Int.natCast_add, Int.add_mul]; simp
    rw [this]
    exact congr (congrArg Span.mk (by dsimp only; omega)) (by dsimp only; omega)
theorem sumW_bd {w : List Test} (h : AllOk w) : 0 ≤ sumW (·.heat.lo) w ∧ sumW (·.heat.lo) w ≤ sumW (·.heat.hi) w ∧ sumW (·.heat.hi) w ≤ 10000 * (w.length : Int) := by
  induction w using snoc_ind with
  | h0 => simp [sumW]
  | h1 l t ih =>
    have ih := ih fun x hx => h x (List.mem_append_left _ hx)
    obtain ⟨_, _, a, b, c⟩ := h t (by simp)
    rw [sumW_snoc, sumW_snoc, List.length_append, List.length_singleton]
    omega
theorem pay_neg {d : Decree} {a n : Int} (h : a ≤ 0) : payF d a n = 0 := if_pos h
theorem pay_pos {d : Decree} {a n : Int} (h : 0 < a) (hp : 0 < d.pay) (hn : 1 ≤ n) : payF d a n ≠ 0 := by
  unfold payF
  rw [if_neg (by omega)]
  have h1 : 0 < a * d.pay := Int.mul_pos h hp
  have h2 : 1 ≤ (a * d.pay + n - 1) / n := (Int.le_ediv_iff_mul_le (by omega)).2 (by omega)
  omega
theorem pay_mono {d : Decree} {a b n : Int} (hp : 0 ≤ d.pay) (hn : 1 ≤ n) (h : a ≤ b) : payF d a n ≤ payF d b n := by
  have hnn : ∀ x : Int, 0 < x → 0 ≤ (x * d.pay + n - 1) / n := fun x hx => Int.ediv_nonneg (by have := Int.mul_nonneg (show 0 ≤ x by omega) hp; omega) (by omega)
  unfold payF
  by_cases ha : a ≤ 0
  · rw [if_pos ha]
    split
    · exact Int.le_refl _
    · exact hnn b (by omega)
  · rw [if_neg ha, if_neg (by omega)]
    have := Int.mul_le_mul_of_nonneg_right h hp
    exact Int.ediv_le_ediv (by omega) (by omega)
theorem worst_in {d : Decree} {all : List Test} : ∀ l : List Test, l ≠ [] → ∃ t ∈ l, worstF d all l = (ansF (lackF d all t.hour), t.hour) := by
  intro l
  induction l using snoc_ind with
  | h0 => intro h; exact absurd rfl h
  | h1 l t ih =>
    intro _
    have e : worstF d all (l ++ [t]) = worseF (worstF d all l) (ansF (lackF d all t.hour), t.hour) := by unfold worstF; rw [List.foldl_append]; rfl
    rw [e]
    by_cases hl : l = []
    · subst hl
      refine ⟨t, by simp, ?_⟩
      have := ans_bd (lackF d all t.hour)
      exact if_pos (.inl (show ansF (lackF d all t.hour) < 3 by omega))
    · obtain ⟨u, hu, h1⟩ := ih hl
      unfold worseF
      split
      · exact ⟨t, by simp, rfl⟩
      · exact ⟨u, by simp [hu], h1⟩
theorem worst_least {d : Decree} {all : List Test} (l : List Test) : ∀ t ∈ l, (worstF d all l).1 ≤ ansF (lackF d all t.hour) ∧ ((worstF d all l).1 = ansF (lackF d all t.hour) → (worstF d all l).2 ≤ t.hour) := by
  induction l using snoc_ind with
  | h0 => intro t ht; cases ht
  | h1 l u ih =>
    intro t ht
    have e : worstF d all (l ++ [u]) = worseF (worstF d all l) (ansF (lackF d all u.hour), u.hour) := by unfold worstF; rw [List.foldl_append]; rfl
    rw [e]
    unfold worseF
    rcases List.mem_append.1 ht with ht | ht
    · have := ih t ht
      split
      · rename_i h9; dsimp only at h9 ⊢; omega
      · exact this
    · rw [List.mem_singleton.1 ht]
      split
      · exact ⟨Int.le_refl _, fun _ => Int.le_refl _⟩
      · rename_i h9; dsimp only at h9; omega
structure WorstIs (d : Decree) (l : List Test) (wh wk : Int) : Prop where
  kept : keptA d l wh = (wk, 0)
  least : ∀ t ∈ l, wk ≤ ansF (lackF d l t.hour) ∧ (wk = ansF (lackF d l t.hour) → wh ≤ t.hour)
structure DueIs (d : Decree) (l : List Test) (hour : Int) (w : List Test) (m lo hi : Int) : Prop where
  win : w = winL d l hour
  some : 1 ≤ (w.length : Int)
  few : (w.length : Int) ≤ 32
  must : m = (w.length : Int) * mustF d
  lo_ : lo = sumW (·.heat.lo) w
  hi_ : hi = sumW (·.heat.hi) w
  lo0 : 0 ≤ lo
  lohi : lo ≤ hi
  hi1 : hi ≤ 320000
  must0 : 0 ≤ m
  must1 : m ≤ 320000
theorem due_cases {d : Decree} {l : List Test} {hour : Int} : (∃ e, e ≠ 0 ∧ e ≠ 1 ∧ e ≠ 3 ∧ keptA d l hour = (0, e) ∧ dueA d l hour = (⟨0, 0⟩, e)) ∨ (keptA d l hour = (0, 1) ∧ dueA d l hour = (⟨0, 0⟩, 1) ∧ worstA d l = (0, 0, 1)) ∨ (keptA d l hour = (0, 3) ∧ dueA d l hour = (⟨0, 0⟩, 3) ∧ worstA d l = (0, 0, 3)) ∨
    ∃ w m lo hi wh wk, startE d l = 0 ∧ hourOk hour ∧ DueIs d l hour w m lo hi ∧ WorstIs d l wh wk ∧ keptA d l hour = (ansF ⟨m - hi, m - lo⟩, 0) ∧ dueA d l hour = (⟨payF d (m - hi) (w.length : Int), payF d (m - lo) (w.length : Int)⟩, 0) ∧ worstA d l = (wh, wk, 0) := by
  have due0 : ∀ e, e ≠ 0 → keptA d l hour = (0, e) → dueA d l hour = (⟨0, 0⟩, e) := fun e he h => by unfold dueA; rw [h, if_neg he]
  by_cases hs : startE d l = 0
  · obtain ⟨h1, h2, h3⟩ := start_ok hs
    by_cases hh : hourOk hour
    · by_cases hn : lackN d l hour = 0
      · have e : keptA d l hour = (0, 4) := by unfold keptA; rw [if_pos hs, if_pos hh, if_pos hn]
        exact .inl ⟨4, by decide, by decide, by decide, e, due0 4 (by decide) e⟩
      · have e : keptA d l hour = (ansF (lackF d l hour), 0) := by unfold keptA; rw [if_pos hs, if_pos hh, if_neg hn]
        have hw := win_len d l hour
        have hb := sumW_bd (win_ok (d := d) (hour := hour) h3)
        have eL := lackS_sum d (winL d l hour)
        have hne : l ≠ [] := by
          intro h9
          unfold lackN at hn
          rw [h9] at hn
          exact hn rfl
        obtain ⟨t, ht, ew⟩ := worst_in (d := d) (all := l) l hne
        have hls := worst_least (d := d) (all := l) l
        rw [ew] at hls
        have hl0 : l.length ≠ 0 := fun h9 => hne (List.length_eq_zero_iff.1 h9)
        refine .inr (.inr (.inr ⟨winL d l hour, _, _, _, t.hour, ansF (lackF d l t.hour), hs, hh, ⟨rfl, by unfold lackN at hn; omega, by omega, rfl, rfl, rfl, hb.1, hb.2.1, by omega, ?_, ?_⟩, ⟨kept_self hs ht, hls⟩, ?_, ?_, ?_⟩))
        · exact Int.mul_nonneg (by omega) (by have := h2.2.2.1; unfold mustF; omega)
        · have := h2.2.1; have h8 := h2.2.2.1
          have h9 : ((winL d l hour).length : Int) * mustF d ≤ 32 * 10000 := Int.mul_le_mul (by omega) (by unfold mustF; omega) (by unfold mustF; omega) (by omega)
          omega
        · rw [e]; unfold lackF; rw [eL]
        · unfold dueA
          rw [e, if_pos rfl]
          unfold lackF lackN
          rw [eL]
        · unfold worstA
          rw [if_pos hs, if_neg hl0, ew]
    · have e : keptA d l hour = (0, 2) := by unfold keptA; rw [if_pos hs, if_neg hh]
      exact .inl ⟨2, by decide, by decide, by decide, e, due0 2 (by decide) e⟩
  · have e : keptA d l hour = (0, startE d l) := by unfold keptA; rw [if_neg hs]
    have ew : worstA d l = (0, 0, startE d l) := by unfold worstA; rw [if_neg hs]
    have h13 : startE d l = 1 ∨ startE d l = 3 := by unfold startE at hs ⊢; split <;> (try split) <;> simp_all
    rcases h13 with h | h
    · rw [h] at e ew; exact .inr (.inl ⟨e, due0 1 (by decide) e, ew⟩)
    · rw [h] at e ew; exact .inr (.inr (.inl ⟨e, due0 3 (by decide) e, ew⟩))
theorem ans_cases (m lo hi : Int) (h : lo ≤ hi) : (ansF ⟨m - hi, m - lo⟩ = 2 ∧ m ≤ lo) ∨ (ansF ⟨m - hi, m - lo⟩ = 0 ∧ lo < m ∧ hi < m) ∨ (ansF ⟨m - hi, m - lo⟩ = 1 ∧ lo < m ∧ m ≤ hi) := by
  unfold ansF
  dsimp only
  by_cases h1 : m - lo ≤ 0
  · exact .inl ⟨if_pos h1, by omega⟩
  · rw [if_neg h1]
    by_cases h2 : m - hi > 0
    · exact .inr (.inl ⟨if_pos h2, by omega, by omega⟩)
    · exact .inr (.inr ⟨if_neg h2, by omega, by omega⟩)
end Go.Proofs.Ytjbfdfmngampdaa
