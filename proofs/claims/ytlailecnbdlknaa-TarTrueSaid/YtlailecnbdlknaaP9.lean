/-
  The best plan: all plans that can be are among those that are tried, in lexicographic order; the first of those with the greatest income is kept.
-/
import Derived.Test.YtlailecnbdlknaaP5
set_option linter.all false
namespace Go.Proofs.Ytlailecnbdlknaa
open Go Go.H
def LexLt (p q : List Int) : Prop := ∃ k a b, p.take k = q.take k ∧ p[k]? = some a ∧ q[k]? = some b ∧ a < b
theorem LexLt.irrefl {p : List Int} : ¬ LexLt p p := fun ⟨k, a, b, _, h1, h2, h3⟩ => by rw [h1] at h2; cases h2; omega
theorem take_get_lt {p q : List Int} {k i : Nat} (h : p.take k = q.take k) (hi : i < k) : p[i]? = q[i]? := by
  have := congrArg (fun l => l[i]?) h
  simpa [List.getElem?_take, hi] using this
theorem LexLt.asymm {p q : List Int} (h1 : LexLt p q) (h2 : LexLt q p) : False := by
  obtain ⟨k, a, b, e1, p1, q1, l1⟩ := h1
  obtain ⟨j, c, d, e2, q2, p2, l2⟩ := h2
  rcases Nat.lt_trichotomy k j with h | rfl | h
  · have := take_get_lt e2 h; rw [p1, q1] at this; cases this; omega
  · rw [p1] at p2; rw [q1] at q2; cases p2; cases q2; omega
  · have := take_get_lt e1 h; rw [p2, q2] at this; cases this; omega
theorem plansG_pre {xs : List Still} {pre : List Int} {g : Goods} {p : List Int} (h : p ∈ plansG xs pre g) : p.take pre.length = pre := by
  obtain ⟨ts, rfl, _⟩ := plansG_mem h
  simp
theorem ways_pair (x : Still) (g : Goods) : (ways x g).Pairwise (· < ·) := by
  refine List.Pairwise.sublist (List.takeWhile_sublist _) ?_
  unfold nums
  rw [List.pairwise_map]
  exact List.pairwise_lt_range.imp (fun h => by omega)
theorem plansG_sorted : ∀ (xs : List Still) (pre : List Int) (g : Goods), (plansG xs pre g).Pairwise LexLt
  | [], pre, g => by simp [plansG]
  | x :: xs, pre, g => by
    unfold plansG
    rw [List.pairwise_flatMap]
    refine ⟨fun n _ => plansG_sorted xs _ _, (ways_pair x g).imp (fun {n m} hnm p hp q hq => ?_)⟩
    have h1 := plansG_pre hp
    have h2 := plansG_pre hq
    have l1 : (pre ++ [n]).length = pre.length + 1 := by simp
    have l2 : (pre ++ [m]).length = pre.length + 1 := by simp
    rw [l1] at h1
    rw [l2] at h2
    refine ⟨pre.length, n, m, ?_, ?_, ?_, hnm⟩
    · have e1 := congrArg (List.take pre.length) h1
      have e2 := congrArg (List.take pre.length) h2
      simp [List.take_take] at e1 e2
      rw [e1, e2]
    · have e1 := congrArg (fun l => l[pre.length]?) h1
      simpa [List.getElem?_take] using e1
    · have e1 := congrArg (fun l => l[pre.length]?) h2
      simpa [List.getElem?_take] using e1
theorem canWork_le {x : Still} {g : Goods} {a b : Int} (hx : 1 ≤ x.takes) (h : a ≤ b) (hc : canWork x b g = true) : canWork x a g = true := by
  simp only [canWork, decide_eq_true_eq] at *
  have := Int.mul_le_mul_of_nonneg_left h (show 0 ≤ x.takes by omega)
  omega
theorem mem_ways {x : Still} {g : Goods} {n : Int} (hx : 1 ≤ x.takes) (h0 : 0 ≤ n) (h1 : n ≤ x.most) (hc : canWork x n g = true) : n ∈ ways x g := by
  obtain ⟨k, rfl⟩ := Int.eq_ofNat_of_zero_le h0
  obtain ⟨r, hr⟩ := ways_take (x := x) (g := g) (k := k) h1 (fun j hj => canWork_le hx (show (j : Int) ≤ k by omega) hc)
  rw [hr, nums_succ]
  simp
theorem plansG_all : ∀ {xs : List Still} {pre ts : List Int} {g g' : Goods}, (∀ x ∈ xs, 1 ≤ x.takes) → ts.length = xs.length → (∀ (j : Nat) (x : Still) (t : Int), xs[j]? = some x → ts[j]? = some t → 0 ≤ t ∧ t ≤ x.most) → afterG xs ts g = some g' → pre ++ ts ∈ plansG xs pre g
  | [], pre, ts, g, g', _, hl, _, _ => by
    have : ts = [] := List.length_eq_zero_iff.1 (by simpa using hl)
    subst this
    simp [plansG]
  | x :: xs, pre, [], g, g', _, hl, _, _ => by simp at hl
  | x :: xs, pre, t :: ts, g, g', hx, hl, hp, h => by
    unfold afterG at h
    split at h
    · rename_i hc
      have ht := hp 0 x t rfl rfl
      have := plansG_all (pre := pre ++ [t]) (fun z hz => hx z (List.mem_cons_of_mem _ hz)) (by simpa using hl) (fun j z u hz hu => hp (j + 1) z u hz hu) h
      unfold plansG
      rw [List.mem_flatMap]
      exact ⟨t, mem_ways (hx x List.mem_cons_self) ht.1 ht.2 hc, by simpa using this⟩
    · cases h
theorem GoodYard.takes {y : Yard} (hy : GoodYard y) : ∀ x ∈ y.stills, 1 ≤ x.takes := fun x hx => by
  obtain ⟨j, hj⟩ := List.getElem?_of_mem hx
  exact (hy.stills j x hj).2.1.1
theorem plansY_all {y : Yard} (hy : GoodYard y) {p : List Int} {g : Goods} (hl : p.length = y.stills.length) (hp : PlanOk y p) (h : afterG y.stills p (newG y) = some g) : p ∈ plansY y := by
  have := plansG_all (pre := []) hy.takes hl hp h
  rw [List.nil_append] at this
  exact this
/-- What is kept of the first k plans. -/
structure Best (y : Yard) (l : List (List Int)) (k : Nat) (q : List Int) (m : Int) : Prop where
  inc : m = incomeP y q
  top : ∀ j p, j < k → l[j]? = some p → incomeP y p ≤ m
  fst : ∃ i, i < k ∧ l[i]? = some q ∧ ∀ j p, j < i → l[j]? = some p → incomeP y p < m
theorem bestF_spec {y : Yard} {l : List (List Int)} : ∀ k, k ≤ l.length → (k = 0 ∧ bestF y (l.take k) = none) ∨ ∃ q m, bestF y (l.take k) = some (q, m) ∧ Best y l k q m
  | 0, _ => .inl ⟨rfl, rfl⟩
  | k + 1, hk => by
    right
    have hk' : k < l.length := hk
    have hp : l[k]? = some l[k] := List.getElem?_eq_getElem hk'
    rw [bestF_succ hp]
    rcases bestF_spec (y := y) (l := l) k (by omega) with ⟨rfl, h⟩ | ⟨q, m, h, hb⟩
    · rw [h]
      refine ⟨l[0], _, rfl, rfl, fun j p hj hp2 => ?_, 0, by omega, hp, fun j p hj => by omega⟩
      obtain rfl : j = 0 := by omega
      rw [hp] at hp2; cases hp2; exact Int.le_refl _
    · rw [h]
      unfold stepB
      dsimp only
      split
      · rename_i hgt
        refine ⟨_, _, rfl, rfl, fun j p hj hp2 => ?_, k, by omega, hp, fun j p hj hp2 => ?_⟩
        · rcases Nat.lt_succ_iff_lt_or_eq.1 hj with hj | rfl
          · have := hb.top j p hj hp2; omega
          · rw [hp] at hp2; cases hp2; exact Int.le_refl _
        · have := hb.top j p hj hp2; omega
      · rename_i hgt
        obtain ⟨i, hi, hq, hlt⟩ := hb.fst
        refine ⟨_, _, rfl, hb.inc, fun j p hj hp2 => ?_, i, by omega, hq, hlt⟩
        rcases Nat.lt_succ_iff_lt_or_eq.1 hj with hj | rfl
        · exact hb.top j p hj hp2
        · rw [hp] at hp2; cases hp2; omega
def zeros (n : Nat) : List Int := List.replicate n 0
theorem after_zeros : ∀ {xs : List Still} {g : Goods}, (∀ j, 0 ≤ (g j).lo) → ∃ g', afterG xs (zeros xs.length) g = some g'
  | [], g, _ => ⟨g, rfl⟩
  | x :: xs, g, hg => by
    have hc : canWork x 0 g = true := by simp only [canWork, decide_eq_true_eq, Int.mul_zero]; exact hg _
    have hw : workG x 0 g = g := by
      funext j
      simp only [workG, addG, takeG, Int.mul_zero, Int.zero_mul, Int.sub_zero, Int.add_zero]
      split <;> (try split) <;> rfl
    show ∃ g', (if canWork x 0 g then afterG xs (zeros xs.length) (workG x 0 g) else none) = some g'
    rw [if_pos hc, hw]
    exact after_zeros hg
theorem plansY_ne {y : Yard} (hy : GoodYard y) : plansY y ≠ [] := by
  obtain ⟨g, hg⟩ := after_zeros (xs := y.stills) (g := newG y) (fun j => (GB.new hy j).1)
  have := plansY_all hy (p := zeros y.stills.length) (by simp [zeros]) (fun k x t hx ht => by
    have := List.getElem?_eq_some_iff.1 ht
    obtain ⟨h1, h2⟩ := this
    have h3 : t = 0 := by rw [← h2]; simp [zeros]
    have h4 := (hy.stills k x hx).2.2.2.2.1
    omega) hg
  exact List.ne_nil_of_mem this
/-- The best plan of a valid yard. -/
structure IsBest (y : Yard) (q : List Int) (m : Int) : Prop where
  len : q.length = y.stills.length
  ok : PlanOk y q
  after : ∃ g, afterG y.stills q (newG y) = some g ∧ GB y.stills.length g ∧ m = incomeY y q g
  top : ∀ p g, p.length = y.stills.length → PlanOk y p → afterG y.stills p (newG y) = some g → incomeY y p g ≤ m ∧ (incomeY y p g = m → ¬ LexLt p q)
theorem best_is {y : Yard} (hy : GoodYard y) : ∃ q m, bestY y = some (q, m) ∧ IsBest y q m := by
  have hs := bestF_spec (y := y) (l := plansY y) (plansY y).length (Nat.le_refl _)
  rw [List.take_length] at hs
  rcases hs with ⟨h0, _⟩ | ⟨q, m, hb, hB⟩
  · exact (plansY_ne hy (List.length_eq_zero_iff.1 h0)).elim
  · obtain ⟨i, hi, hq, hlt⟩ := hB.fst
    obtain ⟨h1, h2, g, h3, h4⟩ := plansY_ok hy (List.mem_of_getElem? hq)
    refine ⟨q, m, hb, h1, h2, ⟨g, h3, h4, by rw [hB.inc, incomeP_eq h3]⟩, fun p g' hp1 hp2 hp3 => ?_⟩
    obtain ⟨j, hj⟩ := List.getElem?_of_mem (plansY_all hy hp1 hp2 hp3)
    have hjl := (List.getElem?_eq_some_iff.1 hj).1
    have hle := hB.top j p hjl hj
    rw [incomeP_eq hp3] at hle
    refine ⟨hle, fun he hlex => ?_⟩
    rcases Nat.lt_trichotomy j i with h | rfl | h
    · have := hlt j p h hj
      rw [incomeP_eq hp3] at this
      omega
    · rw [hq] at hj; cases hj; exact LexLt.irrefl hlex
    · have hP := plansG_sorted y.stills [] (newG y)
      have : LexLt (plansY y)[i] (plansY y)[j] := List.pairwise_iff_getElem.1 hP i j hi hjl h
      have e1 := (List.getElem?_eq_some_iff.1 hq).2
      have e2 := (List.getElem?_eq_some_iff.1 hj).2
      rw [e1, e2] at this
      exact LexLt.asymm hlex this
end Go.Proofs.Ytlailecnbdlknaa
