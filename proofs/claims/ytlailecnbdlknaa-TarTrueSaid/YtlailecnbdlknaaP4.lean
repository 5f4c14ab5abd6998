/-
  All plans that can be, in plain lists.
-/
import Derived.Test.YtlailecnbdlknaaP3
import Derived.Test.YtlailecnbdlknaaHF
set_option linter.all false
namespace Go.Proofs.Ytlailecnbdlknaa
open Go Go.H
def ways (x : Still) (g : Goods) : List Int := (nums (x.most + 1).toNat).takeWhile (fun n => canWork x n g)
def plansG : List Still → List Int → Goods → List (List Int)
  | [], pre, _ => [pre]
  | x :: xs, pre, g => (ways x g).flatMap fun n => plansG xs (pre ++ [n]) (workG x n g)
def plansY (y : Yard) : List (List Int) := plansG y.stills [] (newG y)
theorem nums_split {k : Nat} : ∀ {n : Nat}, k < n → ∃ r, nums n = nums k ++ (k : Int) :: r
  | 0, h => absurd h (Nat.not_lt_zero _)
  | n + 1, h => by
    rw [nums_succ]
    by_cases hk : k = n
    · subst hk; exact ⟨[], rfl⟩
    · obtain ⟨r, hr⟩ := nums_split (show k < n by omega)
      exact ⟨r ++ [(n : Int)], by rw [hr]; simp⟩
theorem mem_nums2 {n : Nat} {i : Int} (h : i ∈ nums n) : ∃ j : Nat, j < n ∧ i = j := by
  simp only [nums, List.mem_map, List.mem_range] at h
  obtain ⟨a, h1, rfl⟩ := h
  exact ⟨a, h1, rfl⟩
theorem ways_stop {x : Still} {g : Goods} {k : Nat} (hk : (k : Int) ≤ x.most) (h1 : ∀ j : Nat, j < k → canWork x j g = true) (h2 : canWork x k g = false) : ways x g = nums k := by
  obtain ⟨r, hr⟩ := nums_split (show k < (x.most + 1).toNat by omega)
  unfold ways
  rw [hr, List.takeWhile_append_of_pos (fun a ha => by obtain ⟨j, hj, rfl⟩ := mem_nums2 ha; exact h1 j hj), List.takeWhile_cons_of_neg (by simp [h2]), List.append_nil]
theorem ways_full {x : Still} {g : Goods} {k : Nat} (hk : (k : Int) = x.most + 1) (h1 : ∀ j : Nat, j < k → canWork x j g = true) : ways x g = nums k := by
  unfold ways
  rw [show (x.most + 1).toNat = k by omega]
  have := List.takeWhile_append_of_pos (p := fun n => canWork x n g) (l₁ := nums k) (l₂ := []) (fun a ha => by obtain ⟨j, hj, rfl⟩ := mem_nums2 ha; exact h1 j hj)
  simpa using this
theorem ways_take {x : Still} {g : Goods} {k : Nat} (hk : (k : Int) ≤ x.most) (h1 : ∀ j : Nat, j < k + 1 → canWork x j g = true) : ∃ r, ways x g = nums (k + 1) ++ r := by
  by_cases h : (k : Int) + 1 = x.most + 1
  · exact ⟨[], by rw [ways_full (k := k + 1) (by push_cast; omega) h1, List.append_nil]⟩
  · obtain ⟨r, hr⟩ := nums_split (show k + 1 < (x.most + 1).toNat by omega)
    unfold ways
    rw [hr, List.takeWhile_append_of_pos (fun a ha => by obtain ⟨j, hj, rfl⟩ := mem_nums2 ha; exact h1 j hj)]
    exact ⟨_, rfl⟩
/-- What is handed out: a plan as a slice. -/
def EncP (x : List Int) (vs : List Value) (p : Hp) : Prop := ∃ a c, vs = [.slice a x.length c] ∧ SlV p 1 eI a x
theorem perm3 {α : Type _} {p h : List α} {x u v : α} : List.Perm ([x, u, v] ++ (p ++ h)) (x :: (p ++ u :: v :: h)) := by
  show List.Perm (x :: u :: v :: (p ++ h)) _
  exact List.Perm.cons _ ((List.perm_middle.trans (List.perm_middle.cons _)).symm)
/-- The plans with one still worked k times. -/
def subP (y : Yard) (plan : List Int) (x : Still) (g : Goods) (n : Int) : List (List Int) := plansG (y.stills.drop (plan.length + 1)) (plan ++ [n]) (workG x n g)
theorem plans_at {y : Yard} {plan : List Int} {x : Still} {g : Goods} (h : y.stills[plan.length]? = some x) : plansG (y.stills.drop plan.length) plan g = (ways x g).flatMap (subP y plan x g) := by
  obtain ⟨h1, h2⟩ := List.getElem?_eq_some_iff.1 h
  rw [List.drop_eq_getElem_cons h1, h2]; rfl
theorem plans_end {y : Yard} {plan : List Int} {g : Goods} (h : plan.length = y.stills.length) : plansG (y.stills.drop plan.length) plan g = [plan] := by
  rw [h, List.drop_length]; rfl
def subs (y : Yard) (plan : List Int) (x : Still) (g : Goods) (k : Nat) : List (List Int) := (nums k).flatMap (subP y plan x g)
theorem subs_succ {y : Yard} {plan : List Int} {x : Still} {g : Goods} {k : Nat} : subs y plan x g (k + 1) = subs y plan x g k ++ subP y plan x g k := by
  unfold subs; rw [nums_succ, List.flatMap_append, List.flatMap_cons, List.flatMap_nil, List.append_nil]
theorem subs_at {y : Yard} {plan : List Int} {x : Still} {g : Goods} {k : Nat} {all : List (List Int)} {idx : Nat} (hx : y.stills[plan.length]? = some x) (hall : ∀ j z, (plansG (y.stills.drop plan.length) plan g)[j]? = some z → all[idx + j]? = some z)
    (hk : (k : Int) ≤ x.most) (h1 : ∀ j : Nat, j < k + 1 → canWork x j g = true) : ∀ j z, (plansG (y.stills.drop (plan ++ [(k : Int)]).length) (plan ++ [(k : Int)]) (workG x k g))[j]? = some z → all[(idx + (subs y plan x g k).length) + j]? = some z := by
  intro j z hz
  obtain ⟨r, hr⟩ := ways_take hk h1
  have hz' : (subP y plan x g k)[j]? = some z := by
    unfold subP; rwa [List.length_append, List.length_singleton] at hz
  have hlt := (List.getElem?_eq_some_iff.1 hz').1
  rw [Nat.add_assoc]
  refine hall _ _ ?_
  rw [plans_at hx, hr, List.flatMap_append, show (nums (k + 1)).flatMap (subP y plan x g) = subs y plan x g (k + 1) from rfl, subs_succ, List.append_assoc, List.getElem?_append_right (by omega), Nat.add_sub_cancel_left, List.getElem?_append_left hlt]
  exact hz'
theorem holds2 {h : Hp} {b1 b2 : Nat} {o1 o2 : Obj} {p1 p2 : Obj → Prop} (m1 : (b1, o1) ∈ h) (q1 : p1 o1) (m2 : (b2, o2) ∈ h) (q2 : p2 o2) : Holds [(b1, p1), (b2, p2)] h := fun b' p' hb => by
  simp only [List.mem_cons, List.not_mem_nil, or_false, Prod.mk.injEq] at hb
  rcases hb with ⟨rfl, rfl⟩ | ⟨rfl, rfl⟩
  · exact ⟨o1, m1, q1⟩
  · exact ⟨o2, m2, q2⟩
end Go.Proofs.Ytlailecnbdlknaa
