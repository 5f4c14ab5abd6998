/-
  Which way a question goes; cards that are turned.
-/
import Derived.Test.YtckaaaebegemoaaDoorP8
import Derived.Test.YtckaaaebegemoaaDoorP4
set_option linter.all false
namespace Go.Proofs.YtckaaaebegemoaaDoor
open Go Go.H
section
variable {r : Rnd} {house f t : Int}
end
/-! ### Cards that are turned -/
/-- The first cards, from one on, round and round. -/
def Rot (cs : List Card) (n : Nat) (k : Nat) (xs : List Card) : Prop := xs.length = k ∧ ∀ i, i < k → xs[i]? = cs[(i + n) % cs.length]?
theorem Rot.snoc {cs xs : List Card} {n k : Nat} {c : Card} (H : Rot cs n k xs) (h : cs[(k + n) % cs.length]? = some c) : Rot cs n (k + 1) (xs ++ [c]) := by
  refine ⟨by rw [List.length_append, H.1]; rfl, fun i hi => ?_⟩
  by_cases h2 : i < k
  · rw [List.getElem?_append_left (by rw [H.1]; exact h2)]; exact H.2 i h2
  · have : i = k := by omega
    subst this
    rw [List.getElem?_append_right (by rw [H.1]; exact Nat.le_refl _), H.1, Nat.sub_self, h]
    rfl
theorem Rot.sub {cs xs : List Card} {n k : Nat} (H : Rot cs n k xs) : ∀ c ∈ xs, c ∈ cs := fun c hc => by
  obtain ⟨i, hi⟩ := List.getElem?_of_mem hc
  have := (List.getElem?_eq_some_iff.1 hi).1
  rw [H.1] at this
  rw [H.2 i this] at hi
  exact List.mem_of_getElem? hi
theorem Rot.all {cs xs : List Card} {n : Nat} (H : Rot cs n cs.length xs) : ∀ c, c ∈ xs ↔ c ∈ cs := fun c => by
  refine ⟨H.sub c, fun hc => ?_⟩
  obtain ⟨j, hj⟩ := List.getElem?_of_mem hc
  have hl := (List.getElem?_eq_some_iff.1 hj).1
  have hm : n % cs.length < cs.length := Nat.mod_lt _ (by omega)
  have key : ∃ i, i < cs.length ∧ (i + n) % cs.length = j := by
    by_cases h : n % cs.length ≤ j
    · refine ⟨j - n % cs.length, by omega, ?_⟩
      rw [← Nat.add_mod_mod, show j - n % cs.length + n % cs.length = j by omega, Nat.mod_eq_of_lt hl]
    · refine ⟨j + cs.length - n % cs.length, by omega, ?_⟩
      rw [← Nat.add_mod_mod, show j + cs.length - n % cs.length + n % cs.length = j + cs.length by omega, Nat.add_mod_right, Nat.mod_eq_of_lt hl]
  obtain ⟨i, h1, h2⟩ := key
  have h3 := H.2 i h1
  rw [h2, hj] at h3
  exact List.mem_of_getElem? h3
def Own_ (house : Int) (xs ys : List Card) : Prop := ys.length ≤ xs.length ∧ ∀ c, c ∈ ys ↔ c ∈ xs ∧ c.house = house
theorem Own_.no {house : Int} {xs ys : List Card} {c : Card} (H : Own_ house xs ys) (h : ¬ c.house = house) : Own_ house (xs ++ [c]) ys := by
  refine ⟨by simp only [List.length_append, List.length_singleton]; have := H.1; omega, fun x => ?_⟩
  simp only [List.mem_append, List.mem_singleton, H.2]
  constructor
  · rintro ⟨h1, h2⟩; exact ⟨.inl h1, h2⟩
  · rintro ⟨h1 | rfl, h2⟩
    · exact ⟨h1, h2⟩
    · exact absurd h2 h
/-- Cards that answer as those of the round do. -/
structure Same (cs : List Card) (house : Int) (xs : List Card) : Prop where
  len : xs.length ≤ 48
  sub : ∀ c ∈ xs, c ∈ cs
  own : ∀ c : Card, c.house = house → (c ∈ xs ↔ c ∈ cs)
section
variable {r : Rnd} {house : Int} {a : Option Addr} {c : Nat} {xs : List Card}
end
/-! ### Where hours part -/
end Go.Proofs.YtckaaaebegemoaaDoor
