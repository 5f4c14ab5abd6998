/-
  The cases of a plan; the states of the walk of what is true.
-/
import Derived.Test.YtlailecnbdlknaaP17
import Derived.Test.YtlailecnbdlknaaP20
set_option linter.all false
namespace Go.Proofs.Ytlailecnbdlknaa
open Go Go.H
theorem tarCases (y : Yard) (plan : List Int) : (¬ GoodYard y ∧ leftR y plan = ([], 1) ∧ incR y plan = (0, [], 1)) ∨ (GoodYard y ∧ leftR y plan = ([], 2) ∧ incR y plan = (0, [], 2)) ∨
    (GoodYard y ∧ plan.length = y.stills.length ∧ PlanOk y plan ∧ afterG y.stills plan (newG y) = none ∧ leftR y plan = ([], 10) ∧ incR y plan = (0, [], 10)) ∨
    (∃ g, GoodYard y ∧ plan.length = y.stills.length ∧ PlanOk y plan ∧ afterG y.stills plan (newG y) = some g ∧ leftR y plan = (gl g y.stock.length, 0) ∧ incR y plan = (incomeY y plan g, (sellY y g).sold, 0)) := by
  by_cases hy : GoodYard y
  · by_cases hp : plan.length = y.stills.length ∧ PlanOk y plan
    · cases hg : afterG y.stills plan (newG y) with
      | none => exact .inr (.inr (.inl ⟨hy, hp.1, hp.2, rfl, leftR_3 hy hp.1 hp.2 hg, incR_3 hy hp.1 hp.2 hg⟩))
      | some g => exact .inr (.inr (.inr ⟨g, hy, hp.1, hp.2, rfl, leftR_4 hy hp.1 hp.2 hg, incR_4 hy hp.1 hp.2 hg⟩))
    · exact .inr (.inl ⟨hy, leftR_2 hy hp, incR_2 hy hp⟩)
  · exact .inl ⟨hy, leftR_1 hy, incR_1 hy⟩
structure J5 where
  ee : Int
  Ls : List Span
  nn : Int
  Ss : List Int
  a7 : Option Addr
  c7 : Nat
  a10 : Option Addr
  c10 : Nat
  Q : Hp
structure S5 where
  k : Nat
  G : Goods
  T : Lo
  lk : Bool
  sh : Bool
  z : Nat
  r : Nat
structure S6 where
  n : Nat
  T : Lo
  lk : Bool
  sh : Bool
  z : Nat
structure S7 where
  j : Nat
  T : Lo
  z : Nat
end Go.Proofs.Ytlailecnbdlknaa
