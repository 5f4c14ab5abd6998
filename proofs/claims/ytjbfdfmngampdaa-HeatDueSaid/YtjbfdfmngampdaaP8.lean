/-
  The best mixture: right, cheapest, and the first of those.
-/
import Derived.Test.YtjbfdfmngampdaaP7
set_option linter.all false
namespace Go.Proofs.Ytjbfdfmngampdaa
open Go Go.H
def lexL : List Int → List Int → Prop
  | a :: as, b :: bs => a < b ∨ a = b ∧ lexL as bs
  | _, _ => False
structure Best1 (l : List Supply) (q : Ask) (ms : List (List Int)) (m : List Int) (c : Int) : Prop where
  mem : m ∈ ms
  right : rightP l q m
  cost : c = costM l m
  least : ∀ m' ∈ ms, rightP l q m' → c ≤ costM l m' ∧ (costM l m' = c → m' = m ∨ lexL m m')
end Go.Proofs.Ytjbfdfmngampdaa
