/-
  All right mixtures, one after the other; the first of the cheapest.
-/
import Derived.Test.YtjbfdfmngampdaaP5
set_option linter.all false
namespace Go.Proofs.Ytjbfdfmngampdaa
open Go Go.H
/-- A list's head, as it lies in a list of lists. -/
structure Hd where
  a : Option Addr
  c : Nat
  m : List Int
/-! ### The cheapest -/
end Go.Proofs.Ytjbfdfmngampdaa
