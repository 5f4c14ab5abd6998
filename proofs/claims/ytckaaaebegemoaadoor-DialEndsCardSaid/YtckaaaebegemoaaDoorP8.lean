/-
  The gas of hours as a sum over the pairs of readings; hours that are parted; a reading more.
-/
import Derived.Test.YtckaaaebegemoaaDoorP7
set_option linter.all false
namespace Go.Proofs.YtckaaaebegemoaaDoor
open Go Go.H
def cl (f t x : Int) : Int := max f (min t x)
/-! ### Hours that are parted -/
/-! ### Cards in another order -/
end Go.Proofs.YtckaaaebegemoaaDoor
