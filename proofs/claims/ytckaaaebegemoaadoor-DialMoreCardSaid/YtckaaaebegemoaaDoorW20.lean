/-
  Walks.
-/
import Derived.Test.YtckaaaebegemoaaDoorW19
namespace Go.Proofs.YtckaaaebegemoaaDoor
open Go Go.H
set_option maxRecDepth 100000
set_option maxHeartbeats 2000000
set_option linter.all false
end Go.Proofs.YtckaaaebegemoaaDoor
