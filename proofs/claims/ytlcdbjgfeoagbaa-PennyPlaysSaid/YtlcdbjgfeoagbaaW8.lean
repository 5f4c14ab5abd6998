/-
  Walks.
-/
import Derived.Test.YtlcdbjgfeoagbaaW7
import Derived.Test.YtlcdbjgfeoagbaaP12
namespace Go.Proofs.Ytlcdbjgfeoagbaa
open Go Go.H
set_option maxRecDepth 100000
set_option maxHeartbeats 8000000
set_option linter.all false
end Go.Proofs.Ytlcdbjgfeoagbaa
