/-
  Walks.
-/
import Derived.Test.YtjbfdfmngampdaaW11
namespace Go.Proofs.Ytjbfdfmngampdaa
open Go Go.H
set_option maxRecDepth 100000
set_option maxHeartbeats 8000000
set_option linter.all false
end Go.Proofs.Ytjbfdfmngampdaa
