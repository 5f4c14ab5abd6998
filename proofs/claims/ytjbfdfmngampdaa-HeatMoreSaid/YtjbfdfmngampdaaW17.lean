/-
  Walks.
-/
import Derived.Test.YtjbfdfmngampdaaW14
import Derived.Test.YtjbfdfmngampdaaP8
namespace Go.Proofs.Ytjbfdfmngampdaa
open Go Go.H
set_option maxRecDepth 100000
set_option maxHeartbeats 8000000
set_option linter.all false
theorem SuppliesF_c {l : List Supply} {a : Option Addr} {c : Nat} {h : Hp} {R : Ending → Hp → Prop} (hl : SlV h 5 eSup a l) (hlen : l.length ≤ 1000) (hs : ¬ SupsOk l) (H : R (.returned (.bool false)) h) : ACalls Try.prog 10 ⟨[.slice a l.length c]⟩ h R := Supplies_c hl hlen (fun hn => absurd hn hs) (fun _ => H)

end Go.Proofs.Ytjbfdfmngampdaa
