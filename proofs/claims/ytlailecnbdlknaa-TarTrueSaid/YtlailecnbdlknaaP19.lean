/-
  The walk of what is true, whatever the plan.
-/
import Derived.Test.YtlailecnbdlknaaW29
import Derived.Test.YtlailecnbdlknaaW30
set_option linter.all false
namespace Go.Proofs.Ytlailecnbdlknaa
open Go Go.H
theorem TarTrue_c {y : Yard} {a a2 : Option Addr} {c c2 : Nat} {plan by_ : List Int} {h : Hp} {R : Ending → Hp → Prop} (hv : YardV h y) (hp : SlV h 1 eI a plan) (hby : SlV h 1 eH a2 by_) (hbv : ∀ x ∈ by_, 0 ≤ x ∧ x ≤ 65535) (H : R (.returned (.bool true)) h) :
    ACalls Try.prog 5 ⟨[.agg ⟨eYard y⟩, .slice a plan.length c, .slice a2 by_.length c2]⟩ h R := by
  rcases tarCases y plan with ⟨hn, hL, hI⟩ | ⟨hy, hL, hI⟩ | ⟨hy, hpl, hpo, hga, hL, hI⟩ | ⟨g0, hy, hpl, hpo, hga, hL, hI⟩
  · exact TarTrue_e1 hn hL hI hv hp hby hbv H
  · exact TarTrue_e2 hy hL hI hv hp hby hbv H
  · exact TarTrue_short hy hpl hpo hga hL hI hv hp hby hbv H
  · exact TarTrue_can hy hpl hpo hga hL hI hv hp hby hbv H
end Go.Proofs.Ytlailecnbdlknaa
