/-
  Walks.
-/
import Derived.Test.YtckaaaebegemoaaDoorW28
import Derived.Test.YtckaaaebegemoaaDoorP7
import Derived.Test.YtckaaaebegemoaaDoorP10
namespace Go.Proofs.YtckaaaebegemoaaDoor
open Go Go.H
set_option maxRecDepth 100000
set_option maxHeartbeats 8000000
set_option linter.all false
theorem ReadE_c {r : Rnd} {house : Int} {l : List Card} {h : Hp} {R : Ending → Hp → Prop} (hv : RndV h r) (hcl : r.cards.length ≤ 1000) (hrs : readL r.cards house = some l)
    (H : ∀ a c q, SlV q 3 eCard a l → R (.returned (.tuple ⟨[.slice a l.length c, .bool true]⟩)) (q ++ h)) : ACalls Tryd.prog 27 ⟨[.agg ⟨eRnd r⟩, I house]⟩ h R :=
  Readings_c hv hcl (fun hn => by rw [hrs] at hn; cases hn) fun l2 V h2 hV => by
    rw [hrs] at h2
    cases h2
    obtain ⟨a, c, hv, hs⟩ := Vec.slv (enc := eCard) (t := 59) (h := V.hp 59 (l.flatMap eCard)) eCard_len hV (fun _ hz => hz)
    rw [hv]
    exact H a c _ hs
theorem RoundT_c {r : Rnd} {h : Hp} {R : Ending → Hp → Prop} (hv : RndV h r) (hs : Small r) (hg : GoodRnd r) (H : R (.returned (.bool true)) h) : ACalls Tryd.prog 28 ⟨[.agg ⟨eRnd r⟩]⟩ h R := Round_c hv hs (fun _ => H) (fun h => absurd hg h)
end Go.Proofs.YtckaaaebegemoaaDoor
