/-
  Walks.
-/
import Derived.Test.YtckaaaebegemoaaDoorW25
import Derived.Test.YtckaaaebegemoaaDoorP6
namespace Go.Proofs.YtckaaaebegemoaaDoor
open Go Go.H
set_option maxRecDepth 100000
set_option maxHeartbeats 2000000
set_option linter.all false
theorem SusE_c {r : Rnd} {house e : Int} {xs : List Int} {h : Hp} {R : Ending → Hp → Prop} (hv : RndV h r) (hs : Small r) (hT : TurnsV h) (he : susAns r house = (xs, e))
    (H : ∀ a c q, SlV q 1 eI a xs → R (.returned (.tuple ⟨[.slice a xs.length c, I e]⟩)) (q ++ h)) : ACalls Tryd.prog 13 ⟨[.agg ⟨eRnd r⟩, I house]⟩ h R :=
  SusS_c hv hs hT fun a c q hq => by rw [he] at hq ⊢; exact H a c q hq

theorem GasE_c {r : Rnd} {house f t e : Int} {g : Span} {h : Hp} {R : Ending → Hp → Prop} (hv : RndV h r) (hs : Small r) (hT : TurnsV h) (he : gasAns r house f t = (g, e)) (H : R (.returned (.tuple ⟨[.agg ⟨eSpan g⟩, I e]⟩)) h) :
    ACalls Tryd.prog 17 ⟨[.agg ⟨eRnd r⟩, I house, I f, I t]⟩ h R := Gas_c hv hs hT (by rw [he]; exact H)
theorem DueE_c {r : Rnd} {house n e : Int} {h : Hp} {R : Ending → Hp → Prop} (hv : RndV h r) (hs : Small r) (hT : TurnsV h) (he : dueAns r house = (n, e)) (H : R (.returned (.tuple ⟨[I n, I e]⟩)) h) :
    ACalls Tryd.prog 19 ⟨[.agg ⟨eRnd r⟩, I house]⟩ h R := Due_c hv hs hT (by rw [he]; exact H)

end Go.Proofs.YtckaaaebegemoaaDoor
