/-
  Walks.
-/
import Derived.Test.YtckaaaebegemoaaDoorW23
namespace Go.Proofs.YtckaaaebegemoaaDoor
open Go Go.H
set_option maxRecDepth 100000
set_option maxHeartbeats 2000000
set_option linter.all false
theorem PairsS_c {r : Rnd} {house : Int} {h : Hp} {R : Ending → Hp → Prop} (hv : RndV h r) (hs : Small r) (hT : TurnsV h)
    (H : ∀ a c q, SlV q 2 eSpan a (pairsAns r house).1 → R (.returned (.tuple ⟨[.slice a (pairsAns r house).1.length c, I (pairsAns r house).2]⟩)) (q ++ h)) : ACalls Tryd.prog 11 ⟨[.agg ⟨eRnd r⟩, I house]⟩ h R :=
  Pairs_c hv hs hT fun V hV => by
    obtain ⟨a, c, hv, hs⟩ := Vec.slv (enc := eSpan) (t := 38) (h := V.hp 38 ((pairsAns r house).1.flatMap eSpan)) eSpan_len hV (fun _ hz => hz)
    rw [hv]
    exact H a c _ hs

theorem SusS_c {r : Rnd} {house : Int} {h : Hp} {R : Ending → Hp → Prop} (hv : RndV h r) (hs : Small r) (hT : TurnsV h)
    (H : ∀ a c q, SlV q 1 eI a (susAns r house).1 → R (.returned (.tuple ⟨[.slice a (susAns r house).1.length c, I (susAns r house).2]⟩)) (q ++ h)) : ACalls Tryd.prog 13 ⟨[.agg ⟨eRnd r⟩, I house]⟩ h R :=
  Suspects_c hv hs hT fun V hV => by
    obtain ⟨a, c, hv, hs⟩ := Vec.slv (enc := eI) (t := 3) (h := V.hp 3 ((susAns r house).1.flatMap eI)) eI_len hV (fun _ hz => hz)
    rw [hv]
    exact H a c _ hs

theorem SpansT_c {a a2 : Option Addr} {c c2 : Nat} {xs : List Span} {h : Hp} {R : Ending → Hp → Prop} (hs : SlV h 2 eSpan a xs) (hs2 : SlV h 2 eSpan a2 xs) (hl : xs.length ≤ 1000000) (H : R (.returned (.bool true)) h) : ACalls Tryd.prog 15 ⟨[.slice a xs.length c, .slice a2 xs.length c2]⟩ h R :=
  Spans_c hs hs2 hl (by omega) (by rw [decide_eq_true rfl]; exact H)
theorem IntsT_c {a a2 : Option Addr} {c c2 : Nat} {xs : List Int} {h : Hp} {R : Ending → Hp → Prop} (hs : SlV h 1 eI a xs) (hs2 : SlV h 1 eI a2 xs) (hl : xs.length ≤ 1000000) (H : R (.returned (.bool true)) h) : ACalls Tryd.prog 16 ⟨[.slice a xs.length c, .slice a2 xs.length c2]⟩ h R :=
  Ints_c hs hs2 hl (by omega) (by rw [decide_eq_true rfl]; exact H)
section
variable {bd bc : Nat} {h : Hp} {R : Ending → Hp → Prop}
theorem aP0 (hs : sH bd bc 47 ⊆ h) (hT : TurnsV h) (H : ∀ a c q, SlV q 2 eSpan a [⟨52, 52⟩, ⟨68, 68⟩] → R (.returned (.tuple ⟨[.slice a 2 c, I 0]⟩)) (q ++ h)) : ACalls Tryd.prog 11 ⟨[.agg ⟨eRnd (sR bd bc 47)⟩, I 0]⟩ h R :=
  PairsS_c (sRV hs) sSmall hT fun a c q hq => by rw [aPairs0] at hq ⊢; exact H a c q hq
theorem aP1 (hs : sH bd bc 47 ⊆ h) (hT : TurnsV h) (H : ∀ a c q, SlV q 2 eSpan a [⟨4, 80⟩] → R (.returned (.tuple ⟨[.slice a 1 c, I 0]⟩)) (q ++ h)) : ACalls Tryd.prog 11 ⟨[.agg ⟨eRnd (sR bd bc 47)⟩, I 1]⟩ h R :=
  PairsS_c (sRV hs) sSmall hT fun a c q hq => by rw [aPairs1] at hq ⊢; exact H a c q hq
theorem aG0 (hs : sH bd bc 47 ⊆ h) (hT : TurnsV h) (H : R (.returned (.tuple ⟨[.agg ⟨[I 50, I 70]⟩, I 0]⟩)) h) : ACalls Tryd.prog 17 ⟨[.agg ⟨eRnd (sR bd bc 47)⟩, I 0, I 15, I 25]⟩ h R :=
  Gas_c (sRV hs) sSmall hT (by rw [aGas0]; exact H)
theorem aD0 (hs : sH bd bc 47 ⊆ h) (hT : TurnsV h) (H : R (.returned (.tuple ⟨[I 54, I 0]⟩)) h) : ACalls Tryd.prog 19 ⟨[.agg ⟨eRnd (sR bd bc 47)⟩, I 0]⟩ h R :=
  Due_c (sRV hs) sSmall hT (by rw [aDue0]; exact H)
theorem aS0 (hs : sH bd bc 30 ⊆ h) (hT : TurnsV h) (H : ∀ a c q, SlV q 1 eI a [20, 30] → R (.returned (.tuple ⟨[.slice a 2 c, I 0]⟩)) (q ++ h)) : ACalls Tryd.prog 13 ⟨[.agg ⟨eRnd (sR bd bc 30)⟩, I 0]⟩ h R :=
  SusS_c (sRV hs) sSmall hT fun a c q hq => by rw [aSus0] at hq ⊢; exact H a c q hq
end

end Go.Proofs.YtckaaaebegemoaaDoor
