/-
  The document's example, and what it comes to; answers as slices.
-/
import Derived.Test.YtckaaaebegemoaaDoorP3
import Derived.KernelRfl
set_option linter.all false
namespace Go.Proofs.YtckaaaebegemoaaDoor
open Go Go.H
def sDials : List Dial := [⟨2, ⟨3, 7⟩, false⟩, ⟨2, ⟨0, 20⟩, true⟩]
def sCards (x : Int) : List Card := [⟨0, 30, 15⟩, ⟨0, 10, 95⟩, ⟨1, 5, 40⟩, ⟨0, 20, x⟩, ⟨1, 9, 44⟩]
def sR (bd bc : Nat) (x : Int) : Rnd := ⟨some ⟨bd, 0, none⟩, 2, sDials, some ⟨bc, 0, none⟩, 5, sCards x⟩
def sH (bd bc : Nat) (x : Int) : Hp := [(bc, .cells ⟨(sCards x).flatMap eCard⟩ 59 (0, 0)), (bd, .cells ⟨sDials.flatMap eDial⟩ 45 (0, 0))]
section
variable {bd bc : Nat} {x : Int}
theorem sRV {h : Hp} (H : sH bd bc x ⊆ h) : RndV h (sR bd bc x) := ⟨slvL eDial_len (H (List.mem_cons_of_mem _ List.mem_cons_self)), slvL eCard_len (H List.mem_cons_self)⟩
theorem sSmall : Small (sR bd bc x) := ⟨by show 2 ≤ 12; decide, by show 5 ≤ 52; decide⟩
theorem sGood (hx : 0 ≤ x ∧ x ≤ 99) : GoodRnd (sR bd bc x) where
  d1 := by show 1 ≤ 2; decide
  d8 := by show 2 ≤ 8; decide
  dials := fun d hd => by
    have : d = ⟨2, ⟨3, 7⟩, false⟩ ∨ d = ⟨2, ⟨0, 20⟩, true⟩ := by simpa [sR, sDials] using hd
    rcases this with rfl | rfl <;> decide
  c48 := by show 5 ≤ 48; decide
  cards := fun c hc => by
    have : c = ⟨0, 30, 15⟩ ∨ c = ⟨0, 10, 95⟩ ∨ c = ⟨1, 5, 40⟩ ∨ c = ⟨0, 20, x⟩ ∨ c = ⟨1, 9, 44⟩ := by simpa [sR, sCards] using hc
    have t2 : turnI 2 = 100 := by decide
    have e0 : dialAt sDials 0 = ⟨2, ⟨3, 7⟩, false⟩ := rfl
    have e1 : dialAt sDials 1 = ⟨2, ⟨0, 20⟩, true⟩ := rfl
    rcases this with rfl | rfl | rfl | rfl | rfl <;> (unfold cardOk hourOk; simp only [sR, e0, e1, t2]; simp only [sDials, List.length_cons, List.length_nil]; omega)
theorem sHo : houseOk (sR bd bc x) 0 ∧ houseOk (sR bd bc x) 1 := ⟨⟨by decide, by show (0 : Int) ≤ ((2 : Nat) : Int) - 1; decide⟩, ⟨by decide, by show (1 : Int) ≤ ((2 : Nat) : Int) - 1; decide⟩⟩
theorem sHrs : HoursOk [15, 25] := fun y hy => by
  simp only [List.mem_cons, List.not_mem_nil, or_false] at hy
  rcases hy with rfl | rfl <;> exact ⟨by decide, by decide⟩
theorem s0 : startF (sR bd bc 47) 0 [] = .ok [⟨0, 10, 95⟩, ⟨0, 20, 47⟩, ⟨0, 30, 15⟩] := start_0 (sGood ⟨by decide, by decide⟩) sHo.1 nohrs rfl
theorem s1 : startF (sR bd bc 47) 1 [] = .ok [⟨1, 5, 40⟩, ⟨1, 9, 44⟩] := start_0 (sGood ⟨by decide, by decide⟩) sHo.2 nohrs rfl
theorem s2 : startF (sR bd bc 47) 0 [15, 25] = .ok [⟨0, 10, 95⟩, ⟨0, 20, 47⟩, ⟨0, 30, 15⟩] := start_0 (sGood ⟨by decide, by decide⟩) sHo.1 sHrs rfl
theorem s3 : startF (sR bd bc 30) 0 [] = .ok [⟨0, 10, 95⟩, ⟨0, 20, 30⟩, ⟨0, 30, 15⟩] := start_0 (sGood ⟨by decide, by decide⟩) sHo.1 nohrs rfl
def sd0 : Dial := ⟨2, ⟨3, 7⟩, false⟩
def sd1 : Dial := ⟨2, ⟨0, 20⟩, true⟩
def sl0 (x : Int) : List Card := [⟨0, 10, 95⟩, ⟨0, 20, x⟩, ⟨0, 30, 15⟩]
theorem k0 : pairsL sd0 (sl0 47) = some [⟨52, 52⟩, ⟨68, 68⟩] := by decide +kernel
theorem k1 : pairsL sd1 [⟨1, 5, 40⟩, ⟨1, 9, 44⟩] = some [⟨4, 80⟩] := by decide +kernel
theorem k2 : gasR sd0 15 25 (sl0 47) [⟨52, 52⟩, ⟨68, 68⟩] = ⟨50, 70⟩ := by decide +kernel
theorem k3 : min 1048576 (30 + dueN sd0) = 54 := by decide +kernel
theorem k4 : pairsL sd0 (sl0 30) = none := by decide +kernel
theorem k5 : susK sd0 (sl0 30) 3 = [20, 30] := by decide +kernel
theorem aPairs0 : pairsAns (sR bd bc 47) 0 = ([⟨52, 52⟩, ⟨68, 68⟩], 0) := pairsAns_s s0 k0
theorem aPairs1 : pairsAns (sR bd bc 47) 1 = ([⟨4, 80⟩], 0) := pairsAns_s s1 k1
theorem aGas0 : gasAns (sR bd bc 47) 0 15 25 = (⟨50, 70⟩, 0) := (gasAns_s s2 (by decide) k0).trans (congrArg (·, (0 : Int)) k2)
theorem aDue0 : dueAns (sR bd bc 47) 0 = (54, 0) := (dueAns_s (c := ⟨0, 30, 15⟩) s0 rfl (show ¬ sd0.sticks = true by decide)).trans (congrArg (·, (0 : Int)) k3)
theorem aSus0 : susAns (sR bd bc 30) 0 = ([20, 30], 0) := (susAns_n s3 k4).trans (congrArg (·, (0 : Int)) k5)
end
/-! ### How long answers are -/
end Go.Proofs.YtckaaaebegemoaaDoor
