/-
  More calls for the walk of RetortSoon.
-/
import Derived.Test.YtjmailhoidenaaaP02q
import Derived.Test.YtjmailhoidenaaaW12
import Derived.Test.YtjmailhoidenaaaH22
set_option linter.all false
namespace Go.Proofs.Ytjmailhoidenaaa
open Go Go.H
section
variable {a al : Option Addr} {c cl : Nat} {w : House} {l : List Stoke} {own : Int} {h : Hp} {R : Ending → Hp → Prop} {S : St} {i : Nat} {e : Int} (hs : SlV h 2 eSpan a w.curve) (hlen : w.curve.length ≤ 4611686018427387904) (hl : SlV h 4 eStoke al l)
include hs hlen hl
theorem Soonest_e (hpe : play w l = .error (i, e)) (H : R (.returned (.tuple ⟨[I 0, I e]⟩)) h) : ACalls Try.prog 13 ⟨[.agg ⟨eHouse a c w⟩, .slice al l.length cl, I own]⟩ h R :=
  Soonest_c hs hlen hl (fun i e hp => by rw [hpe] at hp; cases hp; exact H) (fun S hp _ => by rw [hpe] at hp; cases hp) (fun S e hp _ _ _ => by rw [hpe] at hp; cases hp) (fun S z hp _ _ _ => by rw [hpe] at hp; cases hp)
theorem Soonest_o (hpo : play w l = .ok S) (H2 : ¬ (0 ≤ own ∧ own ≤ 7) → R (.returned (.tuple ⟨[I 0, I 2]⟩)) h) (H3 : ∀ e, (0 ≤ own ∧ own ≤ 7) → soonest w S (S.ov own.toNat) = .error e → R (.returned (.tuple ⟨[I 0, I e]⟩)) h)
    (H4 : ∀ z, (0 ≤ own ∧ own ≤ 7) → soonest w S (S.ov own.toNat) = .ok z → R (.returned (.tuple ⟨[I z, I 0]⟩)) h) : ACalls Try.prog 13 ⟨[.agg ⟨eHouse a c w⟩, .slice al l.length cl, I own]⟩ h R :=
  Soonest_c hs hlen hl (fun i e hp => by rw [hpo] at hp; cases hp) (fun S hp hr => H2 hr) (fun S' e hp _ hr hq => by rw [hpo] at hp; cases hp; exact H3 e hr hq) (fun S' z hp _ hr hq => by rw [hpo] at hp; cases hp; exact H4 z hr hq)
end
theorem soon_err_ne {w : House} {S : St} {o : Oven} {e : Int} (h : soonest w S o = .error e) : e ≠ 0 := by
  unfold soonest at h
  split at h
  · cases h; decide
  · dsimp only at h
    split at h
    · cases h
    · cases h; decide
theorem soon_st6 {w : House} {S : St} {o : Oven} {e : Int} (h : soonest w S o = .error e) (hs : o.state = 2 ∨ o.state = 3) : e = 6 := by
  unfold soonest at h
  rw [if_pos hs] at h; cases h; rfl
theorem able_T {ey z : Nat} (hab : true = (decide (ey = 0) && decide (0 < z))) : true = (decide (ey = 0) && decide (0 < z + 1)) := by
  have h := hab.symm
  simp only [Bool.and_eq_true, decide_eq_true_eq] at h
  symm
  simp only [Bool.and_eq_true, decide_eq_true_eq]
  omega
theorem able_0 {ey z : Nat} (h : ey = 0) : true = (decide (ey = 0) && decide (0 < z + 1)) := by subst h; simp
theorem able_F {ey z : Nat} (hab : false = (decide (ey = 0) && decide (0 < z))) (h : ¬ (ey = 0 ∧ z = 0)) : false = (decide (ey = 0) && decide (0 < z + 1)) := by
  have hq : ¬ ey = 0 := fun he => by
    have h1 : 0 < z := by omega
    rw [he] at hab
    simp [h1] at hab
  simp [hq]
theorem able_end {ey z : Nat} {able : Bool} (hab : able = (decide (ey = 0) && decide (0 < z))) (hz : 0 < z) : (!(able == ((ey : Int) == 0))) = false := by
  subst hab
  by_cases h : ey = 0
  · subst h; simp [hz]
  · have h2 : ((ey : Int) == 0) = false := by simp [h]
    rw [h2]; simp [h]
/-- The first half of a way. -/
def Half (w : House) (S : St) (own e : Int) (wt : Int) (S1 : St) : Prop :=
  if (S.ov own.toNat).state = 1 then ∃ wait r, (wt = 0 → wait = 0) ∧ StepR w S own 1 e wait r ∧ S1 = (match r with | some (_, S') => S' | none => S) else S1 = S
theorem half_no {w : House} {S : St} {own e wt : Int} (h : ¬ (S.ov own.toNat).state = 1) : Half w S own e wt S := by unfold Half; rw [if_neg h]
theorem half_n {w : House} {S : St} {own e wt wait : Int} (h : (S.ov own.toNat).state = 1) (hw : wt = 0 → wait = 0) (hr : StepR w S own 1 e wait none) : Half w S own e wt S := by unfold Half; rw [if_pos h]; exact ⟨_, _, hw, hr, rfl⟩
theorem half_s {w : House} {S S1 : St} {own e wt wait t : Int} (h : (S.ov own.toNat).state = 1) (hw : wt = 0 → wait = 0) (hr : StepR w S own 1 e wait (some (t, S1))) : Half w S own e wt S1 := by unfold Half; rw [if_pos h]; exact ⟨_, _, hw, hr, rfl⟩
theorem way_no {w : House} {S S1 : St} {own e wt : Int} (H : Half w S own e wt S1) (h : ¬ (S.ov own.toNat).runs = w.runs) : Way w S own e wt S1 := ⟨S1, H, by rw [if_neg h]⟩
theorem way_n {w : House} {S S1 : St} {own e wt wait : Int} (H : Half w S own e wt S1) (h : (S.ov own.toNat).runs = w.runs) (hw : wt = 0 → wait = 0) (hr : StepR w S1 own 2 e wait none) : Way w S own e wt S1 := ⟨S1, H, by rw [if_pos h]; exact ⟨_, _, hw, hr, rfl⟩⟩
theorem way_s {w : House} {S S1 S2 : St} {own e wt wait t : Int} (H : Half w S own e wt S1) (h : (S.ov own.toNat).runs = w.runs) (hw : wt = 0 → wait = 0) (hr : StepR w S1 own 2 e wait (some (t, S2))) : Way w S own e wt S2 := ⟨S1, H, by rw [if_pos h]; exact ⟨_, _, hw, hr, rfl⟩⟩
theorem step_last {w : House} {S S' : St} {own kind e wait t : Int} (hr : StepR w S own kind e wait (some (t, S'))) : t = S'.last ∧ doStoke w S (stk own kind t) = .ok S' := by
  obtain ⟨_, _, _, _, h4, _⟩ := hr
  obtain ⟨_, _, _, _, _, _, _, h8⟩ := doStoke_good h4
  exact ⟨h8.symm, h4⟩
end Go.Proofs.Ytjmailhoidenaaa
