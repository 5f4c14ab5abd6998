/-
  The program's functions, each by its one answer.
-/
import Derived.Test.YtjmailhoidenaaaP02h
import Derived.Test.YtjmailhoidenaaaW12
set_option linter.all false
namespace Go.Proofs.Ytjmailhoidenaaa
open Go Go.H
def z8 : Nat → Oven := fun _ => ⟨0, 0, 0, 0, 0⟩
def playV (w : House) (l : List Stoke) : (Nat → Oven) × Int × Int := match play w l with
  | .ok S => (S.ov, l.length, 0)
  | .error (i, e) => (z8, i, e)
def makeV (w : House) (l : List Stoke) (f t : Int) : Span × Int := match play w l with
  | .ok S => if 0 ≤ f ∧ f ≤ t ∧ t ≤ 1048576 then (makeS w S f t, 0) else (⟨0, 0⟩, 2)
  | .error (_, e) => (⟨0, 0⟩, e)
def peakV (w : House) (l : List Stoke) : Int × Span × Int := match play w l with
  | .ok _ => ((rPeak w l (0, rGas w 0 ⟨0, 0⟩ l) (busyL w.curve.length (-1) l)).1, (rPeak w l (0, rGas w 0 ⟨0, 0⟩ l) (busyL w.curve.length (-1) l)).2, 0)
  | .error (_, e) => (0, ⟨0, 0⟩, e)
def soonV (w : House) (l : List Stoke) (own : Int) : Int × Int := match play w l with
  | .ok S => if 0 ≤ own ∧ own ≤ 7 then (match soonest w S (S.ov own.toNat) with
    | .ok h => (h, 0)
    | .error e => (0, e)) else (0, 2)
  | .error (_, e) => (0, e)
section
variable {w : House} {l : List Stoke} {S : St} {i : Nat} {e f t own : Int}
theorem playV_e (h : play w l = .error (i, e)) : playV w l = (z8, (i : Int), e) := by unfold playV; rw [h]
theorem playV_o (h : play w l = .ok S) : playV w l = (S.ov, (l.length : Int), 0) := by unfold playV; rw [h]
theorem makeV_e (h : play w l = .error (i, e)) : makeV w l f t = (⟨0, 0⟩, e) := by unfold makeV; rw [h]
theorem makeV_r (h : play w l = .ok S) (hr : ¬ (0 ≤ f ∧ f ≤ t ∧ t ≤ 1048576)) : makeV w l f t = (⟨0, 0⟩, 2) := by unfold makeV; rw [h]; simp only; rw [if_neg hr]
theorem makeV_o (h : play w l = .ok S) (hr : 0 ≤ f ∧ f ≤ t ∧ t ≤ 1048576) : makeV w l f t = (makeS w S f t, 0) := by unfold makeV; rw [h]; simp only; rw [if_pos hr]
theorem peakV_e (h : play w l = .error (i, e)) : peakV w l = (0, ⟨0, 0⟩, e) := by unfold peakV; rw [h]
theorem peakV_o (h : play w l = .ok S) : peakV w l = ((rPeak w l (0, rGas w 0 ⟨0, 0⟩ l) (busyL w.curve.length (-1) l)).1, (rPeak w l (0, rGas w 0 ⟨0, 0⟩ l) (busyL w.curve.length (-1) l)).2, 0) := by unfold peakV; rw [h]
theorem soonV_e (h : play w l = .error (i, e)) : soonV w l own = (0, e) := by unfold soonV; rw [h]
theorem soonV_r (h : play w l = .ok S) (hr : ¬ (0 ≤ own ∧ own ≤ 7)) : soonV w l own = (0, 2) := by unfold soonV; rw [h]; simp only; rw [if_neg hr]
theorem soonV_n (h : play w l = .ok S) (hr : 0 ≤ own ∧ own ≤ 7) (hs : soonest w S (S.ov own.toNat) = .error e) : soonV w l own = (0, e) := by unfold soonV; rw [h]; simp only; rw [if_pos hr, hs]
theorem soonV_o (h : play w l = .ok S) (hr : 0 ≤ own ∧ own ≤ 7) {z : Int} (hs : soonest w S (S.ov own.toNat) = .ok z) : soonV w l own = (z, 0) := by unfold soonV; rw [h]; simp only; rw [if_pos hr, hs]
end
section
variable {a al : Option Addr} {c cl : Nat} {w : House} {l : List Stoke} {f t own : Int} {h : Hp} {R : Ending → Hp → Prop} (hs : SlV h 2 eSpan a w.curve) (hlen : w.curve.length ≤ 4611686018427387904) (hl : SlV h 4 eStoke al l)
include hs hlen hl
theorem Play_v (H : R (.returned (.tuple ⟨[.agg ⟨eOvens (playV w l).1⟩, I (playV w l).2.1, I (playV w l).2.2]⟩)) h) : ACalls Try.prog 11 ⟨[.agg ⟨eHouse a c w⟩, .slice al l.length cl]⟩ h R :=
  Play_c hs hlen hl (fun i e hp => by rw [playV_e hp] at H; exact H) (fun S hp _ => by rw [playV_o hp] at H; exact H)
theorem Make_v (H : R (.returned (.tuple ⟨[.agg ⟨eSpan (makeV w l f t).1⟩, I (makeV w l f t).2]⟩)) h) : ACalls Try.prog 15 ⟨[.agg ⟨eHouse a c w⟩, .slice al l.length cl, I f, I t]⟩ h R :=
  Make_c hs hlen hl (fun i e hp => by rw [makeV_e hp] at H; exact H) (fun S hp hr => by rw [makeV_r hp hr] at H; exact H) (fun S hp _ hr => by rw [makeV_o hp hr] at H; exact H)
theorem Peak_v (H : R (.returned (.tuple ⟨[I (peakV w l).1, .agg ⟨eSpan (peakV w l).2.1⟩, I (peakV w l).2.2]⟩)) h) : ACalls Try.prog 17 ⟨[.agg ⟨eHouse a c w⟩, .slice al l.length cl]⟩ h R :=
  Peak_c hs hlen hl (fun i e hp => by rw [peakV_e hp] at H; exact H) (fun S hour gas hp hS hk => by
    obtain ⟨rfl, rfl⟩ := hk.unique (peak_is hp hS)
    rw [peakV_o hp] at H; exact H)
theorem Soonest_v (H : R (.returned (.tuple ⟨[I (soonV w l own).1, I (soonV w l own).2]⟩)) h) : ACalls Try.prog 13 ⟨[.agg ⟨eHouse a c w⟩, .slice al l.length cl, I own]⟩ h R :=
  Soonest_c hs hlen hl (fun i e hp => by rw [soonV_e hp] at H; exact H) (fun S hp hr => by rw [soonV_r hp hr] at H; exact H) (fun S e hp _ hr hq => by rw [soonV_n hp hr hq] at H; exact H) (fun S z hp _ hr hq => by rw [soonV_o hp hr hq] at H; exact H)
end
theorem eqc_self : ∀ {xs : List Value}, (∀ x ∈ xs, Num x) → eqc xs xs = true
  | [], _ => rfl
  | x :: xs, h => by
    obtain ⟨n, rfl⟩ := h x List.mem_cons_self
    simp only [eqc, beq_self_eq_true, Bool.true_and]
    exact eqc_self fun y hy => h y (List.mem_cons_of_mem _ hy)
end Go.Proofs.Ytjmailhoidenaaa
