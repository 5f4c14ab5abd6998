/-
  The document's hours of gas, and sums over them.
-/
import Derived.Test.YtjmailhoidenaaaP02c
set_option linter.all false
namespace Go.Proofs.Ytjmailhoidenaaa
open Go Go.H
theorem rGas_some {w : House} {hour : Int} {acc s : Span} {x : Stoke} {t : List Stoke} (h : gasOne w x t hour = some s) : rGas w hour acc (x :: t) = rGas w hour (addS acc s) t := by simp only [rGas, h]
theorem rGas_none {w : House} {hour : Int} {acc : Span} {x : Stoke} {t : List Stoke} (h : gasOne w x t hour = none) : rGas w hour acc (x :: t) = rGas w hour acc t := by simp only [rGas, h]
theorem gasOne_some {w : House} {hour : Int} {x : Stoke} {t : List Stoke} {j : Nat} {c : Span} (h1 : x.kind = 0) (h2 : 0 ≤ hour - x.hour) (h3 : hour - x.hour < w.curve.length) (h4 : hour < endFrom x.ret t) (hj : (hour - x.hour).toNat = j) (hc : w.curve[j]? = some c) :
    gasOne w x t hour = some ⟨x.tons * c.lo, x.tons * c.hi⟩ := by
  unfold gasOne
  rw [if_pos ⟨h1, h2, h3, h4⟩, hj, hc]; rfl
theorem gasOne_none {w : House} {hour : Int} {x : Stoke} {t : List Stoke} (h : ¬ (x.kind = 0 ∧ 0 ≤ hour - x.hour ∧ hour - x.hour < w.curve.length ∧ hour < endFrom x.ret t)) : gasOne w x t hour = none := by
  unfold gasOne; rw [if_neg h]
theorem mul_fit {t c : Int} (h1 : 1 ≤ t ∧ t ≤ 100) (h2 : 0 ≤ c ∧ c ≤ 100000) : 0 ≤ t * c ∧ t * c ≤ 10000000 := by
  have hm1 : 0 ≤ t * c := Int.mul_nonneg (by omega) (by omega)
  have hm2 : t * c ≤ 100 * 100000 := Int.mul_le_mul (by omega) (by omega) (by omega) (by omega)
  omega
theorem gasOne_fit {w : House} (hw : goodHouse w) {x : Stoke} (hx : goodStoke x) {t : List Stoke} {hour : Int} {s : Span} (h : gasOne w x t hour = some s) : (0 ≤ s.lo ∧ s.lo ≤ 10000000) ∧ (0 ≤ s.hi ∧ s.hi ≤ 10000000) := by
  unfold gasOne at h
  split at h
  · rename_i hc
    cases hq : w.curve[(hour - x.hour).toNat]? with
    | none => rw [hq] at h; cases h
    | some c =>
      rw [hq] at h
      cases h
      have h1 := goodSpan hw.2.2.1 (List.mem_of_getElem? hq)
      have h2 := hx.2.2.2.1 hc.1
      exact ⟨mul_fit h2 h1.1, mul_fit h2 h1.2⟩
  · cases h
theorem rGas_fit {w : House} (hw : goodHouse w) {hour : Int} : ∀ {l : List Stoke} {acc : Span}, (∀ x ∈ l, goodStoke x) → (acc.lo ≤ (rGas w hour acc l).lo ∧ (rGas w hour acc l).lo ≤ acc.lo + l.length * 10000000) ∧ (acc.hi ≤ (rGas w hour acc l).hi ∧ (rGas w hour acc l).hi ≤ acc.hi + l.length * 10000000)
  | [], acc, _ => by simp [rGas]
  | x :: t, acc, hg => by
    have hx := hg x List.mem_cons_self
    have ht := fun y hy => hg y (List.mem_cons_of_mem _ hy)
    cases hq : gasOne w x t hour with
    | none =>
      rw [rGas_none hq]
      have := rGas_fit (hour := hour) hw (l := t) (acc := acc) ht
      simp only [List.length_cons]; omega
    | some s =>
      rw [rGas_some hq]
      have := rGas_fit (hour := hour) hw (l := t) (acc := addS acc s) ht
      have hs := gasOne_fit hw hx hq
      simp only [addS] at this
      simp only [List.length_cons]
      simp only [addS]
      omega
/-- The hours from one until before another. -/
def hrs (a b : Int) : List Int := (List.range (b - a).toNat).map fun i => a + (i : Nat)
theorem hrs_nil {a b : Int} (h : b ≤ a) : hrs a b = [] := by unfold hrs; rw [show (b - a).toNat = 0 by omega]; rfl
theorem hrs_snoc {a h : Int} (hh : a ≤ h) : hrs a (h + 1) = hrs a h ++ [h] := by
  unfold hrs
  rw [show (h + 1 - a).toNat = (h - a).toNat + 1 by omega, List.range_succ, List.map_append]
  simp only [List.map_cons, List.map_nil]
  rw [show a + (((h - a).toNat : Nat) : Int) = h by omega]
theorem hrs_len (a b : Int) : (hrs a b).length = (b - a).toNat := by simp [hrs]
theorem hrs_mem {a b h : Int} : h ∈ hrs a b ↔ a ≤ h ∧ h < b := by
  unfold hrs
  rw [List.mem_map]
  constructor
  · rintro ⟨i, hi, rfl⟩; rw [List.mem_range] at hi; omega
  · intro hh; exact ⟨(h - a).toNat, List.mem_range.2 (by omega), by omega⟩
/-- The hours in which some charge can give gas, rising. -/
def busyL (n : Int) : Int → List Stoke → List Int
  | _, [] => []
  | last, x :: t => if x.kind ≠ 0 then busyL n last t
    else if max (last + 1) x.hour < min (x.hour + n) 1048577 then hrs (max (last + 1) x.hour) (min (x.hour + n) 1048577) ++ busyL n (min (x.hour + n) 1048577 - 1) t
    else busyL n last t
theorem busyL_skip {n last : Int} {x : Stoke} {t : List Stoke} (h : x.kind ≠ 0) : busyL n last (x :: t) = busyL n last t := by simp only [busyL, if_pos h]
theorem busyL_some {n last : Int} {x : Stoke} {t : List Stoke} (h : ¬ x.kind ≠ 0) (h2 : max (last + 1) x.hour < min (x.hour + n) 1048577) : busyL n last (x :: t) = hrs (max (last + 1) x.hour) (min (x.hour + n) 1048577) ++ busyL n (min (x.hour + n) 1048577 - 1) t := by
  simp only [busyL, if_neg h, if_pos h2]
theorem busyL_none {n last : Int} {x : Stoke} {t : List Stoke} (h : ¬ x.kind ≠ 0) (h2 : ¬ max (last + 1) x.hour < min (x.hour + n) 1048577) : busyL n last (x :: t) = busyL n last t := by simp only [busyL, if_neg h, if_neg h2]
def eI (n : Int) : List Value := [I n]
theorem eI_len (n : Int) : (eI n).length = 1 := rfl
/-- What the rounds over the hours find. -/
def rMake (w : House) (l : List Stoke) (f t : Int) : Span → List Int → Span
  | acc, [] => acc
  | acc, h :: r => rMake w l f t (if f ≤ h ∧ h ≤ t then addS acc (rGas w h ⟨0, 0⟩ l) else acc) r
def rPeak (w : House) (l : List Stoke) : Int × Span → List Int → Int × Span
  | p, [] => p
  | p, h :: r => rPeak w l (if p.2.hi < (rGas w h ⟨0, 0⟩ l).hi then (h, rGas w h ⟨0, 0⟩ l) else p) r
theorem busyL_len (n : Nat) : ∀ (l : List Stoke) (last : Int), (busyL n last l).length ≤ l.length * n
  | [], _ => by simp [busyL]
  | x :: t, last => by
    unfold busyL
    split
    · have := busyL_len n t last; simp only [List.length_cons, Nat.add_mul]; omega
    · split
      · have := busyL_len n t (min (x.hour + n) 1048577 - 1)
        simp only [List.length_append, List.length_cons, Nat.add_mul, hrs_len]; omega
      · have := busyL_len n t last; simp only [List.length_cons, Nat.add_mul]; omega
theorem busyL_mem {n : Int} : ∀ (l : List Stoke) (last : Int), (∀ x ∈ l, goodStoke x) → ∀ h ∈ busyL n last l, 0 ≤ h ∧ h ≤ 1048576
  | [], _, _, h, hh => by cases hh
  | x :: t, last, hg, h, hh => by
    have hx := (hg x List.mem_cons_self).1
    have ht := fun y hy => hg y (List.mem_cons_of_mem _ hy)
    unfold busyL at hh
    split at hh
    · exact busyL_mem t _ ht h hh
    · split at hh
      · rcases List.mem_append.1 hh with hh | hh
        · rw [hrs_mem] at hh; omega
        · exact busyL_mem t _ ht h hh
      · exact busyL_mem t _ ht h hh
end Go.Proofs.Ytjmailhoidenaaa
