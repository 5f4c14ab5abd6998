/-
  The window, one test after the other; what is paid.
-/
import Derived.Test.YtjbfdfmngampdaaP1
set_option linter.all false
namespace Go.Proofs.Ytjbfdfmngampdaa
open Go Go.H
theorem win_pre (d : Decree) (l : List Test) (hour : Int) (k : Nat) : winL d l hour = winL d (l.take k) hour ++ winL d (l.drop k) hour := by
  unfold winL
  rw [← List.filter_append, List.take_append_drop]
theorem win_get {d : Decree} {l : List Test} {hour : Int} {k : Nat} {t : Test} (hk : l[k]? = some t) (h : inWin d hour t) : (winL d l hour)[(winL d (l.take k) hour).length]? = some t := by
  rw [win_pre d l hour (k + 1), win_take hk, if_pos h, List.append_assoc, List.getElem?_append_right (Nat.le_refl _)]
  simp
def upF (a n : Int) : Int := if a ≤ 0 then 0 else (a + n - 1) / n
theorem up_pay {d : Decree} {lack n : Int} (hd : decOk d) (hn : 1 ≤ n) : upF (max 0 lack * d.pay) n = payF d lack n := by
  unfold upF payF
  by_cases h : lack ≤ 0
  · rw [if_pos h, show max 0 lack = 0 by omega, Int.zero_mul, if_pos (Int.le_refl _)]
  · rw [if_neg h, show max 0 lack = lack by omega]
    by_cases hp : d.pay = 0
    · rw [hp, Int.mul_zero, if_pos (Int.le_refl _), Int.zero_add]
      exact (Int.ediv_eq_zero_of_lt (by omega) (by omega)).symm
    · have : 0 < lack * d.pay := Int.mul_pos (by omega) (by have := hd.2.2.2.1; omega)
      rw [if_neg (by omega)]
theorem mul_bdI {a A x B : Int} (h0 : 0 ≤ a) (h1 : a ≤ A) (h2 : -B ≤ x) (h3 : x ≤ B) (hB : 0 ≤ B) : -(A * B) ≤ a * x ∧ a * x ≤ A * B := by
  have e1 : a * x ≤ a * B := Int.mul_le_mul_of_nonneg_left h3 h0
  have e2 : a * B ≤ A * B := Int.mul_le_mul_of_nonneg_right h1 hB
  have e3 : a * -B ≤ a * x := Int.mul_le_mul_of_nonneg_left h2 h0
  rw [Int.mul_neg] at e3
  omega
theorem lack_bd {d : Decree} {l : List Test} {hour : Int} (hd : decOk d) (h : AllOk l) (hl : l.length ≤ 36) : -400000 ≤ (lackF d l hour).lo ∧ (lackF d l hour).lo ≤ (lackF d l hour).hi ∧ (lackF d l hour).hi ≤ 400000 := by
  have h1 := lackS_bd hd (win_ok (d := d) (hour := hour) h)
  have h2 := win_len d l hour
  unfold lackF
  omega
end Go.Proofs.Ytjbfdfmngampdaa
