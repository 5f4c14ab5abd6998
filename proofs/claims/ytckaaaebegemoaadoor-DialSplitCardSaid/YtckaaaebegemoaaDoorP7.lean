/-
  The ends of what is told: they fit, nothing beyond does; the gas of hours between two readings that follow one another.
-/
import Derived.Test.YtckaaaebegemoaaDoorP5
set_option linter.all false
namespace Go.Proofs.YtckaaaebegemoaaDoor
open Go Go.H
/-! ### The ends fit -/
structure Ends (d : Dial) (a b : Card) (s : Span) : Prop where
  lo : fitsP d a b s.lo
  hi : fitsP d a b s.hi
  le : s.lo ≤ s.hi
  xlo : d.sticks = false → s.lo - turnI d.digits < max (leastF d a b) (d.rate.lo * (b.hour - a.hour))
  xhi : d.sticks = false → d.rate.hi * (b.hour - a.hour) < s.hi + turnI d.digits
  tlo : d.sticks = true → ¬ fitsP d a b (s.lo - 1)
  thi : d.sticks = true → ¬ fitsP d a b (s.hi + 1)
/-! ### Parts -/
theorem part_in {d : Dial} {so re : Int} {s : Span} (hd : dialOk d) (h0 : 0 ≤ so) (h1 : 0 ≤ re) (hs : s.lo ≤ s.hi) (hl : d.rate.lo * (so + re) ≤ s.lo) (hh : s.hi ≤ d.rate.hi * (so + re)) :
    d.rate.lo * so ≤ (partF d so re s).lo ∧ (partF d so re s).lo ≤ (partF d so re s).hi ∧ (partF d so re s).hi ≤ d.rate.hi * so := by
  have e1 := Int.mul_le_mul_of_nonneg_right hd.2.2.2.1 h0
  have e2 := Int.mul_le_mul_of_nonneg_right hd.2.2.2.1 h1
  rw [Int.mul_add] at hl hh
  unfold partF
  dsimp only
  omega
theorem gasK_in {d : Dial} {l : List Card} {out : List Span} {f t : Int} (hd : dialOk d) (hr : Rise l) (hft : f ≤ t) (hp : pairsL d l = some out) : ∀ k, k ≤ out.length →
    (gasK d f t l out k).2 = uH f t l k - uH f t l 0 ∧ d.rate.lo * (uH f t l k - uH f t l 0) ≤ (sumS (gasK d f t l out k).1).lo ∧ (sumS (gasK d f t l out k).1).lo ≤ (sumS (gasK d f t l out k).1).hi ∧ (sumS (gasK d f t l out k).1).hi ≤ d.rate.hi * (uH f t l k - uH f t l 0)
  | 0, _ => by
    simp only [gasK]
    rw [Int.sub_self, Int.mul_zero, Int.mul_zero]
    exact ⟨rfl, Int.le_refl _, Int.le_refl _, Int.le_refl _⟩
  | k + 1, hk => by
    have hlen := pairs_len hp
    have ih := gasK_in hd hr hft hp k (by omega)
    have ha := List.getElem?_eq_getElem (l := l) (i := k) (by omega)
    have hb := List.getElem?_eq_getElem (l := l) (i := k + 1) (by omega)
    have hs := List.getElem?_eq_getElem (l := out) (i := k) (by omega)
    rw [gasK_succ ha hb hs]
    have hab := hr.get (Nat.lt_succ_self k) ha hb
    have hS := btw_some hd (Int.le_of_lt hab) (pairs_get hp ha hb hs)
    generalize l[k] = a at *
    generalize l[k + 1] = b at *
    generalize out[k] = s at *
    obtain ⟨u0, u1⟩ := lap_uH hft ha hb hab
    by_cases hlap : lapH f t a.hour b.hour ≤ 0
    · rw [if_pos hlap, u0 hlap]; exact ih
    · rw [if_neg hlap]
      obtain ⟨e1, e2, e3⟩ := u1 (by omega)
      have hre : 0 ≤ b.hour - a.hour - lapH f t a.hour b.hour := by unfold lapH; omega
      have hp2 := part_in (d := d) (s := s) hd (show 0 ≤ lapH f t a.hour b.hour by omega) hre hS.2.2.1 (by rw [show lapH f t a.hour b.hour + (b.hour - a.hour - lapH f t a.hour b.hour) = b.hour - a.hour by omega]; exact hS.2.1) (by rw [show lapH f t a.hour b.hour + (b.hour - a.hour - lapH f t a.hour b.hour) = b.hour - a.hour by omega]; exact hS.2.2.2)
      have r1 : d.rate.lo * (uH f t l (k + 1) - uH f t l 0) = d.rate.lo * (uH f t l k - uH f t l 0) + d.rate.lo * lapH f t a.hour b.hour := by rw [← Int.mul_add]; congr 1; omega
      have r2 : d.rate.hi * (uH f t l (k + 1) - uH f t l 0) = d.rate.hi * (uH f t l k - uH f t l 0) + d.rate.hi * lapH f t a.hour b.hour := by rw [← Int.mul_add]; congr 1; omega
      dsimp only
      rw [sumS_snoc, r1, r2]
      refine ⟨by omega, by dsimp only; omega, by dsimp only; omega, by dsimp only; omega⟩
theorem uH_mono {l : List Card} {f t : Int} (hft : f ≤ t) (hr : Rise l) {n : Nat} (hn : n ≤ l.length - 1) : uH f t l 0 ≤ uH f t l n := by
  by_cases h0 : n = 0
  · rw [h0]; exact Int.le_refl _
  · have ha := List.getElem?_eq_getElem (l := l) (i := 0) (by omega)
    have hb := List.getElem?_eq_getElem (l := l) (i := n) (by omega)
    have := hr.get (by omega) ha hb
    rw [uH_at ha, uH_at hb]; omega
theorem gas_in {d : Dial} {l : List Card} {out : List Span} {f t : Int} (hd : dialOk d) (hr : Rise l) (hft : f ≤ t) (hp : pairsL d l = some out) :
    d.rate.lo * (t - f) ≤ (gasR d f t l out).lo ∧ (gasR d f t l out).lo ≤ (gasR d f t l out).hi ∧ (gasR d f t l out).hi ≤ d.rate.hi * (t - f) := by
  obtain ⟨k1, k2, k3, k4⟩ := gasK_in hd hr hft hp out.length (Nat.le_refl _)
  have hlen := pairs_len hp
  have hu := uH_mono hft hr (n := out.length) (by omega)
  have b0 := uH_bd hft l 0
  have b1 := uH_bd hft l out.length
  unfold gasR
  dsimp only
  rw [k1]
  have e := Int.mul_le_mul_of_nonneg_right hd.2.2.2.1 (show 0 ≤ t - f - (uH f t l out.length - uH f t l 0) by omega)
  have r1 : d.rate.lo * (t - f) = d.rate.lo * (t - f - (uH f t l out.length - uH f t l 0)) + d.rate.lo * (uH f t l out.length - uH f t l 0) := by rw [← Int.mul_add]; congr 1; omega
  have r2 : d.rate.hi * (t - f) = d.rate.hi * (t - f - (uH f t l out.length - uH f t l 0)) + d.rate.hi * (uH f t l out.length - uH f t l 0) := by rw [← Int.mul_add]; congr 1; omega
  rw [r1, r2]
  omega
/-! ### From the first reading to the last one -/
/-! ### Between two readings that follow one another -/
/-- What the hours between two readings that follow one another can be. -/
structure OneBd (d : Dial) (n re : Int) (s g : Span) : Prop where
  a : s.lo ≤ g.lo + d.rate.hi * re
  b : g.hi + d.rate.lo * re ≤ s.hi
  c : d.rate.lo * n < g.lo → g.lo - 1 + d.rate.hi * re < s.lo
  e : g.hi < d.rate.hi * n → s.hi < g.hi + 1 + d.rate.lo * re
end Go.Proofs.YtckaaaebegemoaaDoor
