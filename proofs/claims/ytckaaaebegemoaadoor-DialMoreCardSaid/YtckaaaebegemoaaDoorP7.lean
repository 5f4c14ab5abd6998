/-
  The ends of what is told: they fit, nothing beyond does; the gas of hours between two readings that follow one another.
-/
import Derived.Test.YtckaaaebegemoaaDoorP5
set_option linter.all false
namespace Go.Proofs.YtckaaaebegemoaaDoor
open Go Go.H
/-! ### The ends fit -/
structure Ends (d : Dial) (a b : Card) (s : Span) : Prop where
  lo : fitsP d a b s.lo
  hi : fitsP d a b s.hi
  le : s.lo ≤ s.hi
  xlo : d.sticks = false → s.lo - turnI d.digits < max (leastF d a b) (d.rate.lo * (b.hour - a.hour))
  xhi : d.sticks = false → d.rate.hi * (b.hour - a.hour) < s.hi + turnI d.digits
  tlo : d.sticks = true → ¬ fitsP d a b (s.lo - 1)
  thi : d.sticks = true → ¬ fitsP d a b (s.hi + 1)
theorem btw_ends {d : Dial} {a b : Card} {s : Span} (hd : dialOk d) (hab : a.hour ≤ b.hour) (h : btw d a b = some s) : Ends d a b s := by
  obtain ⟨l0, l1⟩ := least_bd (a := a) (b := b) hd
  have hlo : 0 ≤ d.rate.lo * (b.hour - a.hour) := Int.mul_nonneg hd.2.2.1 (by omega)
  cases hs : d.sticks with
  | true =>
    unfold btw at h
    rw [if_pos hs] at h
    unfold wiL at h
    split at h
    · rename_i hle
      cases h
      refine ⟨⟨by dsimp only; omega, hle, by dsimp only; omega, .inl hs⟩, ⟨by dsimp only; omega, Int.le_refl _, by dsimp only; omega, .inl hs⟩, hle, fun h => (by rw [hs] at h; cases h), fun h => (by rw [hs] at h; cases h), fun _ hf => ?_, fun _ hf => ?_⟩
      · have := hf.1; have := hf.2.2.1; dsimp only at *; omega
      · have := hf.2.1; dsimp only at *; omega
    · cases h
  | false =>
    have h0 := h
    unfold btw at h
    rw [if_neg (by rw [hs]; decide)] at h
    obtain ⟨k0, k1, k2, k3⟩ := kX_bd l0 l1 hlo
    have hb := wiX_some l0 l1 hlo h
    have ht : 0 < turnI d.digits := by omega
    have hk : 0 ≤ kX (leastF d a b) (turnI d.digits) (d.rate.lo * (b.hour - a.hour)) * turnI d.digits := Int.mul_nonneg k0 (by omega)
    have hm : ∀ x : Int, (leastF d a b + x * turnI d.digits - leastF d a b) % turnI d.digits = 0 := fun x => by
      rw [show leastF d a b + x * turnI d.digits - leastF d a b = x * turnI d.digits by omega]; exact Int.mul_emod_left _ _
    unfold wiX at h
    rw [show (d.rate.lo * (b.hour - a.hour) - leastF d a b + turnI d.digits - 1) / turnI d.digits = kX (leastF d a b) (turnI d.digits) (d.rate.lo * (b.hour - a.hour)) from rfl, k3] at h
    generalize kX (leastF d a b) (turnI d.digits) (d.rate.lo * (b.hour - a.hour)) = K at *
    split at h
    · cases h
    · rename_i hle
      cases h
      dsimp only at hb ⊢
      obtain ⟨q0, q1, q2⟩ := div_bd (x := d.rate.hi * (b.hour - a.hour) - (leastF d a b + K * turnI d.digits)) (t := turnI d.digits) (by omega) ht
      generalize (d.rate.hi * (b.hour - a.hour) - (leastF d a b + K * turnI d.digits)) / turnI d.digits = Q at *
      have hQ : 0 ≤ Q * turnI d.digits := Int.mul_nonneg q0 (by omega)
      have e : leastF d a b + K * turnI d.digits + Q * turnI d.digits = leastF d a b + (K + Q) * turnI d.digits := by rw [Int.add_mul]; omega
      refine ⟨⟨by dsimp only; omega, by dsimp only; omega, by dsimp only; omega, .inr (hm K)⟩, ⟨by dsimp only; omega, by dsimp only; omega, by dsimp only; omega, .inr (by dsimp only; rw [e]; exact hm (K + Q))⟩, by dsimp only; omega, fun _ => ?_, fun _ => by dsimp only; omega, fun h => (by rw [hs] at h; cases h), fun h => (by rw [hs] at h; cases h)⟩
      dsimp only
      by_cases hK : K = 0
      · subst hK; rw [Int.zero_mul]; omega
      · omega
/-! ### Parts -/
theorem part_in {d : Dial} {so re : Int} {s : Span} (hd : dialOk d) (h0 : 0 ≤ so) (h1 : 0 ≤ re) (hs : s.lo ≤ s.hi) (hl : d.rate.lo * (so + re) ≤ s.lo) (hh : s.hi ≤ d.rate.hi * (so + re)) :
    d.rate.lo * so ≤ (partF d so re s).lo ∧ (partF d so re s).lo ≤ (partF d so re s).hi ∧ (partF d so re s).hi ≤ d.rate.hi * so := by
  have e1 := Int.mul_le_mul_of_nonneg_right hd.2.2.2.1 h0
  have e2 := Int.mul_le_mul_of_nonneg_right hd.2.2.2.1 h1
  rw [Int.mul_add] at hl hh
  unfold partF
  dsimp only
  omega
theorem gasK_in {d : Dial} {l : List Card} {out : List Span} {f t : Int} (hd : dialOk d) (hr : Rise l) (hft : f ≤ t) (hp : pairsL d l = some out) : ∀ k, k ≤ out.length →
    (gasK d f t l out k).2 = uH f t l k - uH f t l 0 ∧ d.rate.lo * (uH f t l k - uH f t l 0) ≤ (sumS (gasK d f t l out k).1).lo ∧ (sumS (gasK d f t l out k).1).lo ≤ (sumS (gasK d f t l out k).1).hi ∧ (sumS (gasK d f t l out k).1).hi ≤ d.rate.hi * (uH f t l k - uH f t l 0)
  | 0, _ => by
    simp only [gasK]
    rw [Int.sub_self, Int.mul_zero, Int.mul_zero]
    exact ⟨rfl, Int.le_refl _, Int.le_refl _, Int.le_refl _⟩
  | k + 1, hk => by
    have hlen := pairs_len hp
    have ih := gasK_in hd hr hft hp k (by omega)
    have ha := List.getElem?_eq_getElem (l := l) (i := k) (by omega)
    have hb := List.getElem?_eq_getElem (l := l) (i := k + 1) (by omega)
    have hs := List.getElem?_eq_getElem (l := out) (i := k) (by omega)
    rw [gasK_succ ha hb hs]
    have hab := hr.get (Nat.lt_succ_self k) ha hb
    have hS := btw_some hd (Int.le_of_lt hab) (pairs_get hp ha hb hs)
    generalize l[k] = a at *
    generalize l[k + 1] = b at *
    generalize out[k] = s at *
    obtain ⟨u0, u1⟩ := lap_uH hft ha hb hab
    by_cases hlap : lapH f t a.hour b.hour ≤ 0
    · rw [if_pos hlap, u0 hlap]; exact ih
    · rw [if_neg hlap]
      obtain ⟨e1, e2, e3⟩ := u1 (by omega)
      have hre : 0 ≤ b.hour - a.hour - lapH f t a.hour b.hour := by unfold lapH; omega
      have hp2 := part_in (d := d) (s := s) hd (show 0 ≤ lapH f t a.hour b.hour by omega) hre hS.2.2.1 (by rw [show lapH f t a.hour b.hour + (b.hour - a.hour - lapH f t a.hour b.hour) = b.hour - a.hour by omega]; exact hS.2.1) (by rw [show lapH f t a.hour b.hour + (b.hour - a.hour - lapH f t a.hour b.hour) = b.hour - a.hour by omega]; exact hS.2.2.2)
      have r1 : d.rate.lo * (uH f t l (k + 1) - uH f t l 0) = d.rate.lo * (uH f t l k - uH f t l 0) + d.rate.lo * lapH f t a.hour b.hour := by rw [← Int.mul_add]; congr 1; omega
      have r2 : d.rate.hi * (uH f t l (k + 1) - uH f t l 0) = d.rate.hi * (uH f t l k - uH f t l 0) + d.rate.hi * lapH f t a.hour b.hour := by rw [← Int.mul_add]; congr 1; omega
      dsimp only
      rw [sumS_snoc, r1, r2]
      refine ⟨by omega, by dsimp only; omega, by dsimp only; omega, by dsimp only; omega⟩
/-! ### From the first reading to the last one -/
/-! ### Between two readings that follow one another -/
theorem gasK_one {d : Dial} {l : List Card} {out : List Span} {f t : Int} {i : Nat} {a b : Card} {s : Span} (hd : dialOk d) (hr : Rise l) (hp : pairsL d l = some out) (hft : f < t) (ha : l[i]? = some a) (hb : l[i + 1]? = some b) (hs : out[i]? = some s) (haf : a.hour ≤ f) (htb : t ≤ b.hour) :
    ∀ k, k ≤ out.length → gasK d f t l out k = if k ≤ i then ([], 0) else ([partF d (t - f) (b.hour - a.hour - (t - f)) s], t - f)
  | 0, _ => by simp [gasK]
  | k + 1, hk => by
    have hlen := pairs_len hp
    have ih := gasK_one hd hr hp hft ha hb hs haf htb k (by omega)
    have hak := List.getElem?_eq_getElem (l := l) (i := k) (by omega)
    have hbk := List.getElem?_eq_getElem (l := l) (i := k + 1) (by omega)
    have hsk := List.getElem?_eq_getElem (l := out) (i := k) (by omega)
    rw [gasK_succ hak hbk hsk, ih]
    by_cases hki : k = i
    · subst hki
      rw [ha] at hak; rw [hb] at hbk; rw [hs] at hsk
      rw [← Option.some.inj hak, ← Option.some.inj hbk, ← Option.some.inj hsk]
      have hlap : lapH f t a.hour b.hour = t - f := by unfold lapH; omega
      rw [hlap, if_neg (by omega), if_pos (Nat.le_refl _), if_neg (by omega)]
      simp
    · have hlap : lapH f t l[k].hour l[k + 1].hour ≤ 0 := by
        by_cases hlt : k < i
        · have : l[k + 1].hour ≤ a.hour := by
            by_cases h2 : k + 1 = i
            · subst h2; rw [ha] at hbk; rw [← Option.some.inj hbk]; exact Int.le_refl _
            · exact Int.le_of_lt (hr.get (by omega) hbk ha)
          unfold lapH; omega
        · have : b.hour ≤ l[k].hour := by
            by_cases h2 : i + 1 = k
            · subst h2; rw [hb] at hak; rw [← Option.some.inj hak]; exact Int.le_refl _
            · exact Int.le_of_lt (hr.get (by omega) hb hak)
          unfold lapH; omega
      rw [if_pos hlap]
      by_cases hlt : k < i
      · rw [if_pos (by omega), if_pos (by omega)]
      · rw [if_neg (by omega), if_neg (by omega)]
theorem gas_one {d : Dial} {l : List Card} {out : List Span} {f t : Int} {i : Nat} {a b : Card} {s : Span} (hd : dialOk d) (hr : Rise l) (hp : pairsL d l = some out) (hft : f < t) (ha : l[i]? = some a) (hb : l[i + 1]? = some b) (hs : out[i]? = some s) (haf : a.hour ≤ f) (htb : t ≤ b.hour) : gasR d f t l out = partF d (t - f) (b.hour - a.hour - (t - f)) s := by
  have h := gasK_one hd hr hp hft ha hb hs haf htb out.length (Nat.le_refl _)
  have hi := (List.getElem?_eq_some_iff.1 hs).1
  rw [if_neg (by omega)] at h
  unfold gasR
  rw [h]
  show (⟨(sumS [_]).lo + _, (sumS [_]).hi + _⟩ : Span) = _
  simp only [Int.sub_self, Int.mul_zero, Int.add_zero]
  unfold sumS
  simp
/-- What the hours between two readings that follow one another can be. -/
structure OneBd (d : Dial) (n re : Int) (s g : Span) : Prop where
  a : s.lo ≤ g.lo + d.rate.hi * re
  b : g.hi + d.rate.lo * re ≤ s.hi
  c : d.rate.lo * n < g.lo → g.lo - 1 + d.rate.hi * re < s.lo
  e : g.hi < d.rate.hi * n → s.hi < g.hi + 1 + d.rate.lo * re
end Go.Proofs.YtckaaaebegemoaaDoor
