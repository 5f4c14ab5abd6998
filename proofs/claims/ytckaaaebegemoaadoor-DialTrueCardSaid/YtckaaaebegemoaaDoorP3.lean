/-
  What the reference computes, step by step: one number of cubic feet after another; one reading after another.
-/
import Derived.Test.YtckaaaebegemoaaDoorP2
set_option linter.all false
namespace Go.Proofs.YtckaaaebegemoaaDoor
open Go Go.H
theorem turn_succ (k : Nat) : 10 * turnI (k : Int) = turnI ((k + 1 : Nat) : Int) := by
  show 10 * (((10 ^ k : Nat) : Int)) = ((10 ^ (k + 1) : Nat) : Int)
  rw [Nat.pow_succ]; omega
theorem turn_le {k : Nat} (h : k ≤ 6) : 1 ≤ turnI (k : Int) ∧ turnI (k : Int) ≤ 1000000 := by
  have : k = 0 ∨ k = 1 ∨ k = 2 ∨ k = 3 ∨ k = 4 ∨ k = 5 ∨ k = 6 := by omega
  rcases this with rfl | rfl | rfl | rfl | rfl | rfl | rfl <;> decide
def fitsP (d : Dial) (a b : Card) (g : Int) : Prop := d.rate.lo * (b.hour - a.hour) ≤ g ∧ g ≤ d.rate.hi * (b.hour - a.hour) ∧ leastF d a b ≤ g ∧ (d.sticks = true ∨ (g - leastF d a b) % turnI d.digits = 0)
theorem div_uniq {x t q : Int} (h0 : 0 < t) (h1 : q * t ≤ x) (h2 : x < q * t + t) : x / t = q := by
  have a1 : q ≤ x / t := (Int.le_ediv_iff_mul_le h0).2 h1
  have a2 : x / t < q + 1 := (Int.ediv_lt_iff_lt_mul h0).2 (by rw [Int.add_mul]; omega)
  omega
/-- The gas between two readings that is not more than so much. -/
def btwH (d : Dial) (a b : Card) (high : Int) : Option Span :=
  if d.sticks then wiL (leastF d a b) (d.rate.lo * (b.hour - a.hour)) high
  else wiX (leastF d a b) (turnI d.digits) (d.rate.lo * (b.hour - a.hour)) high
theorem btwH_all (d : Dial) (a b : Card) : btwH d a b (d.rate.hi * (b.hour - a.hour)) = btw d a b := rfl
theorem wiX_step {least turn low g : Int} (h0 : 0 ≤ least) (h1 : least < turn) (hl : 0 ≤ low) (hg : low ≤ g) :
    (least ≤ g ∧ (g - least) % turn = 0 → wiX least turn low g = some (match wiX least turn low (g - 1) with | none => ⟨g, g⟩ | some s => ⟨s.lo, g⟩)) ∧
    (¬ (least ≤ g ∧ (g - least) % turn = 0) → wiX least turn low g = wiX least turn low (g - 1)) := by
  obtain ⟨k0, k1, k2, k3⟩ := kX_bd h0 h1 hl
  have hd : ∀ high, wiX least turn low high = if least + kX least turn low * turn > high then none else some ⟨least + kX least turn low * turn, least + kX least turn low * turn + (high - (least + kX least turn low * turn)) / turn * turn⟩ := by
    intro high
    unfold wiX
    rw [show (low - least + turn - 1) / turn = kX least turn low from rfl, k3]
  rw [hd g, hd (g - 1)]
  have ht : 0 < turn := by omega
  have e := Int.mul_ediv_add_emod (g - least) turn
  rw [Int.mul_comm] at e
  have r0 := Int.emod_nonneg (g - least) (show turn ≠ 0 by omega)
  have r1 := Int.emod_lt_of_pos (g - least) ht
  have hk0 : 0 ≤ kX least turn low * turn := Int.mul_nonneg k0 (by omega)
  generalize hK : kX least turn low = K at *
  generalize hJ : (g - least) / turn = J at *
  generalize hR : (g - least) % turn = r at *
  have mono : ∀ x y : Int, x ≤ y → x * turn ≤ y * turn := fun x y h => Int.mul_le_mul_of_nonneg_right h (by omega)
  constructor
  · rintro ⟨hge, hr0⟩
    have hJK : K ≤ J := by
      by_cases h : K ≤ J
      · exact h
      · exfalso
        have := mono (J + 1) K (by omega)
        rw [Int.add_mul] at this
        omega
    have hm := mono K J hJK
    rw [if_neg (by omega)]
    by_cases hKJ : K = J
    · subst hKJ
      rw [if_pos (by omega)]
      have : (g - (least + K * turn)) / turn = 0 := div_uniq ht (by omega) (by omega)
      simp only [this, Int.zero_mul]
      congr 2 <;> omega
    · have hm2 := mono (K + 1) J (by omega)
      rw [Int.add_mul] at hm2
      rw [if_neg (by omega)]
      have : (g - (least + K * turn)) / turn = J - K := div_uniq ht (by rw [Int.sub_mul]; omega) (by rw [Int.sub_mul]; omega)
      simp only [this, Int.sub_mul]
      congr 2; omega
  · intro hn
    by_cases hgl : g < least
    · rw [if_pos (by omega), if_pos (by omega)]
    · have hr : r ≠ 0 := fun h => hn ⟨by omega, h⟩
      by_cases hKJ : K ≤ J
      · have hm := mono K J hKJ
        rw [if_neg (by omega), if_neg (by omega)]
        have e1 : (g - (least + K * turn)) / turn = J - K := div_uniq ht (by rw [Int.sub_mul]; omega) (by rw [Int.sub_mul]; omega)
        have e2 : (g - 1 - (least + K * turn)) / turn = J - K := div_uniq ht (by rw [Int.sub_mul]; omega) (by rw [Int.sub_mul]; omega)
        rw [e1, e2]
      · have hm := mono (J + 1) K (by omega)
        rw [Int.add_mul] at hm
        rw [if_pos (by omega), if_pos (by omega)]
theorem wiL_step {least low g : Int} (hg : low ≤ g) :
    (least ≤ g → wiL least low g = some (match wiL least low (g - 1) with | none => ⟨g, g⟩ | some s => ⟨s.lo, g⟩)) ∧ (¬ least ≤ g → wiL least low g = wiL least low (g - 1)) := by
  unfold wiL
  constructor
  · intro h
    rw [if_pos (by omega)]
    by_cases h2 : max least low ≤ g - 1
    · rw [if_pos h2]
    · rw [if_neg h2]
      congr 2; omega
  · intro h
    rw [if_neg (by omega), if_neg (by omega)]
theorem btwH_step {d : Dial} {a b : Card} {g : Int} (hd : dialOk d) (hab : a.hour ≤ b.hour) (hg : d.rate.lo * (b.hour - a.hour) ≤ g) (hg2 : g ≤ d.rate.hi * (b.hour - a.hour)) :
    (fitsP d a b g → btwH d a b g = some (match btwH d a b (g - 1) with | none => ⟨g, g⟩ | some s => ⟨s.lo, g⟩)) ∧ (¬ fitsP d a b g → btwH d a b g = btwH d a b (g - 1)) := by
  obtain ⟨l0, l1⟩ := least_bd (a := a) (b := b) hd
  have hlo : 0 ≤ d.rate.lo * (b.hour - a.hour) := Int.mul_nonneg hd.2.2.1 (by omega)
  unfold btwH fitsP
  by_cases hs : d.sticks = true
  · simp only [hs, if_true, true_or, and_true]
    obtain ⟨s1, s2⟩ := wiL_step (least := leastF d a b) hg
    exact ⟨fun h => s1 h.2.2, fun h => s2 fun h3 => h ⟨hg, hg2, h3⟩⟩
  · simp only [hs, if_false, false_or, Bool.false_eq_true]
    obtain ⟨s1, s2⟩ := wiX_step l0 l1 hlo hg
    exact ⟨fun h => s1 h.2.2, fun h => s2 fun h3 => h ⟨hg, hg2, h3⟩⟩
theorem btwH_none {d : Dial} {a b : Card} (hd : dialOk d) (hab : a.hour ≤ b.hour) : btwH d a b (d.rate.lo * (b.hour - a.hour) - 1) = none := by
  obtain ⟨l0, l1⟩ := least_bd (a := a) (b := b) hd
  have hlo : 0 ≤ d.rate.lo * (b.hour - a.hour) := Int.mul_nonneg hd.2.2.1 (by omega)
  unfold btwH
  split
  · unfold wiL; rw [if_neg (by omega)]
  · obtain ⟨k0, k1, k2, k3⟩ := kX_bd l0 l1 hlo
    unfold wiX
    rw [show (d.rate.lo * (b.hour - a.hour) - leastF d a b + turnI d.digits - 1) / turnI d.digits = kX (leastF d a b) (turnI d.digits) (d.rate.lo * (b.hour - a.hour)) from rfl, k3, if_pos (by omega)]
/-! ### One reading after another -/
theorem ins_at {c : Card} : ∀ {l : List Card} {i : Nat}, i ≤ l.length → (∀ j x, j < i → l[j]? = some x → x.hour < c.hour) →
    (i = l.length → insC c l = some (l.take i ++ c :: l.drop i)) ∧ (∀ x, l[i]? = some x → x.hour = c.hour → insC c l = if x = c then some l else none) ∧ (∀ x, l[i]? = some x → c.hour < x.hour → insC c l = some (l.take i ++ c :: l.drop i))
  | [], i, hi, h => by
    have : i = 0 := by simpa using hi
    subst this
    exact ⟨fun _ => rfl, fun x hx => by simp at hx, fun x hx => by simp at hx⟩
  | y :: l, 0, hi, h => by
    refine ⟨fun h => by simp at h, fun x hx he => ?_, fun x hx he => ?_⟩
    · simp at hx; subst hx
      simp only [insC]
      rw [if_neg (by omega), if_pos he]
    · simp at hx; subst hx
      simp only [insC]
      rw [if_neg (by omega), if_neg (by omega)]
      rfl
  | y :: l, i + 1, hi, h => by
    have hy : y.hour < c.hour := h 0 y (by omega) rfl
    obtain ⟨h1, h2, h3⟩ := ins_at (c := c) (l := l) (i := i) (by simpa using hi) (fun j x hj hx => h (j + 1) x (by omega) (by simpa using hx))
    simp only [insC, if_pos hy]
    refine ⟨fun he => ?_, fun x hx he => ?_, fun x hx he => ?_⟩
    · rw [h1 (by simpa using he)]; rfl
    · rw [h2 x (by simpa using hx) he]
      split <;> rfl
    · rw [h3 x (by simpa using hx) he]; rfl
theorem read_mono {cs : List Card} {house : Int} {k : Nat} (h : readL (cs.take k) house = none) : readL cs house = none := by
  have : ∀ ds, readL (cs.take k ++ ds) house = none := by
    intro ds
    induction ds using snoc_ind with
    | h0 => rw [List.append_nil]; exact h
    | h1 ds c ih =>
      rw [← List.append_assoc, read_snoc]
      split
      · rw [ih]; rfl
      · exact ih
  rw [← List.take_append_drop k cs]; exact this _
theorem nohrs : HoursOk [] := fun x hx => by cases hx
theorem bad00 {p : Prop} (h : ¬ (p ∧ HoursOk [0, 0])) : ¬ (p ∧ HoursOk []) := fun hq => h ⟨hq.1, fun x hx => by simp at hx; subst hx; exact ⟨by decide, by decide⟩⟩
/-! ### When a meter is due: hour by hour -/
theorem due_0 {d : Dial} (hd : dialOk d) : ((0 : Nat) : Int) ≤ dueN d := by
  have htb := turn_bd hd.1 hd.2.1
  obtain ⟨g1, g2, g3, g4, g5⟩ := hd
  unfold dueN
  split
  · decide
  · exact Int.ediv_nonneg (by omega) (by omega)
theorem due_step {d : Dial} {i : Nat} (hd : dialOk d) (hi : (i : Int) ≤ dueN d) (hi2 : (i : Int) < 1048576) (h : (d.rate.hi - d.rate.lo) * ((i : Int) + 1) < turnI d.digits) : ((i + 1 : Nat) : Int) ≤ dueN d := by
  obtain ⟨g1, g2, g3, g4, g5⟩ := hd
  unfold dueN at *
  split
  · omega
  · rw [Int.natCast_add]
    refine (Int.le_ediv_iff_mul_le (by omega)).2 ?_
    rw [Int.mul_comm]
    show (d.rate.hi - d.rate.lo) * ((i : Int) + 1) ≤ _
    omega
theorem due_stop {d : Dial} {i : Nat} {x : Int} (hd : dialOk d) (hi : (i : Int) ≤ dueN d) (hx : x + i ≤ 1048576) (h : ¬ x + i < 1048576 ∨ ¬ (d.rate.hi - d.rate.lo) * ((i : Int) + 1) < turnI d.digits) : x + i = min 1048576 (x + dueN d) := by
  have htb := turn_bd hd.1 hd.2.1
  obtain ⟨g1, g2, g3, g4, g5⟩ := hd
  rcases h with h | h
  · omega
  · have : dueN d = i := by
      unfold dueN at *
      split
      · rename_i he
        exfalso
        rw [show d.rate.hi - d.rate.lo = 0 by omega, Int.zero_mul] at h
        omega
      · rename_i he
        rw [if_neg he] at hi
        have h2 : (turnI d.digits - 1) / (d.rate.hi - d.rate.lo) < (i : Int) + 1 := (Int.ediv_lt_iff_lt_mul (by omega)).2 (by rw [Int.mul_comm]; omega)
        omega
    omega
/-! ### When two spans are one -/
theorem eqc_spanD (a b : Span) : (!eqc [I a.lo, I a.hi] [I b.lo, I b.hi]) = !decide (a = b) := by
  obtain ⟨a, a'⟩ := a
  obtain ⟨b, b'⟩ := b
  simp only [eqc, Span.mk.injEq]
  by_cases ha : a = b <;> by_cases hb : a' = b' <;> simp [ha, hb]
theorem eqc_self : ∀ {xs : List Value}, (∀ x ∈ xs, Num x) → eqc xs xs = true
  | [], _ => rfl
  | x :: xs, h => by
    obtain ⟨n, rfl⟩ := h x List.mem_cons_self
    simp only [eqc, beq_self_eq_true, Bool.true_and]
    exact eqc_self fun y hy => h y (List.mem_cons_of_mem _ hy)
end Go.Proofs.YtckaaaebegemoaaDoor
