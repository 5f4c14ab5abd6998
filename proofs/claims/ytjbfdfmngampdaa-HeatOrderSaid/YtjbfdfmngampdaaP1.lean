/-
  The tests of the heat: what is valid; what lacks in a window; what is answered; plain functions.
-/
import Derived.Test.YtjbfdfmngampdaaD
set_option linter.all false
namespace Go.Proofs.Ytjbfdfmngampdaa
open Go Go.H
def nay (p : Prop) [Decidable p] : Bool := !decide p
theorem nay_T {p : Prop} [Decidable p] (h : ¬ p) : nay p = true := by simp [nay, h]
theorem nay_F {p : Prop} [Decidable p] (h : p) : nay p = false := by simp [nay, h]
theorem of_nay_T {p : Prop} [Decidable p] (h : nay p = true) : ¬ p := by simpa [nay] using h
theorem of_nay_F {p : Prop} [Decidable p] (h : nay p = false) : p := by simpa [nay] using h
def heatOk (s : Span) : Prop := 0 ≤ s.lo ∧ s.lo ≤ s.hi ∧ s.hi ≤ 10000
instance (s : Span) : Decidable (heatOk s) := by unfold heatOk; infer_instance
def hourOk (h : Int) : Prop := 0 ≤ h ∧ h ≤ 1048576
instance (h : Int) : Decidable (hourOk h) := by unfold hourOk; infer_instance
def supOk (x : Supply) : Prop := heatOk x.heat ∧ (0 ≤ x.volume ∧ x.volume ≤ 1) ∧ (0 ≤ x.most ∧ x.most ≤ 20) ∧ 0 ≤ x.pay ∧ x.pay ≤ 1000000
instance (x : Supply) : Decidable (supOk x) := by unfold supOk; infer_instance
def testOk (t : Test) : Prop := hourOk t.hour ∧ (0 ≤ t.station ∧ t.station ≤ 15) ∧ heatOk t.heat
instance (t : Test) : Decidable (testOk t) := by unfold testOk; infer_instance
def decOk (d : Decree) : Prop := (1 ≤ d.window ∧ d.window ≤ 10000) ∧ (0 ≤ d.declared ∧ d.declared ≤ 10000) ∧ (0 ≤ d.slack ∧ d.slack ≤ d.declared) ∧ 0 ≤ d.pay ∧ d.pay ≤ 1000000
instance (d : Decree) : Decidable (decOk d) := by unfold decOk; infer_instance
def AllOk (l : List Test) : Prop := ∀ t ∈ l, testOk t
instance (l : List Test) : Decidable (AllOk l) := by unfold AllOk; infer_instance
def errT (l : List Test) : Int := if l.length > 32 then 3 else if AllOk l then 0 else 1
def startE (d : Decree) (l : List Test) : Int := if l.length > 32 then 3 else if decOk d ∧ AllOk l then 0 else 1
def inWin (d : Decree) (hour : Int) (t : Test) : Prop := hour - d.window < t.hour ∧ t.hour ≤ hour
instance (d : Decree) (hour : Int) (t : Test) : Decidable (inWin d hour t) := by unfold inWin; infer_instance
def mustF (d : Decree) : Int := d.declared - d.slack
def lackS (d : Decree) (l : List Test) : Span := l.foldl (fun s t => ⟨s.lo + (mustF d - t.heat.hi), s.hi + (mustF d - t.heat.lo)⟩) ⟨0, 0⟩
def winL (d : Decree) (l : List Test) (hour : Int) : List Test := l.filter fun t => inWin d hour t
def lackF (d : Decree) (l : List Test) (hour : Int) : Span := lackS d (winL d l hour)
def lackN (d : Decree) (l : List Test) (hour : Int) : Int := (winL d l hour).length
theorem lackS_snoc (d : Decree) (l : List Test) (t : Test) : lackS d (l ++ [t]) = ⟨(lackS d l).lo + (mustF d - t.heat.hi), (lackS d l).hi + (mustF d - t.heat.lo)⟩ := by
  unfold lackS; rw [List.foldl_append]; rfl
theorem snoc_ind {α : Type} {P : List α → Prop} (h0 : P []) (h1 : ∀ l a, P l → P (l ++ [a])) (l : List α) : P l := by
  have : ∀ m : List α, P m.reverse := by
    intro m
    induction m with
    | nil => exact h0
    | cons a m ih => rw [List.reverse_cons]; exact h1 _ _ ih
  simpa using this l.reverse
theorem lackS_bd {d : Decree} (hd : decOk d) {l : List Test} (h : AllOk l) : -(10000 * (l.length : Int)) ≤ (lackS d l).lo ∧ (lackS d l).lo ≤ (lackS d l).hi ∧ (lackS d l).hi ≤ 10000 * (l.length : Int) := by
  induction l using snoc_ind with
  | h0 => simp [lackS]
  | h1 l t ih =>
    have ih := ih fun x hx => h x (List.mem_append_left _ hx)
    obtain ⟨_, _, a, b, c⟩ := h t (by simp)
    obtain ⟨_, d1, d2, _⟩ := hd
    rw [lackS_snoc]
    simp only [List.length_append, List.length_singleton]
    unfold mustF
    omega
theorem win_take {d : Decree} {l : List Test} {hour : Int} {k : Nat} {t : Test} (hk : l[k]? = some t) : winL d (l.take (k + 1)) hour = if inWin d hour t then winL d (l.take k) hour ++ [t] else winL d (l.take k) hour := by
  rw [List.take_add_one, hk]
  unfold winL
  rw [List.filter_append]
  by_cases h : inWin d hour t <;> simp [h]
theorem win_len (d : Decree) (l : List Test) (hour : Int) : (winL d l hour).length ≤ l.length := List.length_filter_le _ _
theorem win_ok {d : Decree} {l : List Test} {hour : Int} (h : AllOk l) : AllOk (winL d l hour) := fun t ht => h t ((List.mem_filter.1 ht).1)
theorem AllOk.take {l : List Test} (h : AllOk l) (k : Nat) : AllOk (l.take k) := fun t ht => h t (List.mem_of_mem_take ht)
def ansF (s : Span) : Int := if s.hi ≤ 0 then 2 else if s.lo > 0 then 0 else 1
def keptA (d : Decree) (l : List Test) (hour : Int) : Int × Int :=
  if startE d l = 0 then (if hourOk hour then (if lackN d l hour = 0 then (0, 4) else (ansF (lackF d l hour), 0)) else (0, 2)) else (0, startE d l)
def payF (d : Decree) (lack n : Int) : Int := if lack ≤ 0 then 0 else (lack * d.pay + n - 1) / n
def dueA (d : Decree) (l : List Test) (hour : Int) : Span × Int :=
  if (keptA d l hour).2 = 0 then (⟨payF d (lackF d l hour).lo (lackN d l hour), payF d (lackF d l hour).hi (lackN d l hour)⟩, 0) else (⟨0, 0⟩, (keptA d l hour).2)
/-- The worse of two: its answer, its hour. -/
def worseF (a b : Int × Int) : Int × Int := if b.1 < a.1 ∨ b.1 = a.1 ∧ b.2 < a.2 then b else a
def worstF (d : Decree) (all l : List Test) : Int × Int := l.foldl (fun a t => worseF a (ansF (lackF d all t.hour), t.hour)) (3, 0)
def worstA (d : Decree) (l : List Test) : Int × Int × Int :=
  if startE d l = 0 then (if l.length = 0 then (0, 0, 4) else ((worstF d l l).2, (worstF d l l).1, 0)) else (0, 0, startE d l)
theorem worst_take {d : Decree} {all l : List Test} {k : Nat} {t : Test} (hk : l[k]? = some t) : worstF d all (l.take (k + 1)) = worseF (worstF d all (l.take k)) (ansF (lackF d all t.hour), t.hour) := by
  rw [List.take_add_one, hk]
  unfold worstF
  rw [List.foldl_append]; rfl
theorem ans_bd (s : Span) : 0 ≤ ansF s ∧ ansF s ≤ 2 := by unfold ansF; split <;> (try split) <;> omega
theorem worse_bd {d : Decree} {all l : List Test} (h : AllOk l) : 0 ≤ (worstF d all l).1 ∧ (worstF d all l).1 ≤ 3 ∧ 0 ≤ (worstF d all l).2 ∧ (worstF d all l).2 ≤ 1048576 := by
  induction l using snoc_ind with
  | h0 => simp [worstF]
  | h1 l t ih =>
    have ih := ih fun x hx => h x (List.mem_append_left _ hx)
    have ht := (h t (by simp)).1
    have ha := ans_bd (lackF d all t.hour)
    unfold worstF at ih ⊢
    rw [List.foldl_append]
    simp only [List.foldl_cons, List.foldl_nil]
    unfold worseF hourOk at *
    split
    · exact ⟨ha.1, by dsimp only; omega, ht.1, ht.2⟩
    · exact ih
theorem start_err {d : Decree} {l : List Test} : (errT l ≠ 0 ∨ decOk d) → startE d l = errT l := by
  unfold startE errT
  intro h
  by_cases h1 : l.length > 32
  · rw [if_pos h1, if_pos h1]
  · rw [if_neg h1, if_neg h1] at *
    by_cases h2 : AllOk l
    · have : decOk d := h.resolve_left (by rw [if_pos h2]; decide)
      rw [if_pos h2, if_pos ⟨this, h2⟩]
    · rw [if_neg h2, if_neg (fun q => h2 q.2)]
theorem start_bad {d : Decree} {l : List Test} (h : errT l = 0) (h2 : ¬ decOk d) : startE d l = 1 := by
  unfold startE errT at *
  split at h
  · cases h
  · rename_i h1
    rw [if_neg h1, if_neg (fun q => h2 q.1)]
theorem start_ok {d : Decree} {l : List Test} (h : startE d l = 0) : l.length ≤ 32 ∧ decOk d ∧ AllOk l := by
  unfold startE at h
  split at h
  · cases h
  · split at h
    · rename_i h1 h2; exact ⟨by omega, h2⟩
    · cases h
theorem err_ok {l : List Test} (h : errT l = 0) : l.length ≤ 32 ∧ AllOk l := by
  unfold errT at h
  split at h
  · cases h
  · split at h
    · rename_i h1 h2; exact ⟨by omega, h2⟩
    · cases h
theorem kept_ok {d : Decree} {l : List Test} {hour : Int} (h : (keptA d l hour).2 = 0) : startE d l = 0 ∧ hourOk hour ∧ lackN d l hour ≠ 0 := by
  unfold keptA at h
  split at h
  · rename_i h1
    split at h
    · split at h
      · cases h
      · rename_i h2 h3; exact ⟨h1, h2, h3⟩
    · cases h
  · rename_i h1; exact absurd h h1
/-! ### What was missed -/
def TestedIn (l : List Test) (s f t : Int) : Prop := ∃ x ∈ l, x.station = s ∧ f ≤ x.hour ∧ x.hour ≤ t
instance (l : List Test) (s f t : Int) : Decidable (TestedIn l s f t) := by unfold TestedIn; infer_instance
end Go.Proofs.Ytjbfdfmngampdaa
