/-
  What was missed: the first hour in which a station has no test in the period until then.
-/
import Derived.Test.YtjbfdfmngampdaaP2
import Derived.Test.YtjbfdfmngampdaaHU
set_option linter.all false
namespace Go.Proofs.Ytjbfdfmngampdaa
open Go Go.H
structure MissB (stations period : Int) (own : Span) : Prop where
  s1 : 1 ≤ stations
  s2 : stations ≤ 16
  p1 : 1 ≤ period
  p2 : period ≤ 10000
  l0 : 0 ≤ own.lo
  lh : own.lo ≤ own.hi
  hh : own.hi ≤ 1048576
/-- What is answered. -/
def MissR (l : List Test) (st p : Int) (own : Span) (x : Int × Int × Int) : Prop :=
  (errT l ≠ 0 ∧ x = (0, 0, errT l)) ∨ (errT l = 0 ∧ ¬ MissB st p own ∧ x = (0, 0, 2)) ∨
  (errT l = 0 ∧ MissB st p own ∧ x = (0, 0, 4) ∧ ∀ h s, own.lo + p - 1 ≤ h → h ≤ own.hi → 0 ≤ s → s < st → TestedIn l s (h - p + 1) h) ∨
  (errT l = 0 ∧ MissB st p own ∧ ∃ h s, x = (h, s, 0) ∧ own.lo + p - 1 ≤ h ∧ h ≤ own.hi ∧ 0 ≤ s ∧ s < st ∧ ¬ TestedIn l s (h - p + 1) h ∧ (∀ h' s', own.lo + p - 1 ≤ h' → h' < h → 0 ≤ s' → s' < st → TestedIn l s' (h' - p + 1) h') ∧ ∀ s', 0 ≤ s' → s' < s → TestedIn l s' (h - p + 1) h)
theorem miss_uniq {l : List Test} {st p : Int} {own : Span} {x y : Int × Int × Int} (hx : MissR l st p own x) (hy : MissR l st p own y) : x = y := by
  rcases hx with ⟨a, rfl⟩ | ⟨a, b, rfl⟩ | ⟨a, b, rfl, c⟩ | ⟨a, b, h, s, rfl, c1, c2, c3, c4, c5, c6, c7⟩ <;> rcases hy with ⟨a', rfl⟩ | ⟨a', b', rfl⟩ | ⟨a', b', rfl, c'⟩ | ⟨a', b', h', s', rfl, d1, d2, d3, d4, d5, d6, d7⟩ <;> first | rfl | exact absurd a' a | exact absurd a a' | exact absurd b' b | exact absurd b b' | skip
  · exact absurd (c h' s' d1 d2 d3 d4) d5
  · exact absurd (c' h s c1 c2 c3 c4) c5
  · have hh : h = h' := by
      by_cases q1 : h < h'
      · exact absurd (d6 h s c1 q1 c3 c4) c5
      · by_cases q2 : h' < h
        · exact absurd (c6 h' s' d1 q2 d3 d4) d5
        · omega
    subst hh
    have hs : s = s' := by
      by_cases q1 : s < s'
      · exact absurd (d7 s c3 q1) c5
      · by_cases q2 : s' < s
        · exact absurd (c7 s' d3 q2) d5
        · omega
    subst hs
    rfl
/-! ### One station: until when the tests are enough -/
structure UInv (p u0 : Int) (u : Int) (pre : List Test) : Prop where
  ge : u0 ≤ u
  cov : ∀ h, u0 ≤ h → h < u → ∃ x ∈ pre, h - p + 1 ≤ x.hour ∧ x.hour ≤ h
  top : ∀ x ∈ pre, x.hour ≤ u → x.hour + p ≤ u
theorem uinv_nil {p u0 : Int} : UInv p u0 u0 [] := ⟨Int.le_refl _, fun h h1 h2 => by omega, fun x hx => by cases hx⟩
theorem UInv.yes {p u0 u : Int} {pre : List Test} {x : Test} (H : UInv p u0 u pre) (hp : 1 ≤ p) (hs : ∀ y ∈ pre, y.hour ≤ x.hour) (hx : x.hour ≤ u) : UInv p u0 (max u (x.hour + p)) (pre ++ [x]) where
  ge := by have := H.ge; omega
  cov := fun h h1 h2 => by
    by_cases q : h < u
    · obtain ⟨y, hy, h3⟩ := H.cov h h1 q
      exact ⟨y, List.mem_append_left _ hy, h3⟩
    · exact ⟨x, by simp, by omega, by omega⟩
  top := fun y hy h1 => by
    rcases List.mem_append.1 hy with hy | hy
    · have := H.top y hy (by have := hs y hy; omega); omega
    · rw [List.mem_singleton.1 hy]; omega
theorem UInv.no {p u0 u : Int} {pre : List Test} {x : Test} (H : UInv p u0 u pre) (hx : ¬ x.hour ≤ u) : UInv p u0 u (pre ++ [x]) where
  ge := H.ge
  cov := fun h h1 h2 => by
    obtain ⟨y, hy, h3⟩ := H.cov h h1 h2
    exact ⟨y, List.mem_append_left _ hy, h3⟩
  top := fun y hy h1 => by
    rcases List.mem_append.1 hy with hy | hy
    · exact H.top y hy h1
    · rw [List.mem_singleton.1 hy] at h1; omega
/-- The first hour from one on without a test. -/
structure IsU (l : List Test) (s p u0 u : Int) : Prop where
  ge : u0 ≤ u
  cov : ∀ h, u0 ≤ h → h < u → TestedIn l s (h - p + 1) h
  no : ¬ TestedIn l s (u - p + 1) u
theorem UInv.isU {l : List Test} {s p u0 u : Int} {own : List Test} (H : UInv p u0 u own) (hm : ∀ x, x ∈ own ↔ x ∈ l ∧ x.station = s) : IsU l s p u0 u where
  ge := H.ge
  cov := fun h h1 h2 => by
    obtain ⟨x, hx, h3⟩ := H.cov h h1 h2
    have := (hm x).1 hx
    exact ⟨x, this.1, this.2, h3⟩
  no := fun ⟨x, h1, h2, h3, h4⟩ => by
    have := H.top x ((hm x).2 ⟨h1, h2⟩) h4
    omega
/-- After some stations. -/
structure MInv (l : List Test) (p : Int) (own : Span) (k : Int) (hour station : Int) : Prop where
  le : hour ≤ own.hi + 1
  cov : ∀ h s, own.lo + p - 1 ≤ h → h < hour → 0 ≤ s → s < k → TestedIn l s (h - p + 1) h
  at_ : hour ≤ own.hi → 0 ≤ station ∧ station < k ∧ own.lo + p - 1 ≤ hour ∧ ¬ TestedIn l station (hour - p + 1) hour ∧ ∀ s, 0 ≤ s → s < station → TestedIn l s (hour - p + 1) hour
theorem minv_0 {l : List Test} {p : Int} {own : Span} : MInv l p own 0 (own.hi + 1) 0 := ⟨Int.le_refl _, fun h s _ _ h3 h4 => by omega, fun h => by omega⟩
theorem MInv.less {l : List Test} {p k hour station u : Int} {own : Span} (H : MInv l p own k hour station) (h0 : 0 ≤ k) (hu : IsU l k p (own.lo + p - 1) u) (h : u < hour) : MInv l p own (k + 1) u k where
  le := by have := H.le; omega
  cov := fun h' s h1 h2 h3 h4 => by
    by_cases q : s < k
    · exact H.cov h' s h1 (by omega) h3 q
    · obtain rfl : s = k := by omega
      exact hu.cov h' h1 h2
  at_ := fun _ => ⟨h0, by omega, hu.ge, hu.no, fun s h3 h4 => H.cov u s hu.ge h h3 h4⟩
theorem MInv.more {l : List Test} {p k hour station u : Int} {own : Span} (H : MInv l p own k hour station) (hu : IsU l k p (own.lo + p - 1) u) (h : ¬ u < hour) : MInv l p own (k + 1) hour station where
  le := H.le
  cov := fun h' s h1 h2 h3 h4 => by
    by_cases q : s < k
    · exact H.cov h' s h1 h2 h3 q
    · obtain rfl : s = k := by omega
      exact hu.cov h' h1 (by omega)
  at_ := fun h1 => by
    obtain ⟨a, b, c, d, e⟩ := H.at_ h1
    exact ⟨a, by omega, c, d, e⟩
theorem MInv.none {l : List Test} {p st hour station : Int} {own : Span} (H : MInv l p own st hour station) (he : errT l = 0) (hb : MissB st p own) (h : hour > own.hi) : MissR l st p own (0, 0, 4) :=
  .inr (.inr (.inl ⟨he, hb, rfl, fun h' s h1 h2 h3 h4 => H.cov h' s h1 (by omega) h3 h4⟩))
theorem MInv.some {l : List Test} {p st hour station : Int} {own : Span} (H : MInv l p own st hour station) (he : errT l = 0) (hb : MissB st p own) (h : ¬ hour > own.hi) : MissR l st p own (hour, station, 0) := by
  obtain ⟨a, b, c, d, e⟩ := H.at_ (by omega)
  exact .inr (.inr (.inr ⟨he, hb, hour, station, rfl, c, by omega, a, b, d, fun h' s' h1 h2 h3 h4 => H.cov h' s' h1 h2 h3 h4, e⟩))
/-! ### The order of the hours -/
def cmT (x y : Test) : Int := x.hour - y.hour
theorem cmT_swo : Go.Sort.SWO (ltc cmT) := by
  have e : ∀ x y, ltc cmT x y = decide (x.hour < y.hour) := fun x y => by unfold ltc cmT; exact decide_eq_decide.2 (by omega)
  refine ⟨fun x => ?_, fun x y z => ?_, fun x y z => ?_⟩ <;> simp only [e, decide_eq_true_eq, decide_eq_false_iff_not] <;> omega
theorem sorted_le {ys : List Test} (h : ys.Pairwise fun a b => ¬ cmT b a < 0) {k : Nat} {x : Test} (hk : ys[k]? = some x) : ∀ y ∈ ys.take k, y.hour ≤ x.hour := fun y hy => by
  obtain ⟨i, hi⟩ := List.getElem?_of_mem hy
  have hl := (List.getElem?_eq_some_iff.1 hi).1
  rw [List.length_take] at hl
  rw [List.getElem?_take_of_lt (by omega)] at hi
  obtain ⟨h1, e1⟩ := List.getElem?_eq_some_iff.1 hi
  obtain ⟨h2, e2⟩ := List.getElem?_eq_some_iff.1 hk
  have := List.pairwise_iff_getElem.1 h i k h1 h2 (by omega)
  rw [e1, e2] at this
  unfold cmT at this
  omega
/-! ### What does not serve is taken out -/
def keepL (p : Test → Bool) (xs : List Test) : List Test := xs.filter fun x => !p x
theorem keep_take {p : Test → Bool} {xs : List Test} {k : Nat} {x : Test} (hk : xs[k]? = some x) : keepL p (xs.take (k + 1)) = if p x = true then keepL p (xs.take k) else keepL p (xs.take k) ++ [x] := by
  rw [List.take_add_one, hk]
  unfold keepL
  rw [List.filter_append]
  cases h : p x <;> simp [h]
theorem keep_all {p : Test → Bool} {xs : List Test} (h : ∀ (i : Nat) (x : Test), xs[i]? = some x → p x = false) : keepL p xs = xs := List.filter_eq_self.2 fun x hx => by
  obtain ⟨i, hi⟩ := List.getElem?_of_mem hx
  simp [h i x hi]
theorem keep_pre {p : Test → Bool} {xs : List Test} {k : Nat} (h : ∀ (i : Nat) (x : Test), i < k → xs[i]? = some x → p x = false) : keepL p (xs.take k) = xs.take k := keep_all fun i x hx => by
  have hl := (List.getElem?_eq_some_iff.1 hx).1
  rw [List.length_take] at hl
  rw [List.getElem?_take_of_lt (by omega)] at hx
  exact h i x (by omega) hx
theorem keep_len (p : Test → Bool) (xs : List Test) : (keepL p xs).length ≤ xs.length := List.length_filter_le _ _
theorem keep_mem {s : Int} {xs : List Test} {x : Test} : x ∈ keepL (fun t => decide (t.station ≠ s)) xs ↔ x ∈ xs ∧ x.station = s := by
  unfold keepL
  rw [List.mem_filter]
  simp
structure DInv (p : Test → Bool) (xs zs : List Test) (i j : Nat) : Prop where
  lt : i < j
  le : j ≤ xs.length
  len : zs.length = xs.length
  pre : zs.take i = keepL p (xs.take j)
  rest : ∀ q, j ≤ q → zs[q]? = xs[q]?
theorem DInv.ilen {p : Test → Bool} {xs zs : List Test} {i j : Nat} (H : DInv p xs zs i j) : (keepL p (xs.take j)).length = i := by
  rw [← H.pre, List.length_take]
  have := H.lt; have := H.le; have := H.len
  omega
theorem dinv_0 {p : Test → Bool} {xs : List Test} {k : Nat} {x : Test} (hk : xs[k]? = some x) (hx : p x = true) (h : ∀ (i : Nat) (y : Test), i < k → xs[i]? = some y → p y = false) : DInv p xs xs k (k + 1) where
  lt := Nat.lt_succ_self _
  le := (List.getElem?_eq_some_iff.1 hk).1
  len := rfl
  pre := by rw [keep_take hk, if_pos hx, keep_pre h]
  rest := fun q _ => rfl
theorem DInv.drop {p : Test → Bool} {xs zs : List Test} {i j : Nat} {x : Test} (H : DInv p xs zs i j) (hj : xs[j]? = some x) (hx : p x = true) : DInv p xs zs i (j + 1) where
  lt := by have := H.lt; omega
  le := (List.getElem?_eq_some_iff.1 hj).1
  len := H.len
  pre := by rw [keep_take hj, if_pos hx]; exact H.pre
  rest := fun q hq => H.rest q (by omega)
theorem DInv.keep {p : Test → Bool} {xs zs : List Test} {i j : Nat} {x : Test} (H : DInv p xs zs i j) (hj : xs[j]? = some x) (hx : ¬ p x = true) : DInv p xs (zs.set i x) (i + 1) (j + 1) where
  lt := by have := H.lt; omega
  le := (List.getElem?_eq_some_iff.1 hj).1
  len := by rw [List.length_set]; exact H.len
  pre := by
    have h1 := H.lt; have h2 := H.le; have h3 := H.len
    rw [keep_take hj, if_neg hx, ← H.pre, List.take_add_one, List.getElem?_set_self (by omega), List.take_set, List.set_eq_of_length_le (by rw [List.length_take]; omega)]
    rfl
  rest := fun q hq => by
    rw [List.getElem?_set_ne (by have := H.lt; omega)]
    exact H.rest q (by omega)
theorem DInv.fin {p : Test → Bool} {xs zs : List Test} {i j : Nat} (H : DInv p xs zs i j) (hj : ¬ j < xs.length) : zs.take i = keepL p xs ∧ i = (keepL p xs).length ∧ i < xs.length := by
  have h1 := H.lt; have h2 := H.le
  have hj2 : j = xs.length := by omega
  have h3 := H.ilen
  have h4 := H.pre
  rw [hj2, List.take_length] at h3 h4
  exact ⟨h4, h3.symm, by omega⟩
theorem slv_none {α : Type} {h : Hp} {sz : Nat} {enc : α → List Value} {xs : List α} (H : SlV h sz enc none xs) : xs = [] := by
  rcases H with H | ⟨b, o, l, t, fz, h1, _⟩
  · exact H
  · cases h1
theorem zero_all {z : Array Value} (h : z.toList.all Value.oneCell' = true) (n : Nat) : (Builtin.zeroCells z n).toList.all Value.oneCell' = true := by
  rw [List.all_eq_true] at h ⊢
  intro v hv
  unfold Builtin.zeroCells at hv
  simp only [Array.toList_map, List.mem_map] at hv
  obtain ⟨i, _, rfl⟩ := hv
  by_cases hz : i % z.size < z.size
  · rw [getElem!_pos z _ hz]
    exact h _ (by simp)
  · rw [getElem!_neg z _ hz]
    rfl
theorem drop_at {b c i sz : Nat} (h : i < c) : dropA (some ⟨b, 0, none⟩) c i sz = some ⟨b, i * sz, none⟩ := by
  unfold dropA
  rw [if_neg (by omega)]
  show some (Addr.add _ _) = _
  rw [addr_add, Nat.zero_add]
theorem flat_take {α : Type} {enc : α → List Value} {sz : Nat} (henc : ∀ x, (enc x).length = sz) (sp : List Value) : ∀ (xs : List α) (k : Nat), k ≤ xs.length → (xs.flatMap enc ++ sp).take (k * sz) = (xs.take k).flatMap enc
  | xs, 0, _ => by simp
  | [], k + 1, h => by simp at h
  | x :: xs, k + 1, h => by
    have ih := flat_take henc sp xs k (by simpa using h)
    rw [List.flatMap_cons, List.append_assoc, Nat.add_mul, Nat.one_mul, Nat.add_comm, List.take_append, henc, Nat.add_sub_cancel_left, ih, List.take_of_length_le (by rw [henc]; omega)]
    simp
theorem clear_eq {p : Test → Bool} {xs zs : List Test} {sp l9 : List Value} {i : Nat} (hi : i ≤ zs.length) (h : l9.take (i * 4) = (zs.flatMap eTest ++ sp).take (i * 4)) (h2 : zs.take i = keepL p xs) : (keepL p xs).flatMap eTest ++ l9.drop (i * 4) = l9 := by
  rw [← h2, ← flat_take eTest_len sp zs i hi, ← h, List.take_append_drop]
end Go.Proofs.Ytjbfdfmngampdaa
