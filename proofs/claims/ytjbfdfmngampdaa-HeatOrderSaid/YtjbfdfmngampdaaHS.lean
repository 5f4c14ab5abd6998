/-
  Sorting: an array in a block; the kit's plain functions of the sort, one step at a time.
-/
import Derived.Test.YtjbfdfmngampdaaHG
import Derived.Sort.AssemblyPlain
set_option linter.all false
namespace Go.H
open Go Go.Sort
variable {α : Type} [Inhabited α]
def ltc (cm : α → α → Int) : α → α → Bool := fun x y => decide (cm x y < 0)
theorem ltc_T {cm : α → α → Int} {x y : α} (h : cm x y < 0) : ltc cm x y = true := decide_eq_true h
theorem ltc_F {cm : α → α → Int} {x y : α} (h : 0 ≤ cm x y) : ltc cm x y = false := decide_eq_false (by omega)
structure Arr (N : Nat) (p : α → Prop) (d : Array α) : Prop where
  size : d.size = N
  all : ∀ i, i < N → p d[i]!
theorem get_set {d : Array α} {i j : Nat} {v : α} (hi : i < d.size) : (d.setIfInBounds i v)[j]! = if i = j then v else d[j]! := by
  simp only [getElem!_def, Array.getElem?_setIfInBounds]
  by_cases h : i = j
  · subst h; simp [hi]
  · simp [h]
theorem Arr.set {N : Nat} {p : α → Prop} {d : Array α} {i : Nat} {v : α} (H : Arr N p d) (hi : i < N) (hv : p v) : Arr N p (d.setIfInBounds i v) :=
  ⟨by rw [Array.size_setIfInBounds]; exact H.size, fun j hj => by
    rw [get_set (by rw [H.size]; exact hi)]
    split
    · exact hv
    · exact H.all j hj⟩
theorem Arr.swp {N : Nat} {p : α → Prop} {d : Array α} {i j : Nat} (H : Arr N p d) (hi : i < N) (hj : j < N) : Arr N p (swp d i j) := (H.set hi (H.all j hj)).set hj (H.all i hi)
section
variable {enc : α → List Value} {sz : Nat}
theorem ca_list {d : Array α} {k : Nat} (h : k < d.size) : d.toList[k]? = some d[k]! := by
  rw [Array.getElem?_toList, getElem!_def]
  simp [h]
theorem ca_get (henc : ∀ x, (enc x).length = sz) {d : Array α} {k : Nat} {sp : List Value} (h : k < d.size) : ((d.toList.flatMap enc ++ sp).drop (0 + k * sz)).take sz = enc d[k]! := flat_at henc sp d.toList k (ca_list h)
theorem ca_splice (henc : ∀ x, (enc x).length = sz) {d : Array α} {k : Nat} {y : α} {sp : List Value} (h : k < d.size) : splice (d.toList.flatMap enc ++ sp) (0 + k * sz) (enc y) = (d.setIfInBounds k y).toList.flatMap enc ++ sp := by
  rw [splice_flat henc sp d.toList k (by simpa using h), Array.toList_setIfInBounds]
theorem ca_len (henc : ∀ x, (enc x).length = sz) {d : Array α} {sp : List Value} : (d.toList.flatMap enc ++ sp).length = d.size * sz + sp.length := by rw [List.length_append, flat_lenM henc]; simp
theorem ca_room (henc : ∀ x, (enc x).length = sz) {d : Array α} {k : Nat} {sp : List Value} (h : k < d.size) : Nat.ble (0 + k * sz + sz) (d.toList.flatMap enc ++ sp).length = true := by
  rw [ca_len henc, Nat.ble_eq]
  have := Nat.mul_le_mul_right sz (show k + 1 ≤ d.size from h)
  rw [Nat.add_mul] at this
  omega
end
/-! one step of each of the kit's functions -/
section
variable {lt : α → α → Bool}
theorem insInner_stop {a j : Nat} {d : Array α} (h : j ≤ a ∨ lt d[j]! d[j - 1]! = false) : insInner lt a j d = d := by
  cases j with
  | zero => rfl
  | succ j =>
    simp only [Nat.add_sub_cancel] at h
    unfold insInner
    rw [if_neg]
    rcases h with h | h
    · simp; omega
    · simp [h]
theorem insInner_step {a j : Nat} {d : Array α} (h1 : a < j) (h2 : lt d[j]! d[j - 1]! = true) : insInner lt a j d = insInner lt a (j - 1) (swp d j (j - 1)) := by
  cases j with
  | zero => omega
  | succ j =>
    simp only [Nat.add_sub_cancel] at h2 ⊢
    rw [insInner, if_pos (by simp [h2]; omega)]
theorem insOuter_stop {a b i : Nat} {d : Array α} (h : b ≤ i) : insOuter lt a b i d = d := by rw [insOuter, if_neg (by omega)]
theorem insOuter_step {a b i : Nat} {d : Array α} (h : i < b) : insOuter lt a b i d = insOuter lt a b (i + 1) (insInner lt a i d) := by rw [insOuter, if_pos h]
theorem sift_stop {hi first root : Nat} {d : Array α} (h : hi ≤ 2 * root + 1) : siftDown lt hi first root d = d := by rw [siftDown, dif_pos h]
/-- The greater child. -/
def kid (lt : α → α → Bool) (hi first root : Nat) (d : Array α) : Nat := if 2 * root + 1 + 1 < hi ∧ lt d[first + (2 * root + 1)]! d[first + (2 * root + 1) + 1]! = true then 2 * root + 1 + 1 else 2 * root + 1
theorem sift_none {hi first root : Nat} {d : Array α} (h : ¬ hi ≤ 2 * root + 1) (h2 : lt d[first + root]! d[first + kid lt hi first root d]! = false) : siftDown lt hi first root d = d := by
  rw [siftDown, dif_neg h]
  unfold kid at h2
  by_cases hc : 2 * root + 1 + 1 < hi ∧ lt d[first + (2 * root + 1)]! d[first + (2 * root + 1) + 1]! = true
  · rw [if_pos hc] at h2
    rw [if_pos (by simp [hc.1, hc.2]), if_pos (by simpa using h2)]
  · rw [if_neg hc] at h2
    rw [if_neg (by simpa using hc), if_pos (by simpa using h2)]
theorem sift_some {hi first root : Nat} {d : Array α} (h : ¬ hi ≤ 2 * root + 1) (h2 : lt d[first + root]! d[first + kid lt hi first root d]! = true) : siftDown lt hi first root d = siftDown lt hi first (kid lt hi first root d) (swp d (first + root) (first + kid lt hi first root d)) := by
  rw [siftDown, dif_neg h]
  unfold kid at h2 ⊢
  by_cases hc : 2 * root + 1 + 1 < hi ∧ lt d[first + (2 * root + 1)]! d[first + (2 * root + 1) + 1]! = true
  · rw [if_pos hc] at h2 ⊢
    rw [if_pos (by simp [hc.1, hc.2]), if_neg (by simpa using h2), dif_pos hc.1]
  · rw [if_neg hc] at h2 ⊢
    rw [if_neg (by simpa using hc), if_neg (by simpa using h2)]
theorem kid_lt {hi first root : Nat} {d : Array α} (h : ¬ hi ≤ 2 * root + 1) : root < kid lt hi first root d ∧ kid lt hi first root d < hi := by
  unfold kid; split <;> omega
theorem heapPop_step {first k : Nat} {d : Array α} : heapPop lt first (k + 1) d = heapPop lt first k (siftDown lt k first 0 (swp d first (first + k))) := rfl
theorem heapBuild_step {hi first k : Nat} {d : Array α} : heapBuild lt hi first (k + 1) d = heapBuild lt hi first k (siftDown lt hi first k d) := rfl
theorem scanUp_stop {p : α → Bool} {d : Array α} {j i : Nat} (h : j < i ∨ p d[i]! = false) : scanUp p d j i = i := by
  rw [scanUp, if_neg]
  rcases h with h | h
  · simp; omega
  · simp [h]
theorem scanUp_step {p : α → Bool} {d : Array α} {j i : Nat} (h1 : i ≤ j) (h2 : p d[i]! = true) : scanUp p d j i = scanUp p d j (i + 1) := by rw [scanUp, if_pos (by simp [h1, h2])]
theorem scanDown_stop {p : α → Bool} {d : Array α} {i j : Nat} (h : j < i ∨ p d[j]! = false) : scanDown p d i j = j := by
  cases j with
  | zero => rfl
  | succ j =>
    unfold scanDown
    rw [if_neg]
    rcases h with h | h
    · simp; omega
    · simp [h]
theorem scanDown_step {p : α → Bool} {d : Array α} {i j : Nat} (h0 : 0 < j) (h1 : i ≤ j) (h2 : p d[j]! = true) : scanDown p d i j = scanDown p d i (j - 1) := by
  cases j with
  | zero => omega
  | succ j => rw [scanDown, if_pos (by simp [h1, h2]), Nat.add_sub_cancel]
theorem scanUp_ge {p : α → Bool} {d : Array α} {j : Nat} : ∀ {n i : Nat}, j + 1 - i = n → i ≤ scanUp p d j i ∧ scanUp p d j i ≤ max i (j + 1)
  | 0, i, h => by rw [scanUp_stop (.inl (by omega))]; omega
  | n + 1, i, h => by
    by_cases hp : p d[i]! = true
    · rw [scanUp_step (by omega) hp]
      have := scanUp_ge (p := p) (d := d) (j := j) (n := n) (i := i + 1) (by omega)
      omega
    · rw [scanUp_stop (.inr (by simpa using hp))]; omega
theorem scanDown_le {p : α → Bool} {d : Array α} {i : Nat} : ∀ {j : Nat}, scanDown p d i j ≤ j ∧ min j (i - 1) ≤ scanDown p d i j
  | 0 => by simp [scanDown]
  | j + 1 => by
    unfold scanDown
    split
    · rename_i h
      have := scanDown_le (p := p) (d := d) (i := i) (j := j)
      simp at h
      omega
    · omega
theorem part_stop {a i j : Nat} {d : Array α} (h : scanDown (fun x => !lt x d[a]!) d (scanUp (fun x => lt x d[a]!) d j i) j < scanUp (fun x => lt x d[a]!) d j i) : partLoop lt a i j d = (scanDown (fun x => !lt x d[a]!) d (scanUp (fun x => lt x d[a]!) d j i) j, d) := by
  rw [partLoop]
  rw [if_pos h]
theorem part_step {a i j i2 j2 : Nat} {d : Array α} (h1 : scanUp (fun x => lt x d[a]!) d j i = i2) (h2 : scanDown (fun x => !lt x d[a]!) d i2 j = j2) (h : i2 ≤ j2) : partLoop lt a i j d = partLoop lt a (i2 + 1) (j2 - 1) (swp d i2 j2) := by
  have hu := scanUp_ge (p := fun x => lt x d[a]!) (d := d) (j := j) (i := i) rfl
  have hd := scanDown_le (p := fun x => !lt x d[a]!) (d := d) (i := i2) (j := j)
  rw [h1] at hu
  rw [h2] at hd
  rw [partLoop]
  rw [h1, h2, if_neg (by omega), dif_pos (by omega)]
theorem partEq_stop {a i j i2 j2 : Nat} {d : Array α} (h1 : scanUp (fun x => !lt d[a]! x) d j i = i2) (h2 : scanDown (fun x => lt d[a]! x) d i2 j = j2) (h : j2 < i2) : partEqLoop lt a i j d = (i2, d) := by
  rw [partEqLoop]
  rw [h1, h2, if_pos h]
theorem partEq_step {a i j i2 j2 : Nat} {d : Array α} (h1 : scanUp (fun x => !lt d[a]! x) d j i = i2) (h2 : scanDown (fun x => lt d[a]! x) d i2 j = j2) (h : i2 ≤ j2) : partEqLoop lt a i j d = partEqLoop lt a (i2 + 1) (j2 - 1) (swp d i2 j2) := by
  have hu := scanUp_ge (p := fun x => !lt d[a]! x) (d := d) (j := j) (i := i) rfl
  have hd := scanDown_le (p := fun x => lt d[a]! x) (d := d) (i := i2) (j := j)
  rw [h1] at hu
  rw [h2] at hd
  rw [partEqLoop]
  rw [h1, h2, if_neg (by omega), dif_pos (by omega)]
theorem scanSorted_stop {d : Array α} {b i : Nat} (h : b ≤ i ∨ lt d[i]! d[i - 1]! = true) : scanSorted lt d b i = i := by
  rw [scanSorted, if_neg]
  rcases h with h | h
  · simp; omega
  · simp [h]
theorem scanSorted_step {d : Array α} {b i : Nat} (h1 : i < b) (h2 : lt d[i]! d[i - 1]! = false) : scanSorted lt d b i = scanSorted lt d b (i + 1) := by rw [scanSorted, if_pos (by simp [h1, h2])]
theorem partial_res {d : Array α} {a b : Nat} (h : b - a < 50) : partialInsertionSort lt d a b = (d, decide (scanSorted lt d b (a + 1) = b)) := by
  unfold partialInsertionSort partialIns
  dsimp only
  by_cases hc : scanSorted lt d b (a + 1) = b
  · rw [if_pos hc]; simp [hc]
  · rw [if_neg hc, if_pos h]; simp [hc]
theorem rev_stop {i j : Nat} {d : Array α} (h : j ≤ i) : reverseLoop i j d = d := by rw [reverseLoop, if_neg (by omega)]
theorem rev_step {i j : Nat} {d : Array α} (h : i < j) : reverseLoop i j d = reverseLoop (i + 1) (j - 1) (swp d i j) := by rw [reverseLoop, if_pos h]
theorem part_res1 {d : Array α} {a b pivot i j : Nat} (h1 : scanUp (fun x => lt x (swp d a pivot)[a]!) (swp d a pivot) (b - 1) (a + 1) = i) (h2 : scanDown (fun x => !lt x (swp d a pivot)[a]!) (swp d a pivot) i (b - 1) = j) (h : j < i) : Go.Sort.partition lt d a b pivot = (j, true, swp (swp d a pivot) j a) := by
  unfold Go.Sort.partition
  dsimp only
  rw [h1, h2, if_pos h]
theorem part_res2 {d d2 : Array α} {a b pivot i j j2 : Nat} (h1 : scanUp (fun x => lt x (swp d a pivot)[a]!) (swp d a pivot) (b - 1) (a + 1) = i) (h2 : scanDown (fun x => !lt x (swp d a pivot)[a]!) (swp d a pivot) i (b - 1) = j) (h : i ≤ j) (h3 : partLoop lt a (i + 1) (j - 1) (swp (swp d a pivot) i j) = (j2, d2)) : Go.Sort.partition lt d a b pivot = (j2, false, swp d2 j2 a) := by
  unfold Go.Sort.partition
  dsimp only
  rw [h1, h2, if_neg (by omega), h3]
theorem part_stop2 {a i j i2 j2 : Nat} {d : Array α} (h1 : scanUp (fun x => lt x d[a]!) d j i = i2) (h2 : scanDown (fun x => !lt x d[a]!) d i2 j = j2) (h : j2 < i2) : partLoop lt a i j d = (j2, d) := by
  rw [part_stop (by rw [h1, h2]; exact h), h1, h2]
theorem notT {b : Bool} (h : b = false) : (!b) = true := by subst h; rfl
theorem notF {b : Bool} (h : b = true) : (!b) = false := by subst h; rfl
theorem quo_half {a b : Nat} (h : a ≤ b) : ((b : Int) - a - 1).tdiv 2 = (((b - a - 1) / 2 + 1 : Nat) : Int) - 1 := by
  rcases Nat.lt_or_eq_of_le h with h | rfl
  · rw [Int.tdiv_eq_ediv_of_nonneg (by omega)]; omega
  · rw [show ((a : Int) - a - 1) = -1 by omega, Nat.sub_self]; decide
theorem quo_nat {x : Int} {n k : Nat} (h : x = n) : x.tdiv (k : Int) = ((n / k : Nat) : Int) := by subst h; rfl
end
/-! the recursion -/
section
variable {lt : α → α → Bool}
def hintI : Hint → Int
  | .unknown => 0
  | .increasing => 1
  | .decreasing => 2
theorem hintI_2 {h : Hint} : hintI h = 2 ↔ h = .decreasing := by cases h <;> simp [hintI]
theorem hintI_1 {h : Hint} : hintI h = 1 ↔ h = .increasing := by cases h <;> simp [hintI]
theorem order2_bd {d : Array α} {a b s N : Nat} (ha : a < N) (hb : b < N) : (order2 lt d a b s).1 < N ∧ (order2 lt d a b s).2.1 < N ∧ (order2 lt d a b s).2.2 ≤ s + 1 := by
  unfold order2; split <;> simp <;> omega
def hintN (s : Nat) : Hint := if s = 0 then .increasing else if s = 12 then .decreasing else .unknown
theorem choose_8 {d : Array α} {a b : Nat} (h8 : 8 ≤ b - a) (h50 : b - a < 50) : choosePivot lt d a b = ((median lt d (a + (b - a) / 4 * 1) (a + (b - a) / 4 * 2) (a + (b - a) / 4 * 3) 0).1, hintN (median lt d (a + (b - a) / 4 * 1) (a + (b - a) / 4 * 2) (a + (b - a) / 4 * 3) 0).2) := by
  unfold choosePivot
  dsimp only
  rw [if_pos h8, if_neg (by omega)]
  rfl
def pq1 (wb : Bool) (d : Array α) (a b : Nat) : Array α := if !wb then breakPatterns d a b else d
def pl1 (wb : Bool) (limit : Nat) : Nat := if !wb then limit - 1 else limit
def pq2 (lt : α → α → Bool) (d1 : Array α) (a b : Nat) : Array α := if (choosePivot lt d1 a b).2 = .decreasing then reverseRange d1 a b else d1
def pv2 (lt : α → α → Bool) (d1 : Array α) (a b : Nat) : Nat := if (choosePivot lt d1 a b).2 = .decreasing then (b - 1) - ((choosePivot lt d1 a b).1 - a) else (choosePivot lt d1 a b).1
def ph2 (lt : α → α → Bool) (d1 : Array α) (a b : Nat) : Hint := if (choosePivot lt d1 a b).2 = .decreasing then .increasing else (choosePivot lt d1 a b).2
theorem pdq_ins {d : Array α} {a b limit : Nat} {wb wp : Bool} (h : b - a ≤ 12) : pdq lt d a b limit wb wp = insertionSort lt d a b := by rw [pdq, if_pos h]
theorem pdq_heap {d : Array α} {a b limit : Nat} {wb wp : Bool} (h : ¬ b - a ≤ 12) (h0 : limit = 0) : pdq lt d a b limit wb wp = heapSort lt d a b := by rw [pdq, if_neg h, if_pos h0]
section
variable {d : Array α} {a b limit : Nat} {wb wp : Bool} (h : ¬ b - a ≤ 12) (h0 : ¬ limit = 0) (h50 : b - a < 50)
include h h0 h50
theorem pdq_pi (hw : wb = true) (hp : wp = true) (hh : ph2 lt (pq1 wb d a b) a b = .increasing) (hq : (partialInsertionSort lt (pq2 lt (pq1 wb d a b) a b) a b).2 = true) : pdq lt d a b limit wb wp = pq2 lt (pq1 wb d a b) a b := by
  rw [pdq, if_neg h, if_neg h0]
  dsimp only
  have key : (if (wb && wp && decide (ph2 lt (pq1 wb d a b) a b = Hint.increasing)) = true then partialInsertionSort lt (pq2 lt (pq1 wb d a b) a b) a b else (pq2 lt (pq1 wb d a b) a b, false)) = (pq2 lt (pq1 wb d a b) a b, true) := by
    rw [if_pos (by simp only [Bool.and_eq_true, decide_eq_true_eq]; exact ⟨⟨hw, hp⟩, hh⟩)]
    rw [partial_res h50] at hq ⊢
    rw [show decide (scanSorted lt (pq2 lt (pq1 wb d a b) a b) b (a + 1) = b) = true from hq]
  unfold ph2 pq2 pq1 at key
  unfold pq2 pq1
  rw [key, if_pos rfl]
theorem pdq_eq {pi : Bool} {mid : Nat} {d4 : Array α} (hno : ¬ (wb = true ∧ wp = true ∧ ph2 lt (pq1 wb d a b) a b = .increasing ∧ (partialInsertionSort lt (pq2 lt (pq1 wb d a b) a b) a b).2 = true)) (ha : 0 < a)
    (hl : lt (pq2 lt (pq1 wb d a b) a b)[a - 1]! (pq2 lt (pq1 wb d a b) a b)[pv2 lt (pq1 wb d a b) a b]! = false) (he : partitionEqual lt (pq2 lt (pq1 wb d a b) a b) a b (pv2 lt (pq1 wb d a b) a b) = (mid, d4)) (m1 : a < mid) (m2 : mid ≤ b) :
    pdq lt d a b limit wb wp = pdq lt d4 mid b (pl1 wb limit) wb wp := by
  rw [pdq, if_neg h, if_neg h0]
  dsimp only
  have hr := fun x : Array α => partial_res (lt := lt) (d := x) h50
  have key : (if (wb && wp && decide (ph2 lt (pq1 wb d a b) a b = Hint.increasing)) = true then partialInsertionSort lt (pq2 lt (pq1 wb d a b) a b) a b else (pq2 lt (pq1 wb d a b) a b, false)) = (pq2 lt (pq1 wb d a b) a b, false) := by
    split
    · rename_i hc
      simp only [Bool.and_eq_true, decide_eq_true_eq] at hc
      have hf : (partialInsertionSort lt (pq2 lt (pq1 wb d a b) a b) a b).2 = false := by
        cases hq : (partialInsertionSort lt (pq2 lt (pq1 wb d a b) a b) a b).2 with
        | false => rfl
        | true => exact absurd ⟨hc.1.1, hc.1.2, hc.2, hq⟩ hno
      rw [hr] at hf ⊢
      rw [show decide (scanSorted lt (pq2 lt (pq1 wb d a b) a b) b (a + 1) = b) = false from hf]
    · rfl
  unfold ph2 pq2 pq1 at key
  unfold pv2 pq2 pq1 at he
  unfold pv2 pq2 pq1 at hl
  rw [key, if_neg (by simp), if_pos (by simp only [Bool.and_eq_true, decide_eq_true_eq]; exact ⟨ha, by rw [hl]; rfl⟩)]
  dsimp only
  rw [he]
  dsimp only
  rw [dif_pos ⟨m1, m2⟩]
  rfl
theorem pdq_part {mid : Nat} {ap : Bool} {d4 : Array α} (hno : ¬ (wb = true ∧ wp = true ∧ ph2 lt (pq1 wb d a b) a b = .increasing ∧ (partialInsertionSort lt (pq2 lt (pq1 wb d a b) a b) a b).2 = true))
    (hl : ¬ (0 < a ∧ lt (pq2 lt (pq1 wb d a b) a b)[a - 1]! (pq2 lt (pq1 wb d a b) a b)[pv2 lt (pq1 wb d a b) a b]! = false)) (he : Go.Sort.partition lt (pq2 lt (pq1 wb d a b) a b) a b (pv2 lt (pq1 wb d a b) a b) = (mid, ap, d4)) (m1 : a ≤ mid) (m2 : mid < b) :
    pdq lt d a b limit wb wp = if mid - a < b - mid then pdq lt (pdq lt d4 a mid (pl1 wb limit) true true) (mid + 1) b (pl1 wb limit) (decide (mid - a ≥ (b - a) / 8)) ap else pdq lt (pdq lt d4 (mid + 1) b (pl1 wb limit) true true) a mid (pl1 wb limit) (decide (b - mid ≥ (b - a) / 8)) ap := by
  rw [pdq, if_neg h, if_neg h0]
  dsimp only
  have hr := fun x : Array α => partial_res (lt := lt) (d := x) h50
  have key : (if (wb && wp && decide (ph2 lt (pq1 wb d a b) a b = Hint.increasing)) = true then partialInsertionSort lt (pq2 lt (pq1 wb d a b) a b) a b else (pq2 lt (pq1 wb d a b) a b, false)) = (pq2 lt (pq1 wb d a b) a b, false) := by
    split
    · rename_i hc
      simp only [Bool.and_eq_true, decide_eq_true_eq] at hc
      have hf : (partialInsertionSort lt (pq2 lt (pq1 wb d a b) a b) a b).2 = false := by
        cases hq : (partialInsertionSort lt (pq2 lt (pq1 wb d a b) a b) a b).2 with
        | false => rfl
        | true => exact absurd ⟨hc.1.1, hc.1.2, hc.2, hq⟩ hno
      rw [hr] at hf ⊢
      rw [show decide (scanSorted lt (pq2 lt (pq1 wb d a b) a b) b (a + 1) = b) = false from hf]
    · rfl
  unfold ph2 pq2 pq1 at key
  unfold pv2 pq2 pq1 at he
  unfold pv2 pq2 pq1 at hl
  rw [key, if_neg (by simp), if_neg (by simp only [Bool.and_eq_true, decide_eq_true_eq]; exact fun hc => hl ⟨hc.1, by simpa using hc.2⟩)]
  dsimp only
  rw [he]
  dsimp only
  rw [dif_pos ⟨m1, m2⟩]
  rfl
end
structure PdqS (α : Type) where
  a : Nat
  b : Nat
  lim : Nat
  wb : Bool
  wp : Bool
  d : Array α
def brkN (a len md : Nat) (st : UInt64 × Array α) (idx : Nat) : Nat → UInt64 × Array α
  | 0 => st
  | k + 1 => breakStep a len md (brkN a len md st idx k) (idx + k)
theorem brk_res {d : Array α} {a b : Nat} (h : 8 ≤ b - a) : breakPatterns d a b = (brkN a (b - a) (1 <<< bitsLen (b - a)) (UInt64.ofNat (b - a), d) (a + (b - a) / 4 * 2 - 1) 3).2 := by
  unfold breakPatterns
  dsimp only
  rw [if_pos h]
  rfl
end
end Go.H
