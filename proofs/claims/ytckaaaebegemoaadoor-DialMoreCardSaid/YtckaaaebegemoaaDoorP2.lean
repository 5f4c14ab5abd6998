/-
  The gas of some hours; suspects; when a meter is due: plain functions and their bounds.
-/
import Derived.Test.YtckaaaebegemoaaDoorP1
set_option linter.all false
namespace Go.Proofs.YtckaaaebegemoaaDoor
open Go Go.H
/-- A reading that can be of a dial. -/
def ReadOk (d : Dial) (c : Card) : Prop := hourOk c.hour ∧ 0 ≤ c.shows ∧ c.shows ≤ turnI d.digits - 1
theorem least_bd {d : Dial} {a b : Card} (hd : dialOk d) : 0 ≤ leastF d a b ∧ leastF d a b < turnI d.digits := by
  have := turn_bd hd.1 hd.2.1
  exact ⟨Int.emod_nonneg _ (by omega), Int.emod_lt_of_pos _ (by omega)⟩
/-- The number of turns at least. -/
def kX (least turn low : Int) : Int := (low - least + turn - 1) / turn
theorem kX_bd {least turn low : Int} (h0 : 0 ≤ least) (h1 : least < turn) (hl : 0 ≤ low) : 0 ≤ kX least turn low ∧ kX least turn low * turn ≤ low - least + turn - 1 ∧ low - least + turn - 1 < kX least turn low * turn + turn ∧ max 0 (kX least turn low) = kX least turn low := by
  have h2 : 0 ≤ kX least turn low := Int.ediv_nonneg (by omega) (by omega)
  have h3 := Int.mul_ediv_add_emod (low - least + turn - 1) turn
  have h4 := Int.emod_nonneg (low - least + turn - 1) (show turn ≠ 0 by omega)
  have h5 := Int.emod_lt_of_pos (low - least + turn - 1) (show 0 < turn by omega)
  rw [Int.mul_comm] at h3
  unfold kX at *
  refine ⟨h2, by omega, by omega, by omega⟩
theorem div_bd {x t : Int} (h0 : 0 ≤ x) (ht : 0 < t) : 0 ≤ x / t ∧ x / t * t ≤ x ∧ x < x / t * t + t := by
  have h2 : 0 ≤ x / t := Int.ediv_nonneg h0 (by omega)
  have h3 := Int.mul_ediv_add_emod x t
  have h4 := Int.emod_nonneg x (show t ≠ 0 by omega)
  have h5 := Int.emod_lt_of_pos x ht
  rw [Int.mul_comm] at h3
  exact ⟨h2, by omega, by omega⟩
theorem le_mulR {x t : Int} (h0 : 0 ≤ x) (ht : 1 ≤ t) : x ≤ x * t := by
  have := Int.mul_le_mul_of_nonneg_left ht h0
  rwa [Int.mul_one] at this
theorem mul_bdI {a A x B : Int} (h0 : 0 ≤ a) (h1 : a ≤ A) (h2 : -B ≤ x) (h3 : x ≤ B) (hB : 0 ≤ B) : -(A * B) ≤ a * x ∧ a * x ≤ A * B := by
  have e1 : a * x ≤ a * B := Int.mul_le_mul_of_nonneg_left h3 h0
  have e2 : a * B ≤ A * B := Int.mul_le_mul_of_nonneg_right h1 hB
  have e3 : a * -B ≤ a * x := Int.mul_le_mul_of_nonneg_left h2 h0
  rw [Int.mul_neg] at e3
  omega
theorem wiX_some {least turn low high : Int} {s : Span} (h0 : 0 ≤ least) (h1 : least < turn) (hl : 0 ≤ low) (h : wiX least turn low high = some s) : max least low ≤ s.lo ∧ s.lo ≤ s.hi ∧ s.hi ≤ high := by
  obtain ⟨k0, k1, k2, k3⟩ := kX_bd h0 h1 hl
  unfold wiX at h
  rw [show (low - least + turn - 1) / turn = kX least turn low from rfl, k3] at h
  split at h
  · cases h
  · rename_i hle
    cases h
    dsimp only
    have hkn : 0 ≤ kX least turn low * turn := Int.mul_nonneg k0 (by omega)
    obtain ⟨q0, q1, q2⟩ := div_bd (x := high - (least + kX least turn low * turn)) (t := turn) (by omega) (by omega)
    have : 0 ≤ (high - (least + kX least turn low * turn)) / turn * turn := Int.mul_nonneg q0 (by omega)
    refine ⟨by omega, by omega, by omega⟩
theorem wiL_some {least low high : Int} {s : Span} (h : wiL least low high = some s) : max least low = s.lo ∧ s.lo ≤ s.hi ∧ s.hi = high := by
  unfold wiL at h
  split at h
  · cases h; exact ⟨rfl, by assumption, rfl⟩
  · cases h
theorem btw_some {d : Dial} {a b : Card} {s : Span} (hd : dialOk d) (hh : a.hour ≤ b.hour) (h : btw d a b = some s) : leastF d a b ≤ s.lo ∧ d.rate.lo * (b.hour - a.hour) ≤ s.lo ∧ s.lo ≤ s.hi ∧ s.hi ≤ d.rate.hi * (b.hour - a.hour) := by
  obtain ⟨l0, l1⟩ := least_bd (a := a) (b := b) hd
  have hlo : 0 ≤ d.rate.lo * (b.hour - a.hour) := Int.mul_nonneg hd.2.2.1 (by omega)
  unfold btw at h
  split at h
  · have := wiL_some h; omega
  · have := wiX_some l0 l1 hlo h; omega
theorem pairs_drop {d : Dial} {l : List Card} {i : Nat} {a b : Card} (hi : 0 < i) (ha : l[i - 1]? = some a) (hb : l[i]? = some b) : pairsL d (l.drop (i - 1)) = (btw d a b).bind fun s => (pairsL d (l.drop i)).map (s :: ·) := by
  obtain ⟨h1, e1⟩ := List.getElem?_eq_some_iff.1 ha
  obtain ⟨h2, e2⟩ := List.getElem?_eq_some_iff.1 hb
  have e3 : l.drop (i - 1) = a :: l.drop i := by
    rw [List.drop_eq_getElem_cons h1, e1, show i - 1 + 1 = i by omega]
  have e4 : l.drop i = b :: l.drop (i + 1) := by rw [List.drop_eq_getElem_cons h2, e2]
  rw [e3, e4]
  simp only [pairsL]
  cases btw d a b <;> rfl
theorem pairs_end {d : Dial} {l : List Card} {i : Nat} (hi : l.length ≤ i) : pairsL d (l.drop (i - 1)) = some [] := by
  have : (l.drop (i - 1)).length ≤ 1 := by rw [List.length_drop]; omega
  match hl : l.drop (i - 1) with
  | [] => rfl
  | [a] => rfl
  | a :: b :: t => rw [hl] at this; simp at this
theorem pairs_len {d : Dial} : ∀ {l : List Card} {out : List Span}, pairsL d l = some out → out.length = l.length - 1
  | [], out, h => by simp [pairsL] at h; subst h; rfl
  | [a], out, h => by simp [pairsL] at h; subst h; rfl
  | a :: b :: l, out, h => by
    simp only [pairsL] at h
    cases hq : btw d a b with
    | none => rw [hq] at h; cases h
    | some s =>
      rw [hq] at h
      obtain ⟨m, hm, rfl⟩ := Option.map_eq_some_iff.1 h
      have := pairs_len hm
      simp only [List.length_cons] at this ⊢
      omega
theorem pairs_get {d : Dial} : ∀ {l : List Card} {out : List Span} {i : Nat} {a b : Card} {s : Span}, pairsL d l = some out → l[i]? = some a → l[i + 1]? = some b → out[i]? = some s → btw d a b = some s
  | [], _, _, _, _, _, _, ha, _, _ => by simp at ha
  | [x], _, _, _, _, _, _, _, hb, _ => by simp at hb
  | x :: y :: l, out, i, a, b, s, h, ha, hb, hs => by
    simp only [pairsL] at h
    cases hq : btw d x y with
    | none => rw [hq] at h; cases h
    | some s0 =>
      rw [hq] at h
      obtain ⟨m, hm, rfl⟩ := Option.map_eq_some_iff.1 h
      cases i with
      | zero =>
        simp at ha hb hs
        subst ha hb hs; exact hq
      | succ i =>
        simp only [List.getElem?_cons_succ] at ha hb hs
        exact pairs_get hm ha hb hs
theorem Rise.get {l : List Card} (H : Rise l) {i j : Nat} {a b : Card} (hij : i < j) (ha : l[i]? = some a) (hb : l[j]? = some b) : a.hour < b.hour := by
  obtain ⟨h1, e1⟩ := List.getElem?_eq_some_iff.1 ha
  obtain ⟨h2, e2⟩ := List.getElem?_eq_some_iff.1 hb
  have := List.pairwise_iff_getElem.1 H i j h1 h2 hij
  rwa [e1, e2] at this
/-! ### The gas of some hours -/
def sumS (l : List Span) : Span := l.foldl (fun s x => ⟨s.lo + x.lo, s.hi + x.hi⟩) ⟨0, 0⟩
theorem sumS_snoc (l : List Span) (x : Span) : sumS (l ++ [x]) = ⟨(sumS l).lo + x.lo, (sumS l).hi + x.hi⟩ := by
  unfold sumS; rw [List.foldl_append]; rfl
theorem sumS_bd {B : Int} (hB : 0 ≤ B) (l : List Span) (h : ∀ x ∈ l, -B ≤ x.lo ∧ x.lo ≤ B ∧ -B ≤ x.hi ∧ x.hi ≤ B) : -(l.length * B) ≤ (sumS l).lo ∧ (sumS l).lo ≤ l.length * B ∧ -(l.length * B) ≤ (sumS l).hi ∧ (sumS l).hi ≤ l.length * B := by
  induction l using snoc_ind with
  | h0 => simp [sumS]
  | h1 l x ih =>
    have h1 := ih fun y hy => h y (List.mem_append_left _ hy)
    have h2 := h x (by simp)
    rw [sumS_snoc, List.length_append, List.length_singleton, Int.natCast_add, Int.add_mul]
    simp only [Int.natCast_one, Int.one_mul]
    omega
/-- The hours of two readings that are between two hours. -/
def lapH (f t a b : Int) : Int := min t b - max f a
def partF (d : Dial) (some_ rest : Int) (s : Span) : Span := ⟨max (d.rate.lo * some_) (s.lo - d.rate.hi * rest), min (d.rate.hi * some_) (s.hi - d.rate.lo * rest)⟩
/-- What goes in the hours between the first k pairs of readings, and how many hours these are. -/
def gasK (d : Dial) (f t : Int) (l : List Card) (out : List Span) : Nat → List Span × Int
  | 0 => ([], 0)
  | k + 1 => match l[k]?, l[k + 1]?, out[k]? with
    | some a, some b, some s => if lapH f t a.hour b.hour ≤ 0 then gasK d f t l out k else
      ((gasK d f t l out k).1 ++ [partF d (lapH f t a.hour b.hour) (b.hour - a.hour - lapH f t a.hour b.hour) s], (gasK d f t l out k).2 + lapH f t a.hour b.hour)
    | _, _, _ => gasK d f t l out k
theorem gasK_succ {d : Dial} {f t : Int} {l : List Card} {out : List Span} {k : Nat} {a b : Card} {s : Span} (ha : l[k]? = some a) (hb : l[k + 1]? = some b) (hs : out[k]? = some s) :
    gasK d f t l out (k + 1) = if lapH f t a.hour b.hour ≤ 0 then gasK d f t l out k else
      ((gasK d f t l out k).1 ++ [partF d (lapH f t a.hour b.hour) (b.hour - a.hour - lapH f t a.hour b.hour) s], (gasK d f t l out k).2 + lapH f t a.hour b.hour) := by
  simp only [gasK, ha, hb, hs]
def gasR (d : Dial) (f t : Int) (l : List Card) (out : List Span) : Span :=
  ⟨(sumS (gasK d f t l out out.length).1).lo + d.rate.lo * (t - f - (gasK d f t l out out.length).2), (sumS (gasK d f t l out out.length).1).hi + d.rate.hi * (t - f - (gasK d f t l out out.length).2)⟩
/-! ### Suspects -/
def susK (d : Dial) (l : List Card) : Nat → List Int
  | 0 => []
  | k + 1 => match l[k]? with
    | none => susK d l k
    | some c => if (pairsL d (l.take k ++ l.drop (k + 1))).isSome then susK d l k ++ [c.hour] else susK d l k
theorem susK_succ {d : Dial} {l : List Card} {k : Nat} {c : Card} (hc : l[k]? = some c) : susK d l (k + 1) = if (pairsL d (l.take k ++ l.drop (k + 1))).isSome then susK d l k ++ [c.hour] else susK d l k := by
  simp only [susK, hc]
theorem susK_len (d : Dial) (l : List Card) (k : Nat) : (susK d l k).length ≤ k := by
  induction k with
  | zero => exact Nat.le_refl _
  | succ k ih =>
    simp only [susK]
    split
    · omega
    · split
      · rw [List.length_append]; simp; omega
      · omega
/-! ### When a meter is due -/
def dueN (d : Dial) : Int := if d.rate.lo = d.rate.hi then 1048576 else (turnI d.digits - 1) / (d.rate.hi - d.rate.lo)
/-! ### What is answered -/
def HoursOk (hs : List Int) : Prop := ∀ x ∈ hs, hourOk x
def houseOk (r : Rnd) (house : Int) : Prop := 0 ≤ house ∧ house ≤ r.dials.length - 1
open Classical in
noncomputable def startF (r : Rnd) (house : Int) (hs : List Int) : Except Int (List Card) :=
  if ¬ GoodRnd r then .error 1 else if ¬ (houseOk r house ∧ HoursOk hs) then .error 2 else match readL r.cards house with
    | none => .error 5
    | some l => .ok l
theorem start_1 {r : Rnd} {house : Int} {hs : List Int} (h : ¬ GoodRnd r) : startF r house hs = .error 1 := by unfold startF; rw [if_pos h]
theorem start_2 {r : Rnd} {house : Int} {hs : List Int} (h : GoodRnd r) (h2 : ¬ (houseOk r house ∧ HoursOk hs)) : startF r house hs = .error 2 := by unfold startF; rw [if_neg (fun q => q h), if_pos h2]
theorem start_5 {r : Rnd} {house : Int} {hs : List Int} (h : GoodRnd r) (h2 : houseOk r house) (h3 : HoursOk hs) (h4 : readL r.cards house = none) : startF r house hs = .error 5 := by unfold startF; rw [if_neg (fun q => q h), if_neg (fun q => q ⟨h2, h3⟩), h4]
theorem start_0 {r : Rnd} {house : Int} {hs : List Int} {l : List Card} (h : GoodRnd r) (h2 : houseOk r house) (h3 : HoursOk hs) (h4 : readL r.cards house = some l) : startF r house hs = .ok l := by unfold startF; rw [if_neg (fun q => q h), if_neg (fun q => q ⟨h2, h3⟩), h4]
noncomputable def pairsAns (r : Rnd) (house : Int) : List Span × Int := match startF r house [] with
  | .error e => ([], e)
  | .ok l => match pairsL (dialAt r.dials house) l with
    | none => ([], 6)
    | some out => (out, 0)
noncomputable def gasAns (r : Rnd) (house f t : Int) : Span × Int := match startF r house [f, t] with
  | .error e => (⟨0, 0⟩, e)
  | .ok l => if f > t then (⟨0, 0⟩, 2) else match pairsL (dialAt r.dials house) l with
    | none => (⟨0, 0⟩, 6)
    | some out => (gasR (dialAt r.dials house) f t l out, 0)
noncomputable def susAns (r : Rnd) (house : Int) : List Int × Int := match startF r house [] with
  | .error e => ([], e)
  | .ok l => match pairsL (dialAt r.dials house) l with
    | some _ => ([], 4)
    | none => (susK (dialAt r.dials house) l l.length, 0)
noncomputable def dueAns (r : Rnd) (house : Int) : Int × Int := match startF r house [] with
  | .error e => (0, e)
  | .ok l => match l[l.length - 1]? with
    | none => (0, 4)
    | some c => if (dialAt r.dials house).sticks then (0, 6) else (min 1048576 (c.hour + dueN (dialAt r.dials house)), 0)
/-- What is known of the readings of a valid round. -/
theorem reads_ok {r : Rnd} {house : Int} {l : List Card} (hg : GoodRnd r) (hh : houseOk r house) (h : readL r.cards house = some l) : dialOk (dialAt r.dials house) ∧ Rise l ∧ l.length ≤ 48 ∧ ∀ c ∈ l, ReadOk (dialAt r.dials house) c := by
  obtain ⟨h1, h2⟩ := read_some h
  refine ⟨hg.dials _ (dialAt_mem hh.1 hh.2).1, h1, Nat.le_trans (read_len h) hg.c48, fun c hc => ?_⟩
  obtain ⟨m1, m2⟩ := (h2 c).1 hc
  have := hg.cards c m1
  unfold cardOk at this
  rw [m2] at this
  exact ⟨this.2.1, this.2.2.1, this.2.2.2⟩
section
variable {r : Rnd} {house f t e : Int} {l : List Card} {out : List Span} {c : Card}
theorem pairsAns_e (h : startF r house [] = .error e) : pairsAns r house = ([], e) := by unfold pairsAns; rw [h]
theorem pairsAns_n (h : startF r house [] = .ok l) (hp : pairsL (dialAt r.dials house) l = none) : pairsAns r house = ([], 6) := by unfold pairsAns; rw [h]; dsimp only; rw [hp]
theorem pairsAns_s (h : startF r house [] = .ok l) (hp : pairsL (dialAt r.dials house) l = some out) : pairsAns r house = (out, 0) := by unfold pairsAns; rw [h]; dsimp only; rw [hp]
theorem gasAns_e (h : startF r house [f, t] = .error e) : gasAns r house f t = (⟨0, 0⟩, e) := by unfold gasAns; rw [h]
theorem gasAns_o (h : startF r house [f, t] = .ok l) (hft : f > t) : gasAns r house f t = (⟨0, 0⟩, 2) := by unfold gasAns; rw [h]; dsimp only; rw [if_pos hft]
theorem gasAns_n (h : startF r house [f, t] = .ok l) (hft : ¬ f > t) (hp : pairsL (dialAt r.dials house) l = none) : gasAns r house f t = (⟨0, 0⟩, 6) := by unfold gasAns; rw [h]; dsimp only; rw [if_neg hft, hp]
theorem gasAns_s (h : startF r house [f, t] = .ok l) (hft : ¬ f > t) (hp : pairsL (dialAt r.dials house) l = some out) : gasAns r house f t = (gasR (dialAt r.dials house) f t l out, 0) := by unfold gasAns; rw [h]; dsimp only; rw [if_neg hft, hp]
theorem susAns_e (h : startF r house [] = .error e) : susAns r house = ([], e) := by unfold susAns; rw [h]
theorem susAns_s (h : startF r house [] = .ok l) (hp : pairsL (dialAt r.dials house) l = some out) : susAns r house = ([], 4) := by unfold susAns; rw [h]; dsimp only; rw [hp]
theorem susAns_n (h : startF r house [] = .ok l) (hp : pairsL (dialAt r.dials house) l = none) : susAns r house = (susK (dialAt r.dials house) l l.length, 0) := by unfold susAns; rw [h]; dsimp only; rw [hp]
theorem dueAns_e (h : startF r house [] = .error e) : dueAns r house = (0, e) := by unfold dueAns; rw [h]
theorem dueAns_0 (h : startF r house [] = .ok l) (hl : l.length = 0) : dueAns r house = (0, 4) := by
  unfold dueAns; rw [h]; dsimp only
  rw [List.length_eq_zero_iff.1 hl]; rfl
theorem dueAns_t (h : startF r house [] = .ok l) (hc : l[l.length - 1]? = some c) (hs : (dialAt r.dials house).sticks = true) : dueAns r house = (0, 6) := by unfold dueAns; rw [h]; dsimp only; rw [hc]; dsimp only; rw [if_pos hs]
theorem dueAns_s (h : startF r house [] = .ok l) (hc : l[l.length - 1]? = some c) (hs : ¬ (dialAt r.dials house).sticks = true) : dueAns r house = (min 1048576 (c.hour + dueN (dialAt r.dials house)), 0) := by unfold dueAns; rw [h]; dsimp only; rw [hc]; dsimp only; rw [if_neg hs]
end
/-! ### Bounds on the way -/
theorem lap_bd {f t a b : Int} (hf : hourOk f) (ht : hourOk t) (hp : 0 < lapH f t a b) : lapH f t a b ≤ 1048576 ∧ lapH f t a b ≤ b - a := by
  unfold lapH hourOk at *; omega
structure PartBd (d : Dial) (so re : Int) (s : Span) : Prop where
  r0 : 0 ≤ re
  r1 : re ≤ 1048576
  a0 : 0 ≤ d.rate.lo * so
  a1 : d.rate.lo * so ≤ 10485760000
  b0 : 0 ≤ d.rate.hi * so
  b1 : d.rate.hi * so ≤ 10485760000
  c0 : 0 ≤ d.rate.lo * re
  c1 : d.rate.lo * re ≤ 10485760000
  e0 : 0 ≤ d.rate.hi * re
  e1 : d.rate.hi * re ≤ 10485760000
  s0 : 0 ≤ s.lo
  s1 : s.lo ≤ s.hi
  s2 : s.hi ≤ 10485760000
theorem part_bd {d : Dial} {f t : Int} {a b : Card} {s : Span} (hd : dialOk d) (hf : hourOk f) (ht : hourOk t) (ha : hourOk a.hour) (hb : hourOk b.hour) (hab : a.hour < b.hour) (hs : btw d a b = some s) (hp : 0 < lapH f t a.hour b.hour) : PartBd d (lapH f t a.hour b.hour) (b.hour - a.hour - lapH f t a.hour b.hour) s := by
  obtain ⟨h1, h2⟩ := lap_bd hf ht hp
  obtain ⟨b1, b2, b3, b4⟩ := btw_some hd (Int.le_of_lt hab) hs
  obtain ⟨g1, g2, g3, g4, g5⟩ := hd
  unfold hourOk at *
  have hhi : 0 ≤ d.rate.hi := by omega
  have hlo : d.rate.lo ≤ 10000 := by omega
  have key : ∀ x y : Int, 0 ≤ x → x ≤ 10000 → 0 ≤ y → y ≤ 1048576 → 0 ≤ x * y ∧ x * y ≤ 10485760000 := by
    intro x y q0 q1 q2 q3
    have : x * y ≤ 10000 * 1048576 := Int.mul_le_mul q1 q3 q2 (by omega)
    exact ⟨Int.mul_nonneg q0 q2, by omega⟩
  have k1 := key _ (lapH f t a.hour b.hour) g3 hlo (by omega) h1
  have k2 := key _ (lapH f t a.hour b.hour) hhi g5 (by omega) h1
  have k3 := key _ (b.hour - a.hour - lapH f t a.hour b.hour) g3 hlo (by omega) (by omega)
  have k4 := key _ (b.hour - a.hour - lapH f t a.hour b.hour) hhi g5 (by omega) (by omega)
  have k5 := key _ (b.hour - a.hour) g3 hlo (by omega) (by omega)
  have k6 := key _ (b.hour - a.hour) hhi g5 (by omega) (by omega)
  exact ⟨by omega, by omega, k1.1, k1.2, k2.1, k2.2, k3.1, k3.2, k4.1, k4.2, by omega, by omega, by omega⟩
def InB (x : Span) : Prop := -1000000000000 ≤ x.lo ∧ x.lo ≤ 1000000000000 ∧ -1000000000000 ≤ x.hi ∧ x.hi ≤ 1000000000000
theorem PartBd.inb {d : Dial} {so re : Int} {s : Span} (H : PartBd d so re s) : InB (partF d so re s) := by
  obtain ⟨h1, h2, h3, h4, h5, h6, h7, h8, h9, h10, h11, h12, h13⟩ := H
  unfold InB partF
  dsimp only
  omega
theorem gasK_len (d : Dial) (f t : Int) (l : List Card) (out : List Span) (k : Nat) : (gasK d f t l out k).1.length ≤ k := by
  induction k with
  | zero => exact Nat.le_refl _
  | succ k ih =>
    simp only [gasK]
    split
    · split
      · omega
      · rw [List.length_append]; simp; omega
    · omega
theorem gasK_hrs {d : Dial} {f t : Int} {l : List Card} {out : List Span} (hf : hourOk f) (ht : hourOk t) (k : Nat) : 0 ≤ (gasK d f t l out k).2 ∧ (gasK d f t l out k).2 ≤ k * 1048576 := by
  induction k with
  | zero => exact ⟨Int.le_refl _, Int.le_refl _⟩
  | succ k ih =>
    simp only [gasK]
    rw [Int.natCast_add, Int.add_mul]
    split
    · rename_i a b s _ _ _
      split
      · omega
      · have := lap_bd (a := a.hour) (b := b.hour) hf ht (by omega)
        dsimp only
        omega
    · omega
theorem gasK_all {d : Dial} {f t : Int} {l : List Card} {out : List Span} (hd : dialOk d) (hf : hourOk f) (ht : hourOk t) (hr : Rise l) (hl : ∀ c ∈ l, ReadOk d c) (hp : pairsL d l = some out) (k : Nat) : ∀ x ∈ (gasK d f t l out k).1, InB x := by
  induction k with
  | zero => intro x hx; cases hx
  | succ k ih =>
    simp only [gasK]
    split
    · rename_i a b s ha hb hs
      split
      · exact ih
      · intro x hx
        rcases List.mem_append.1 hx with hx | hx
        · exact ih x hx
        · have e := List.mem_singleton.1 hx
          rw [e]
          exact (part_bd hd hf ht (hl a (List.mem_of_getElem? ha)).1 (hl b (List.mem_of_getElem? hb)).1 (hr.get (by omega) ha hb) (pairs_get hp ha hb hs) (by omega)).inb
    · exact ih
end Go.Proofs.YtckaaaebegemoaaDoor
