/-
  The meter readings: what is valid; the gas between two readings; the readings of a house; plain functions.
-/
import Derived.Test.YtckaaaebegemoaaDoorD
set_option linter.all false
namespace Go.Proofs.YtckaaaebegemoaaDoor
open Go Go.H
structure Rnd where
  da : Option Addr
  dc : Nat
  dials : List Dial
  ca : Option Addr
  cc : Nat
  cards : List Card
def eRnd (r : Rnd) : List Value := [.slice r.da r.dials.length r.dc, .slice r.ca r.cards.length r.cc]
structure RndV (h : Hp) (r : Rnd) : Prop where
  dials : SlV h 4 eDial r.da r.dials
  cards : SlV h 3 eCard r.ca r.cards
theorem RndV.sub {h g : Hp} {r : Rnd} (H : RndV h r) (hs : h ⊆ g) : RndV g r := ⟨H.dials.sub hs, H.cards.sub hs⟩
structure Small (r : Rnd) : Prop where
  dials : r.dials.length ≤ 12
  cards : r.cards.length ≤ 52
def turnsL : List Value := [I 1, I 10, I 100, I 1000, I 10000, I 100000, I 1000000]
/-- The package's table. -/
def TurnsV (h : Hp) : Prop := ∃ t, (0, .cells ⟨turnsL⟩ t (0, 0)) ∈ h
theorem TurnsV.sub {h g : Hp} (H : TurnsV h) (hs : h ⊆ g) : TurnsV g := H.imp fun _ h1 => hs h1
def turnI (n : Int) : Int := ((10 ^ n.toNat : Nat) : Int)
theorem turns_at {n : Int} (h0 : 0 ≤ n) (h6 : n ≤ 6) : turnsL[n.toNat]? = some (I (turnI n)) := by
  have : n = 0 ∨ n = 1 ∨ n = 2 ∨ n = 3 ∨ n = 4 ∨ n = 5 ∨ n = 6 := by omega
  rcases this with rfl | rfl | rfl | rfl | rfl | rfl | rfl <;> rfl
theorem turn_bd {n : Int} (h0 : 1 ≤ n) (h6 : n ≤ 6) : 10 ≤ turnI n ∧ turnI n ≤ 1000000 := by
  have : n = 1 ∨ n = 2 ∨ n = 3 ∨ n = 4 ∨ n = 5 ∨ n = 6 := by omega
  rcases this with rfl | rfl | rfl | rfl | rfl | rfl <;> decide
def dialOk (d : Dial) : Prop := 1 ≤ d.digits ∧ d.digits ≤ 6 ∧ 0 ≤ d.rate.lo ∧ d.rate.lo ≤ d.rate.hi ∧ d.rate.hi ≤ 10000
instance (d : Dial) : Decidable (dialOk d) := by unfold dialOk; infer_instance
def hourOk (h : Int) : Prop := 0 ≤ h ∧ h ≤ 1048576
instance (h : Int) : Decidable (hourOk h) := by unfold hourOk; infer_instance
def dialAt (ds : List Dial) (house : Int) : Dial := (ds[house.toNat]?).getD default
def cardOk (ds : List Dial) (c : Card) : Prop := (0 ≤ c.house ∧ c.house ≤ ds.length - 1) ∧ hourOk c.hour ∧ 0 ≤ c.shows ∧ c.shows ≤ turnI (dialAt ds c.house).digits - 1
instance (ds : List Dial) (c : Card) : Decidable (cardOk ds c) := by unfold cardOk; infer_instance
structure GoodRnd (r : Rnd) : Prop where
  d1 : 1 ≤ r.dials.length
  d8 : r.dials.length ≤ 8
  dials : ∀ d ∈ r.dials, dialOk d
  c48 : r.cards.length ≤ 48
  cards : ∀ c ∈ r.cards, cardOk r.dials c
def nay (p : Prop) [Decidable p] : Bool := !decide p
theorem nay_T {p : Prop} [Decidable p] (h : ¬ p) : nay p = true := by simp [nay, h]
theorem nay_F {p : Prop} [Decidable p] (h : p) : nay p = false := by simp [nay, h]
theorem of_nay_T {p : Prop} [Decidable p] (h : nay p = true) : ¬ p := by simpa [nay] using h
theorem of_nay_F {p : Prop} [Decidable p] (h : nay p = false) : p := by simpa [nay] using h
theorem dialAt_mem {ds : List Dial} {x : Int} (h0 : 0 ≤ x) (h1 : x ≤ ds.length - 1) : dialAt ds x ∈ ds ∧ ds[x.toNat]? = some (dialAt ds x) := by
  have hlt : x.toNat < ds.length := by omega
  have e : ds[x.toNat]? = some ds[x.toNat] := List.getElem?_eq_getElem hlt
  unfold dialAt
  rw [e]
  exact ⟨List.getElem_mem hlt, rfl⟩
/-! ### The gas between two readings -/
def wiX (least turn low high : Int) : Option Span :=
  if least + max 0 ((low - least + turn - 1) / turn) * turn > high then none
  else some ⟨least + max 0 ((low - least + turn - 1) / turn) * turn, least + max 0 ((low - least + turn - 1) / turn) * turn + (high - (least + max 0 ((low - least + turn - 1) / turn) * turn)) / turn * turn⟩
def wiL (least low high : Int) : Option Span := if max least low ≤ high then some ⟨max least low, high⟩ else none
def leastF (d : Dial) (a b : Card) : Int := (b.shows - a.shows + turnI d.digits) % turnI d.digits
def btw (d : Dial) (a b : Card) : Option Span :=
  if d.sticks then wiL (leastF d a b) (d.rate.lo * (b.hour - a.hour)) (d.rate.hi * (b.hour - a.hour))
  else wiX (leastF d a b) (turnI d.digits) (d.rate.lo * (b.hour - a.hour)) (d.rate.hi * (b.hour - a.hour))
def pairsL (d : Dial) : List Card → Option (List Span)
  | [] => some []
  | a :: l => match l with
    | [] => some []
    | b :: l' => match btw d a b with
      | none => none
      | some s => (pairsL d (b :: l')).map (s :: ·)
/-! ### The readings of a house -/
def insC (c : Card) : List Card → Option (List Card)
  | [] => some [c]
  | x :: l => if x.hour < c.hour then (insC c l).map (x :: ·) else if x.hour = c.hour then (if x = c then some (x :: l) else none) else some (c :: x :: l)
def readL (cs : List Card) (house : Int) : Option (List Card) := cs.foldl (fun o c => if c.house = house then o.bind (insC c) else o) (some [])
/-- Each once, as they come. -/
def onceL (cs : List Card) (house : Int) : List Card := cs.foldl (fun l c => if c.house = house ∧ c ∉ l then l ++ [c] else l) []
theorem once_snoc (cs : List Card) (house : Int) (c : Card) : onceL (cs ++ [c]) house = if c.house = house ∧ c ∉ onceL cs house then onceL cs house ++ [c] else onceL cs house := by
  unfold onceL; rw [List.foldl_append]; rfl
theorem read_snoc (cs : List Card) (house : Int) (c : Card) : readL (cs ++ [c]) house = if c.house = house then (readL cs house).bind (insC c) else readL cs house := by
  simp [readL, List.foldl_append]
theorem once_take {cs : List Card} {house : Int} {k : Nat} {c : Card} (hk : cs[k]? = some c) : onceL (cs.take (k + 1)) house = if c.house = house ∧ c ∉ onceL (cs.take k) house then onceL (cs.take k) house ++ [c] else onceL (cs.take k) house := by
  rw [List.take_add_one, hk]; exact once_snoc _ _ _
theorem snoc_ind {α : Type} {P : List α → Prop} (h0 : P []) (h1 : ∀ l a, P l → P (l ++ [a])) (l : List α) : P l := by
  have : ∀ m : List α, P m.reverse := by
    intro m
    induction m with
    | nil => exact h0
    | cons a m ih => rw [List.reverse_cons]; exact h1 _ _ ih
  simpa using this l.reverse
theorem once_mem (cs : List Card) (house : Int) (x : Card) : x ∈ onceL cs house ↔ x ∈ cs ∧ x.house = house := by
  induction cs using snoc_ind with
  | h0 => simp [onceL]
  | h1 cs c ih =>
    rw [once_snoc]
    by_cases hc : c.house = house ∧ c ∉ onceL cs house
    · rw [if_pos hc, List.mem_append, ih]
      simp only [List.mem_append, List.mem_singleton]
      constructor
      · rintro (h | rfl)
        · exact ⟨.inl h.1, h.2⟩
        · exact ⟨.inr rfl, hc.1⟩
      · rintro ⟨h | rfl, h2⟩
        · exact .inl ⟨h, h2⟩
        · exact .inr rfl
    · rw [if_neg hc, ih]
      simp only [List.mem_append, List.mem_singleton]
      constructor
      · rintro h; exact ⟨.inl h.1, h.2⟩
      · rintro ⟨h | rfl, h2⟩
        · exact ⟨h, h2⟩
        · refine ⟨?_, h2⟩
          by_cases hm : x ∈ onceL cs house
          · exact (ih.1 hm).1
          · exact absurd ⟨h2, hm⟩ hc
theorem once_nodup (cs : List Card) (house : Int) : (onceL cs house).Nodup := by
  induction cs using snoc_ind with
  | h0 => simp [onceL]
  | h1 cs c ih =>
    rw [once_snoc]
    split
    · rename_i hc
      rw [List.nodup_append]
      refine ⟨ih, by simp, ?_⟩
      intro a ha b hb
      simp at hb
      subst hb
      intro e
      subst e
      exact hc.2 ha
    · exact ih
theorem once_len (cs : List Card) (house : Int) : (onceL cs house).length ≤ cs.length := by
  induction cs using snoc_ind with
  | h0 => simp [onceL]
  | h1 cs c ih =>
    rw [once_snoc]
    split <;> simp <;> omega
/-- Rising strictly by the hour. -/
def Rise (l : List Card) : Prop := l.Pairwise fun a b => a.hour < b.hour
theorem Rise.nodup {l : List Card} (H : Rise l) : l.Nodup := H.imp fun hq e => by subst e; omega
theorem ins_some {c : Card} : ∀ {l l' : List Card}, Rise l → insC c l = some l' → Rise l' ∧ ∀ x, x ∈ l' ↔ x = c ∨ x ∈ l
  | [], l', _, h => by
    simp [insC] at h
    subst h
    exact ⟨by simp [Rise], by simp⟩
  | x :: l, l', hr, h => by
    have hr' := List.pairwise_cons.1 hr
    simp only [insC] at h
    split at h
    · rename_i hlt
      obtain ⟨m, hm, rfl⟩ := Option.map_eq_some_iff.1 h
      obtain ⟨h1, h2⟩ := ins_some hr'.2 hm
      refine ⟨List.pairwise_cons.2 ⟨fun y hy => ?_, h1⟩, fun y => by simp only [List.mem_cons, h2]; constructor <;> (rintro (h | h | h) <;> simp [h])⟩
      rcases (h2 y).1 hy with rfl | hy
      · exact hlt
      · exact hr'.1 y hy
    · rename_i hnl
      split at h
      · rename_i heq
        split at h
        · rename_i hxc
          simp at h
          subst h
          subst hxc
          exact ⟨hr, fun y => by simp⟩
        · cases h
      · rename_i hne
        simp at h
        subst h
        refine ⟨List.pairwise_cons.2 ⟨fun y hy => ?_, hr⟩, fun y => by simp⟩
        rcases List.mem_cons.1 hy with rfl | hy
        · omega
        · have := hr'.1 y hy; omega
theorem ins_none {c : Card} : ∀ {l : List Card}, insC c l = none → ∃ x ∈ l, x ≠ c ∧ x.hour = c.hour
  | [], h => by simp [insC] at h
  | x :: l, h => by
    simp only [insC] at h
    split at h
    · have : insC c l = none := by simpa using h
      obtain ⟨y, hy, h1⟩ := ins_none this
      exact ⟨y, List.mem_cons_of_mem _ hy, h1⟩
    · split at h
      · rename_i heq
        split at h
        · cases h
        · rename_i hxc
          exact ⟨x, List.mem_cons_self, hxc, heq⟩
      · cases h
theorem read_some {cs : List Card} {house : Int} : ∀ {l : List Card}, readL cs house = some l → Rise l ∧ ∀ x, x ∈ l ↔ x ∈ cs ∧ x.house = house := by
  induction cs using snoc_ind with
  | h0 => intro l h; simp [readL] at h; subst h; exact ⟨by simp [Rise], by simp⟩
  | h1 cs c ih =>
    intro l h
    rw [read_snoc] at h
    split at h
    · rename_i hc
      cases hq : readL cs house with
      | none => rw [hq] at h; cases h
      | some l0 =>
        rw [hq] at h
        obtain ⟨h1, h2⟩ := ih hq
        obtain ⟨h3, h4⟩ := ins_some h1 h
        refine ⟨h3, fun x => ?_⟩
        rw [h4, h2]
        simp only [List.mem_append, List.mem_singleton]
        constructor
        · rintro (rfl | ⟨h, h5⟩)
          · exact ⟨.inr rfl, hc⟩
          · exact ⟨.inl h, h5⟩
        · rintro ⟨h | rfl, h5⟩
          · exact .inr ⟨h, h5⟩
          · exact .inl rfl
    · rename_i hc
      obtain ⟨h1, h2⟩ := ih h
      refine ⟨h1, fun x => ?_⟩
      rw [h2]
      simp only [List.mem_append, List.mem_singleton]
      constructor
      · rintro ⟨h, h5⟩; exact ⟨.inl h, h5⟩
      · rintro ⟨h | rfl, h5⟩
        · exact ⟨h, h5⟩
        · exact absurd h5 hc
theorem read_none {cs : List Card} {house : Int} : readL cs house = none → ∃ x y, x ∈ cs ∧ y ∈ cs ∧ x.house = house ∧ y.house = house ∧ x ≠ y ∧ x.hour = y.hour := by
  induction cs using snoc_ind with
  | h0 => intro h; simp [readL] at h
  | h1 cs c ih =>
    intro h
    rw [read_snoc] at h
    have lift : readL cs house = none → ∃ x y, x ∈ cs ++ [c] ∧ y ∈ cs ++ [c] ∧ x.house = house ∧ y.house = house ∧ x ≠ y ∧ x.hour = y.hour := by
      intro h9
      obtain ⟨x, y, h1, h2, h3⟩ := ih h9
      exact ⟨x, y, List.mem_append_left _ h1, List.mem_append_left _ h2, h3⟩
    split at h
    · rename_i hc
      cases hq : readL cs house with
      | none => exact lift hq
      | some l0 =>
        rw [hq] at h
        obtain ⟨x, hx, hne, hh⟩ := ins_none h
        have hm := ((read_some hq).2 x).1 hx
        exact ⟨x, c, List.mem_append_left _ hm.1, by simp, hm.2, hc, hne, hh⟩
    · exact lift h
theorem Rise.inj {l : List Card} (H : Rise l) : ∀ {x y : Card}, x ∈ l → y ∈ l → x.hour = y.hour → x = y := by
  induction l with
  | nil => intro x y hx; cases hx
  | cons a l ih =>
    have H' := List.pairwise_cons.1 H
    intro x y hx hy he
    rcases List.mem_cons.1 hx with h1 | h1 <;> rcases List.mem_cons.1 hy with h2 | h2
    · rw [h1, h2]
    · have := H'.1 y h2; subst h1; omega
    · have := H'.1 x h1; subst h2; omega
    · exact ih H'.2 h1 h2 he
theorem Rise.ext : ∀ {l m : List Card}, Rise l → Rise m → (∀ x, x ∈ l ↔ x ∈ m) → l = m
  | [], [], _, _, _ => rfl
  | [], b :: m, _, _, he => by have := (he b).2 (by simp); simp at this
  | a :: l, [], _, _, he => by have := (he a).1 (by simp); simp at this
  | a :: l, b :: m, hl, hm, he => by
    have hl' := List.pairwise_cons.1 hl
    have hm' := List.pairwise_cons.1 hm
    have hab : a = b := by
      rcases List.mem_cons.1 ((he a).1 (by simp)) with h | h
      · exact h
      · rcases List.mem_cons.1 ((he b).2 (by simp)) with h2 | h2
        · exact h2.symm
        · have := hl'.1 b h2; have := hm'.1 a h; omega
    subst hab
    congr 1
    refine Rise.ext hl'.2 hm'.2 fun x => ?_
    have hx := he x
    simp only [List.mem_cons] at hx
    constructor
    · intro h
      rcases hx.1 (.inr h) with rfl | h2
      · have := hl'.1 x h; omega
      · exact h2
    · intro h
      rcases hx.2 (.inr h) with rfl | h2
      · have := hm'.1 x h; omega
      · exact h2
/-- Whatever is rising and holds the readings is them. -/
theorem read_eq {cs : List Card} {house : Int} {l : List Card} (hr : Rise l) (hm : ∀ x, x ∈ l ↔ x ∈ cs ∧ x.house = house) : readL cs house = some l := by
  cases hq : readL cs house with
  | none =>
    obtain ⟨x, y, h1, h2, h3, h4, h5, h6⟩ := read_none hq
    exact absurd (hr.inj ((hm x).2 ⟨h1, h3⟩) ((hm y).2 ⟨h2, h4⟩) h6) h5
  | some m =>
    obtain ⟨h1, h2⟩ := read_some hq
    rw [Rise.ext h1 hr fun x => (h2 x).trans (hm x).symm]
theorem read_clash {cs : List Card} {house : Int} {x y : Card} (hx : x ∈ cs) (hy : y ∈ cs) (hx2 : x.house = house) (hy2 : y.house = house) (hne : x ≠ y) (hh : x.hour = y.hour) : readL cs house = none := by
  cases hq : readL cs house with
  | none => rfl
  | some m =>
    obtain ⟨h1, h2⟩ := read_some hq
    exact absurd (h1.inj ((h2 x).2 ⟨hx, hx2⟩) ((h2 y).2 ⟨hy, hy2⟩) hh) hne
theorem ins_len {c : Card} : ∀ {l l' : List Card}, insC c l = some l' → l'.length ≤ l.length + 1
  | [], l', h => by simp [insC] at h; subst h; simp
  | x :: l, l', h => by
    simp only [insC] at h
    split at h
    · obtain ⟨m, hm, rfl⟩ := Option.map_eq_some_iff.1 h
      have := ins_len hm
      simp only [List.length_cons]; omega
    · split at h
      · split at h
        · simp at h; subst h; simp
        · cases h
      · simp at h; subst h; simp
theorem read_len {cs : List Card} {house : Int} : ∀ {l : List Card}, readL cs house = some l → l.length ≤ cs.length := by
  induction cs using snoc_ind with
  | h0 => intro l h; simp [readL] at h; subst h; simp
  | h1 cs c ih =>
    intro l h
    rw [read_snoc] at h
    rw [List.length_append]
    split at h
    · cases hq : readL cs house with
      | none => rw [hq] at h; cases h
      | some l0 =>
        rw [hq] at h
        have := ins_len h
        have := ih hq
        simp only [List.length_singleton]; omega
    · have := ih h; omega
/-! ### The order of the readings -/
def cmH (x y : Card) : Int := if x.hour < y.hour then -1 else if y.hour < x.hour then 1 else 0
end Go.Proofs.YtckaaaebegemoaaDoor
