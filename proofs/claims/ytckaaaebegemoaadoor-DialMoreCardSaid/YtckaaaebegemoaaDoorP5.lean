/-
  What truly went through a meter: hour by hour; what is told of it holds.
-/
import Derived.Test.YtckaaaebegemoaaDoorP3
set_option linter.all false
namespace Go.Proofs.YtckaaaebegemoaaDoor
open Go Go.H
/-! ### Sums -/
def PS (G : List Int) (n : Nat) : Int := (G.take n).sum
def SG (G : List Int) (f t : Int) : Int := PS G t.toNat - PS G f.toNat
theorem PS_succ {G : List Int} {k : Nat} {x : Int} (h : G[k]? = some x) : PS G (k + 1) = PS G k + x := by
  unfold PS
  rw [List.take_add_one, h]
  simp
/-- Each hour's gas is within the rate. -/
def InRate (d : Dial) (G : List Int) : Prop := ∀ x ∈ G, d.rate.lo ≤ x ∧ x ≤ d.rate.hi
theorem PS_bd {d : Dial} {G : List Int} (h : InRate d G) : ∀ (n f : Nat), f + n ≤ G.length → d.rate.lo * n ≤ PS G (f + n) - PS G f ∧ PS G (f + n) - PS G f ≤ d.rate.hi * n
  | 0, f, _ => by simp
  | n + 1, f, hl => by
    have ih := PS_bd h n f (by omega)
    have hlt : f + n < G.length := by omega
    have hx := h _ (List.getElem_mem hlt)
    have e := PS_succ (List.getElem?_eq_getElem hlt)
    rw [← Nat.add_assoc, e]
    have e1 : d.rate.lo * ((n + 1 : Nat) : Int) = d.rate.lo * n + d.rate.lo := by rw [Int.natCast_add, Int.mul_add]; simp
    have e2 : d.rate.hi * ((n + 1 : Nat) : Int) = d.rate.hi * n + d.rate.hi := by rw [Int.natCast_add, Int.mul_add]; simp
    rw [e1, e2]
    omega
theorem SG_bd {d : Dial} {G : List Int} (h : InRate d G) {f t : Int} (h0 : 0 ≤ f) (h1 : f ≤ t) (h2 : t ≤ G.length) : d.rate.lo * (t - f) ≤ SG G f t ∧ SG G f t ≤ d.rate.hi * (t - f) := by
  have := PS_bd h (t - f).toNat f.toNat (by omega)
  rw [show f.toNat + (t - f).toNat = t.toNat by omega] at this
  rw [show (((t - f).toNat : Nat) : Int) = t - f by omega] at this
  exact this
theorem SG_add (G : List Int) (a b c : Int) : SG G a c = SG G a b + SG G b c := by unfold SG; omega
theorem SG_self (G : List Int) (a : Int) : SG G a a = 0 := by unfold SG; omega
/-! ### What fits is within what is told -/
theorem wiX_fits {least turn low high g : Int} (h0 : 0 ≤ least) (h1 : least < turn) (hl : 0 ≤ low) (hg1 : low ≤ g) (hg2 : g ≤ high) (hg3 : least ≤ g) (hg4 : (g - least) % turn = 0) : ∃ s, wiX least turn low high = some s ∧ s.lo ≤ g ∧ g ≤ s.hi ∧ (s.hi - s.lo) % turn = 0 := by
  obtain ⟨k0, k1, k2, k3⟩ := kX_bd h0 h1 hl
  have ht : 0 < turn := by omega
  unfold wiX
  rw [show (low - least + turn - 1) / turn = kX least turn low from rfl, k3]
  have e := Int.mul_ediv_add_emod (g - least) turn
  rw [Int.mul_comm, hg4] at e
  have mono : ∀ x y : Int, x ≤ y → x * turn ≤ y * turn := fun x y h => Int.mul_le_mul_of_nonneg_right h (by omega)
  generalize hK : kX least turn low = K at *
  generalize hJ : (g - least) / turn = J at *
  have hJK : K ≤ J := by
    by_cases h : K ≤ J
    · exact h
    · exfalso
      have := mono (J + 1) K (by omega)
      rw [Int.add_mul] at this
      omega
  have hm := mono K J hJK
  rw [if_neg (by omega)]
  refine ⟨_, rfl, by dsimp only; omega, ?_, ?_⟩
  · dsimp only
    have hq : J - K ≤ (high - (least + K * turn)) / turn := (Int.le_ediv_iff_mul_le ht).2 (by rw [Int.sub_mul]; omega)
    have := mono _ _ hq
    rw [Int.sub_mul] at this
    omega
  · dsimp only
    rw [show least + K * turn + (high - (least + K * turn)) / turn * turn - (least + K * turn) = (high - (least + K * turn)) / turn * turn by omega]
    exact Int.mul_emod_left _ _
theorem btw_fits {d : Dial} {a b : Card} {g : Int} (hd : dialOk d) (hab : a.hour ≤ b.hour) (h : fitsP d a b g) : ∃ s, btw d a b = some s ∧ s.lo ≤ g ∧ g ≤ s.hi := by
  obtain ⟨l0, l1⟩ := least_bd (a := a) (b := b) hd
  have hlo : 0 ≤ d.rate.lo * (b.hour - a.hour) := Int.mul_nonneg hd.2.2.1 (by omega)
  obtain ⟨f1, f2, f3, f4⟩ := h
  unfold btw
  by_cases hs : d.sticks = true
  · rw [if_pos hs]
    unfold wiL
    rw [if_pos (by omega)]
    exact ⟨_, rfl, by dsimp only; omega, f2⟩
  · rw [if_neg hs]
    obtain ⟨s, h1, h2, h3, _⟩ := wiX_fits l0 l1 hlo f1 f2 f3 (f4.resolve_left hs)
    exact ⟨s, h1, h2, h3⟩
theorem btw_turn {d : Dial} {a b : Card} {s : Span} (hd : dialOk d) (hs : ¬ d.sticks = true) (h : btw d a b = some s) : (s.hi - s.lo) % turnI d.digits = 0 := by
  unfold btw at h
  rw [if_neg hs] at h
  unfold wiX at h
  split at h
  · cases h
  · cases h
    dsimp only
    generalize max 0 ((d.rate.lo * (b.hour - a.hour) - leastF d a b + turnI d.digits - 1) / turnI d.digits) * turnI d.digits = M
    rw [show leastF d a b + M + (d.rate.hi * (b.hour - a.hour) - (leastF d a b + M)) / turnI d.digits * turnI d.digits - (leastF d a b + M) = (d.rate.hi * (b.hour - a.hour) - (leastF d a b + M)) / turnI d.digits * turnI d.digits by omega]
    exact Int.mul_emod_left _ _
/-! ### Cards that show it -/
structure Shown (d : Dial) (house : Int) (G : List Int) (at_ : List Int) (cs : List Card) : Prop where
  len : cs.length = at_.length
  hour : ∀ (i : Nat) (c : Card), cs[i]? = some c → at_[i]? = some c.hour
  house : ∀ c ∈ cs, c.house = house
  shows : ∀ c ∈ cs, 0 ≤ c.shows ∧ c.shows ≤ turnI d.digits - 1
  step : ∀ (i : Nat) (a b : Card), cs[i]? = some a → cs[i + 1]? = some b → ∃ w, 0 ≤ w ∧ w ≤ SG G a.hour b.hour ∧ (d.sticks = false → w = SG G a.hour b.hour) ∧ b.shows = (a.shows + w) % turnI d.digits
/-- Hours that rise. -/
def Up (l : List Int) : Prop := l.Pairwise (· < ·)
theorem Up.get {l : List Int} (H : Up l) {i j : Nat} {a b : Int} (hij : i < j) (ha : l[i]? = some a) (hb : l[j]? = some b) : a < b := by
  obtain ⟨h1, e1⟩ := List.getElem?_eq_some_iff.1 ha
  obtain ⟨h2, e2⟩ := List.getElem?_eq_some_iff.1 hb
  have := List.pairwise_iff_getElem.1 H i j h1 h2 hij
  rwa [e1, e2] at this
theorem Shown.rise {d : Dial} {house : Int} {G at_ : List Int} {cs : List Card} (H : Shown d house G at_ cs) (hu : Up at_) : Rise cs := by
  unfold Rise
  rw [List.pairwise_iff_getElem]
  intro i j hi hj hij
  exact hu.get hij (H.hour i _ (List.getElem?_eq_getElem hi)) (H.hour j _ (List.getElem?_eq_getElem hj))
theorem Shown.fits {d : Dial} {house : Int} {G at_ : List Int} {cs : List Card} (H : Shown d house G at_ cs) (hd : dialOk d) (hG : InRate d G) (hu : Up at_) (hat : ∀ x ∈ at_, 0 ≤ x ∧ x ≤ G.length) {i : Nat} {a b : Card} (ha : cs[i]? = some a) (hb : cs[i + 1]? = some b) : fitsP d a b (SG G a.hour b.hour) := by
  have h1 := H.hour i a ha
  have h2 := H.hour (i + 1) b hb
  have hab := hu.get (Nat.lt_succ_self i) h1 h2
  have hA := hat _ (List.mem_of_getElem? h1)
  have hB := hat _ (List.mem_of_getElem? h2)
  have hS := SG_bd hG hA.1 (Int.le_of_lt hab) hB.2
  obtain ⟨w, w0, w1, w2, w3⟩ := H.step i a b ha hb
  have hsa := H.shows a (List.mem_of_getElem? ha)
  have htb := turn_bd hd.1 hd.2.1
  have hl : leastF d a b = w % turnI d.digits := by
    unfold leastF
    rw [w3, Int.add_emod_right, Int.sub_emod, Int.emod_emod, ← Int.sub_emod]
    congr 1; omega
  refine ⟨hS.1, hS.2, ?_, ?_⟩
  · rw [hl]
    have e := Int.mul_ediv_add_emod w (turnI d.digits)
    have : 0 ≤ turnI d.digits * (w / turnI d.digits) := Int.mul_nonneg (by omega) (Int.ediv_nonneg w0 (by omega))
    omega
  · cases hst : d.sticks with
    | true => exact .inl rfl
    | false =>
      refine .inr ?_
      rw [hl, ← w2 hst]
      rw [Int.sub_emod, Int.emod_emod, Int.sub_self, Int.zero_emod]
/-! ### The gas of some hours -/
def uH (f t : Int) (l : List Card) (k : Nat) : Int := match l[k]? with
  | some c => max f (min t c.hour)
  | none => f
theorem uH_at {f t : Int} {l : List Card} {k : Nat} {c : Card} (h : l[k]? = some c) : uH f t l k = max f (min t c.hour) := by unfold uH; rw [h]
theorem lap_uH {f t : Int} {l : List Card} {k : Nat} {a b : Card} (hft : f ≤ t) (ha : l[k]? = some a) (hb : l[k + 1]? = some b) (hab : a.hour < b.hour) :
    (lapH f t a.hour b.hour ≤ 0 → uH f t l (k + 1) = uH f t l k) ∧ (0 < lapH f t a.hour b.hour → uH f t l k = max f a.hour ∧ uH f t l (k + 1) = min t b.hour ∧ lapH f t a.hour b.hour = uH f t l (k + 1) - uH f t l k) := by
  rw [uH_at ha, uH_at hb]
  unfold lapH
  omega
theorem pairs_all {d : Dial} : ∀ {l : List Card}, (∀ (i : Nat) (a b : Card), l[i]? = some a → l[i + 1]? = some b → ∃ s, btw d a b = some s) → ∃ out, pairsL d l = some out
  | [], _ => ⟨[], rfl⟩
  | [a], _ => ⟨[], rfl⟩
  | a :: b :: l, h => by
    obtain ⟨s, hs⟩ := h 0 a b rfl rfl
    obtain ⟨out, ho⟩ := pairs_all (l := b :: l) fun i x y hx hy => h (i + 1) x y (by simpa using hx) (by simpa using hy)
    exact ⟨s :: out, by simp only [pairsL, hs, ho]; rfl⟩
end Go.Proofs.YtckaaaebegemoaaDoor
