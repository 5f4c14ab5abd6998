/-
  Tariffs that are valid, one after the other.
-/
import Derived.Test.YtlcdbjgfeoagbaaW1
set_option linter.all false
namespace Go.Proofs.Ytlcdbjgfeoagbaa
open Go Go.H
def lastF : Int → List Tariff → Int
  | last, [] => last
  | _, t :: l => lastF t.frm l
theorem tarsOk_snoc {hold now : Int} {t : Tariff} : ∀ {last : Int} {l : List Tariff}, tarsOk hold now last (l ++ [t]) ↔ tarsOk hold now last l ∧ tarOk hold now (lastF last l) t
  | last, [] => by simp [tarsOk, lastF]
  | last, x :: l => by
    rw [List.cons_append]
    unfold tarsOk lastF
    rw [tarsOk_snoc (last := x.frm) (l := l), and_assoc]
theorem lastF_snoc {t : Tariff} : ∀ {last : Int} {l : List Tariff}, lastF last (l ++ [t]) = t.frm
  | last, [] => rfl
  | last, x :: l => lastF_snoc (last := x.frm) (l := l)
theorem tarsOk_app {hold now : Int} {q : List Tariff} : ∀ {last : Int} {l : List Tariff}, tarsOk hold now last (l ++ q) → tarsOk hold now last l
  | last, [], _ => trivial
  | last, x :: l, h => ⟨h.1, tarsOk_app h.2⟩
theorem tarsOk_take {hold now last : Int} {l : List Tariff} (k : Nat) (h : tarsOk hold now last l) : tarsOk hold now last (l.take k) := by
  rw [← List.take_append_drop k l] at h; exact tarsOk_app h
theorem tarsOk_more {hold now last : Int} {l : List Tariff} {k : Nat} {t : Tariff} (h : tarsOk hold now last (l.take k)) (hk : l[k]? = some t) (ht : tarOk hold now (lastF last (l.take k)) t) : tarsOk hold now last (l.take (k + 1)) := by
  rw [List.take_add_one, hk]; exact tarsOk_snoc.2 ⟨h, ht⟩
theorem tarsOk_at {hold now last : Int} {l : List Tariff} {k : Nat} {t : Tariff} (h : tarsOk hold now last l) (hk : l[k]? = some t) : tarOk hold now (lastF last (l.take k)) t := by
  have h1 := tarsOk_take (k + 1) h
  rw [List.take_add_one, hk] at h1
  exact (tarsOk_snoc.1 h1).2
theorem lastF_p {last : Int} {l : List Tariff} {k : Nat} {t : Tariff} (h0 : 0 < k) (hk : l[k - 1]? = some t) : lastF last (l.take k) = t.frm := by
  obtain ⟨j, rfl⟩ : ∃ j, k = j + 1 := ⟨k - 1, by omega⟩
  rw [Nat.add_sub_cancel] at hk
  rw [List.take_add_one, hk]; exact lastF_snoc
theorem lastF_ge {hold now : Int} : ∀ {last : Int} {l : List Tariff}, tarsOk hold now last l → last ≤ lastF last l
  | last, [], _ => Int.le_refl _
  | last, x :: l, h => by
    have h1 := lastF_ge h.2
    have h2 := h.1.1.1
    unfold lastF
    omega
theorem frm0_at {s : Slot} {x : Tariff} (h : frm0 s) (hx : s.tars[0]? = some x) : x.frm = 0 := by
  unfold frm0 at h
  rw [List.head?_eq_getElem?, List.getElem?_map, hx] at h
  exact Option.some.inj h
theorem frm0_of {s : Slot} {x : Tariff} (hx : s.tars[0]? = some x) (h : x.frm = 0) : frm0 s := by
  unfold frm0
  rw [List.head?_eq_getElem?, List.getElem?_map, hx]
  exact congrArg some h
theorem GoodSlot.feet {s : Slot} (h : GoodSlot s) : FeetOk s := fun t ht => by
  obtain ⟨⟨⟨_, a⟩, _⟩, _, _, h4, _⟩ := h
  obtain ⟨k, hk⟩ := List.getElem?_of_mem ht
  have := (tarsOk_at h4 hk).2
  omega
theorem GoodSlot.ne {s : Slot} (h : GoodSlot s) : s.tars ≠ [] := fun e => by
  have := h.2.1.1.1
  rw [e] at this
  exact absurd this (by decide)
end Go.Proofs.Ytlcdbjgfeoagbaa

/-
  Pairs of marks that cannot be.
-/
set_option linter.all false
namespace Go.Proofs.Ytlcdbjgfeoagbaa
open Go Go.H
def twP (a b : Mark) : Bool := decide (a.hour = b.hour ∧ a.used ≠ b.used)
def crP (a b : Mark) : Bool := decide (a.hour < b.hour ∧ a.used > b.used)
theorem twiceB_eq (l : List Mark) : twiceB l = l.any fun a => l.any (twP a) := rfl
theorem crossB_eq (l : List Mark) : crossB l = l.any fun a => l.any (crP a) := rfl
theorem twice_at {l : List Mark} {a b : Mark} (ha : a ∈ l) (hb : b ∈ l) (h : twP a b = true) : twiceB l = true := by
  rw [twiceB_eq, List.any_eq_true]
  exact ⟨a, ha, List.any_eq_true.2 ⟨b, hb, h⟩⟩
def num7 (b : Bool) : Int := if b then 7 else 0
theorem errS_5 {s : Slot} (hg : GoodSlot s) (h : twiceB s.marks = true) : errS s = 5 := by unfold errS; rw [if_pos hg, if_pos h]
theorem errS_n {s : Slot} (hg : GoodSlot s) (h : twiceB s.marks = false) : errS s = num7 (crossB s.marks) := by unfold errS num7; rw [if_pos hg, h]; rfl
theorem errS_1 {s : Slot} (hg : ¬ GoodSlot s) : errS s = 1 := by unfold errS; exact if_neg hg
end Go.Proofs.Ytlcdbjgfeoagbaa

/-
  The last mark, and the credit.
-/
set_option linter.all false
namespace Go.Proofs.Ytlcdbjgfeoagbaa
open Go Go.H
theorem lastM_0 {s : Slot} (h : (sortM s.marks).length = 0) : lastM s = (0, false) := by
  unfold lastM
  rw [List.length_eq_zero_iff.1 h]; rfl
theorem lastM_p {s : Slot} {m : Mark} (h : (sortM s.marks)[(sortM s.marks).length - 1]? = some m) : lastM s = (m.used, decide (m.hour = s.now)) := by
  unfold lastM
  rw [List.getLast?_eq_getElem?, h]
theorem lastM_bd {s : Slot} (hg : GoodSlot s) : 0 ≤ (lastM s).1 ∧ (lastM s).1 ≤ 1073741824 := by
  by_cases h : (sortM s.marks).length = 0
  · rw [lastM_0 h]; decide
  · have hk : (sortM s.marks)[(sortM s.marks).length - 1]? = some ((sortM s.marks)[(sortM s.marks).length - 1]'(by omega)) := List.getElem?_eq_getElem (by omega)
    rw [lastM_p hk]
    have := hg.2.2.2.2 _ (sortM_mem.1 (List.mem_of_getElem? hk))
    exact this.2
theorem creditA_t {s : Slot} {b : Int} (h : (lastM s).2 = true) : creditA s b = ⟨s.start + b - (lastM s).1, s.start + b - (lastM s).1⟩ := by unfold creditA; rw [if_pos h]
theorem creditA_f {s : Slot} {b : Int} (h : (lastM s).2 = false) : creditA s b = ⟨0, min s.hold (s.start + b - (lastM s).1)⟩ := by unfold creditA; rw [h]; exact if_neg (by decide)
theorem badM_cons {s : Slot} {f : Int → Int} {m : Mark} {l : List Mark} : badM s f (m :: l) = if s.start + f m.hour < m.used then some (m.hour, 10) else if s.start + f m.hour > m.used + s.hold then some (m.hour, 9) else badM s f l := rfl
theorem badM_take {s : Slot} {f : Int → Int} : ∀ {l : List Mark} {k : Nat}, badM s f l = (match badM s f (l.take k) with
    | some z => some z
    | none => badM s f (l.drop k))
  | [], k => by simp [badM]
  | m :: l, 0 => rfl
  | m :: l, k + 1 => by
    rw [List.take_succ_cons, List.drop_succ_cons, badM_cons, badM_cons]
    split
    · rfl
    · split
      · rfl
      · exact badM_take
theorem badM_at {s : Slot} {f : Int → Int} {l : List Mark} {k : Nat} {m : Mark} {z : Int × Int} (h : badM s f (l.take k) = none) (hk : l[k]? = some m) (hz : badM s f [m] = some z) : badM s f l = some z := by
  rw [badM_take (k := k), h]
  have hlt := (List.getElem?_eq_some_iff.1 hk)
  obtain ⟨h1, h2⟩ := hlt
  show badM s f (l.drop k) = some z
  rw [List.drop_eq_getElem_cons h1, h2]
  rw [badM_cons] at hz ⊢
  split
  · rename_i q; rw [if_pos q] at hz; exact hz
  · rename_i q
    rw [if_neg q] at hz
    split
    · rename_i q2; rw [if_pos q2] at hz; exact hz
    · rename_i q2; rw [if_neg q2] at hz; simp [badM] at hz
theorem badM_more {s : Slot} {f : Int → Int} {l : List Mark} {k : Nat} {m : Mark} (h : badM s f (l.take k) = none) (hk : l[k]? = some m) (h1 : ¬ s.start + f m.hour < m.used) (h2 : ¬ s.start + f m.hour > m.used + s.hold) : badM s f (l.take (k + 1)) = none := by
  rw [badM_take (k := k), List.take_take, Nat.min_eq_left (by omega), h]
  show badM s f ((l.take (k + 1)).drop k) = none
  rw [List.take_add_one, hk]
  have hlt := (List.getElem?_eq_some_iff.1 hk).1
  rw [List.drop_append_of_le_length (by rw [List.length_take]; omega), List.drop_eq_nil_of_le (by rw [List.length_take]; omega)]
  show badM s f [m] = none
  rw [badM_cons, if_neg h1, if_neg h2]; rfl
end Go.Proofs.Ytlcdbjgfeoagbaa

/-
  What playing gives, case by case.
-/
set_option linter.all false
namespace Go.Proofs.Ytlcdbjgfeoagbaa
open Go Go.H
section
variable {s : Slot} {hours : List Int}
theorem good_of (h : errS s = 0) : GoodSlot s := by
  by_cases hg : GoodSlot s
  · exact hg
  · rw [errS_1 hg] at h; exact absurd h (by decide)
theorem playA_e (h : ¬ errS s = 0) : playA s hours = (0, ⟨0, 0⟩, 0, errS s) := by unfold playA; exact if_neg h
theorem playA_2 (h : errS s = 0) (h2 : ¬ ((hours.length : Int) = s.coins ∧ ∀ h ∈ hours, 0 ≤ h ∧ h ≤ s.now)) : playA s hours = (0, ⟨0, 0⟩, 0, 2) := by unfold playA; rw [if_pos h, if_neg h2]
theorem playA_b {a e : Int} (h : errS s = 0) (h2 : (hours.length : Int) = s.coins ∧ ∀ h ∈ hours, 0 ≤ h ∧ h ≤ s.now) (h3 : badM s (byH s hours) (sortM s.marks) = some (a, e)) : playA s hours = (0, ⟨0, 0⟩, a, e) := by unfold playA; rw [if_pos h, if_pos h2, h3]
theorem playA_0 (h : errS s = 0) (h2 : (hours.length : Int) = s.coins ∧ ∀ h ∈ hours, 0 ≤ h ∧ h ≤ s.now) (h3 : badM s (byH s hours) (sortM s.marks) = none) : playA s hours = (byH s hours s.now, creditA s (byH s hours s.now), s.now, 0) := by unfold playA; rw [if_pos h, if_pos h2, h3]
theorem badM_10 {f : Int → Int} {m : Mark} (h : s.start + f m.hour < m.used) : badM s f [m] = some (m.hour, 10) := if_pos h
theorem badM_9 {f : Int → Int} {m : Mark} (h1 : ¬ s.start + f m.hour < m.used) (h : s.start + f m.hour > m.used + s.hold) : badM s f [m] = some (m.hour, 9) := by rw [badM_cons, if_neg h1, if_pos h]
end
end Go.Proofs.Ytlcdbjgfeoagbaa

/-
  The last hour of a tariff, and what pennies are worth.
-/
set_option linter.all false
namespace Go.Proofs.Ytlcdbjgfeoagbaa
open Go Go.H
theorem frm_bd {s : Slot} (hg : GoodSlot s) {k : Nat} {t : Tariff} (h : s.tars[k]? = some t) : 0 ≤ t.frm ∧ t.frm ≤ 1048576 := by
  obtain ⟨⟨_, _, _, _, h8⟩, _, _, h4, _⟩ := id hg
  have h1 := (tarsOk_at h4 h).1
  have h2 := lastF_ge (tarsOk_take k h4)
  omega
def endT (s : Slot) (k : Nat) : Int := match s.tars[k + 1]? with
  | some t => t.frm - 1
  | none => s.now
theorem endT_p {s : Slot} {k : Nat} {t : Tariff} (h : s.tars[k + 1]? = some t) : endT s k = t.frm - 1 := by unfold endT; rw [h]
theorem endT_n {s : Slot} {k : Nat} (h : s.tars.length ≤ k + 1) : endT s k = s.now := by unfold endT; rw [List.getElem?_eq_none h]
def worthN (s : Slot) (n : List Int) : Nat → Int
  | 0 => 0
  | k + 1 => worthN s n k + n.getD k 0 * (s.tars.getD k default).feet
theorem worthN_at {s : Slot} {n : List Int} {k : Nat} {x : Int} {t : Tariff} (h : n[k]? = some x) (ht : s.tars[k]? = some t) : worthN s n (k + 1) = worthN s n k + x * t.feet := by
  rw [worthN, List.getD_eq_getElem?_getD, h, List.getD_eq_getElem?_getD, ht]; rfl
theorem mul_bd {x f : Int} (h : 0 ≤ x ∧ x ≤ 24) (hf : 0 ≤ f ∧ f ≤ 10000) : 0 ≤ x * f ∧ x * f ≤ 240000 := by
  refine ⟨Int.mul_nonneg h.1 hf.1, ?_⟩
  have h1 : x * f ≤ 24 * 10000 := Int.mul_le_mul h.2 hf.2 hf.1 (by decide)
  omega
theorem worthN_bd {s : Slot} {n : List Int} (hf : FeetOk s) (hn : ∀ x ∈ n, 0 ≤ x ∧ x ≤ 24) (hl : n.length ≤ s.tars.length) : ∀ k, k ≤ n.length → 0 ≤ worthN s n k ∧ worthN s n k ≤ 240000 * (k : Int)
  | 0, _ => by simp [worthN]
  | k + 1, h => by
    have ih := worthN_bd hf hn hl k (by omega)
    have h1 : n[k]? = some (n[k]'(by omega)) := List.getElem?_eq_getElem (by omega)
    have h2 : s.tars[k]? = some (s.tars[k]'(by omega)) := List.getElem?_eq_getElem (by omega)
    rw [worthN_at h1 h2]
    have := mul_bd (hn _ (List.mem_of_getElem? h1)) (hf _ (List.mem_of_getElem? h2))
    omega
end Go.Proofs.Ytlcdbjgfeoagbaa

/-
  Whether so many pennies can have been put in at each tariff: mark by mark.
-/
set_option linter.all false
namespace Go.Proofs.Ytlcdbjgfeoagbaa
open Go Go.H
def growN (sm f used nk : Int) : Nat → Int → Int
  | 0, b => b
  | q + 1, b => if b < nk ∧ sm + b * f < used then growN sm f used nk q (b + 1) else b
def grow (sm f used nk b : Int) : Int := growN sm f used nk (nk - b).toNat b
theorem grow_step {sm f used nk b : Int} (h1 : b < nk) (h2 : sm + b * f < used) : grow sm f used nk b = grow sm f used nk (b + 1) := by
  unfold grow
  rw [show (nk - b).toNat = (nk - (b + 1)).toNat + 1 by omega, growN, if_pos ⟨h1, h2⟩]
theorem grow_stop {sm f used nk b : Int} (h : ¬ (b < nk ∧ sm + b * f < used)) : grow sm f used nk b = b := by
  unfold grow
  cases (nk - b).toNat with
  | zero => rfl
  | succ q => rw [growN, if_neg h]
section
variable (s : Slot) (n : List Int)
def nAt (h : Int) : Int := n.getD (force s.tars h) 0
def smAt (h : Int) : Int := s.start + worthN s n (force s.tars h)
def stepB (m : Mark) (at_ bf : Int) : Int :=
  if m.hour = endT s (force s.tars m.hour) then nAt s n m.hour else grow (smAt s n m.hour) (feetAt s m.hour) m.used (nAt s n m.hour) (if (force s.tars m.hour : Int) = at_ then bf else 0)
def fitM (m : Mark) (b : Int) : Prop := m.used ≤ smAt s n m.hour + b * feetAt s m.hour ∧ smAt s n m.hour + b * feetAt s m.hour ≤ m.used + s.hold
instance (m : Mark) (b : Int) : Decidable (fitM s n m b) := by unfold fitM; infer_instance
def possM : List Mark → Option (Int × Int)
  | l => l.foldl (fun z m => match z with
    | none => none
    | some (a, b) => if fitM s n m (stepB s n m a b) then some ((force s.tars m.hour : Int), stepB s n m a b) else none) (some (-1, 0))
def possB : Bool := (possM s n (sortM s.marks)).isSome
end
end Go.Proofs.Ytlcdbjgfeoagbaa

/-
  All divisions that can be, as the document counts them.
-/
set_option linter.all false
namespace Go.Proofs.Ytlcdbjgfeoagbaa
open Go Go.H
structure Hd where
  a : Option Addr
  m : List Int
  c : Nat
def allS (s : Slot) : Nat → Int → List Int → List (List Int)
  | 0, left, b => if possB s (b ++ [left]) then [b ++ [left]] else []
  | d + 1, left, b => (List.range (left.toNat + 1)).flatMap fun (i : Nat) => allS s d (left - (i : Int)) (b ++ [(i : Int)])
theorem allS_mem {s : Slot} : ∀ {d : Nat} {left : Int} {b n : List Int}, 0 ≤ left → n ∈ allS s d left b → ∃ q, n = b ++ q ∧ q.length = d + 1 ∧ (∀ x ∈ q, 0 ≤ x ∧ x ≤ left) ∧ q.sum = left ∧ possB s n = true
  | 0, left, b, n, h0, h => by
    unfold allS at h
    split at h
    · rename_i hp
      obtain rfl := List.mem_singleton.1 h
      exact ⟨[left], rfl, rfl, fun x hx => by obtain rfl := List.mem_singleton.1 hx; omega, by simp, hp⟩
    · exact (List.not_mem_nil h).elim
  | d + 1, left, b, n, h0, h => by
    unfold allS at h
    obtain ⟨i, hi, h⟩ := List.mem_flatMap.1 h
    rw [List.mem_range] at hi
    obtain ⟨q, e, hl, hb, hs, hp⟩ := allS_mem (by omega) h
    refine ⟨(i : Int) :: q, by rw [e]; simp, by simp [hl], fun x hx => ?_, by rw [List.sum_cons, hs]; omega, hp⟩
    rcases List.mem_cons.1 hx with rfl | hx
    · omega
    · have := hb x hx; omega
def divsS (s : Slot) : List (List Int) := allS s (s.tars.length - 1) s.coins []
def errD (s : Slot) : Int := if errS s = 0 then (if divsS s = [] then 6 else 0) else errS s
theorem divs_mem {s : Slot} (hg : GoodSlot s) {n : List Int} (h : n ∈ divsS s) : n.length = s.tars.length ∧ ∀ x ∈ n, 0 ≤ x ∧ x ≤ 24 := by
  have h1 := hg.2.1.1
  have h2 := hg.1.2.2.1
  obtain ⟨q, e, hl, hb, _⟩ := allS_mem h2.1 h
  rw [List.nil_append] at e
  subst e
  exact ⟨by omega, fun x hx => by have := hb x hx; omega⟩
def spanL (l : List Int) : Span := l.foldl (fun x n => ⟨min x.lo n, max x.hi n⟩) ⟨l.headD 0, l.headD 0⟩
def coinsS (s : Slot) : List Span := (List.range s.tars.length).map fun k => spanL ((divsS s).map fun n => n.getD k 0)
def boughtS (s : Slot) : Span := spanL ((divsS s).map fun n => worthN s n n.length)
def leftS (s : Slot) : Span := ⟨(creditA s (boughtS s).lo).lo, (creditA s (boughtS s).hi).hi⟩
theorem spanL_in {P : Int → Prop} {l : List Int} (h0 : l ≠ []) (h : ∀ x ∈ l, P x) : P (spanL l).lo ∧ P (spanL l).hi := by
  have key : ∀ (q : List Int) (x : Span), P x.lo → P x.hi → (∀ y ∈ q, P y) → P (q.foldl (fun x n => (⟨min x.lo n, max x.hi n⟩ : Span)) x).lo ∧ P (q.foldl (fun x n => (⟨min x.lo n, max x.hi n⟩ : Span)) x).hi := by
    intro q
    induction q with
    | nil => intro x a b _; exact ⟨a, b⟩
    | cons y q ih =>
      intro x a b c
      have hy := c y List.mem_cons_self
      refine ih _ ?_ ?_ fun z hz => c z (List.mem_cons_of_mem _ hz)
      · show P (min x.lo y); rcases Int.le_total x.lo y with q | q
        · rw [Int.min_eq_left q]; exact a
        · rw [Int.min_eq_right q]; exact hy
      · show P (max x.hi y); rcases Int.le_total x.hi y with q | q
        · rw [Int.max_eq_right q]; exact hy
        · rw [Int.max_eq_left q]; exact b
  obtain ⟨y, q, rfl⟩ := List.exists_cons_of_ne_nil h0
  exact key _ _ (h y List.mem_cons_self) (h y List.mem_cons_self) h
theorem bought_bd {s : Slot} (hg : GoodSlot s) (h : errD s = 0) : (0 ≤ (boughtS s).lo ∧ (boughtS s).lo ≤ 1000000000000) ∧ (0 ≤ (boughtS s).hi ∧ (boughtS s).hi ≤ 1000000000000) := by
  have hd : divsS s ≠ [] := fun q => by
    unfold errD at h
    by_cases h0 : errS s = 0
    · rw [if_pos h0, if_pos q] at h; exact absurd h (by decide)
    · rw [if_neg h0] at h; exact h0 h
  refine spanL_in (P := fun x => 0 ≤ x ∧ x ≤ 1000000000000) (fun q => hd (List.map_eq_nil_iff.1 q)) fun x hx => ?_
  obtain ⟨n, hn, rfl⟩ := List.mem_map.1 hx
  obtain ⟨hl, hb⟩ := divs_mem hg hn
  have h1 := worthN_bd hg.feet hb (by omega) n.length (by omega)
  have h2 := hg.2.1.1
  omega
end Go.Proofs.Ytlcdbjgfeoagbaa

/-
  Marks that are there twice make no difference; marks of each tariff by themselves.
-/
set_option linter.all false
namespace Go.Proofs.Ytlcdbjgfeoagbaa
open Go Go.H
def ddc (x : Mark) : List Mark → List Mark
  | [] => [x]
  | y :: r => if y.hour = x.hour then y :: r else x :: y :: r
def dd : List Mark → List Mark
  | [] => []
  | x :: l => ddc x (dd l)
theorem dd_cons {x : Mark} {l : List Mark} : dd (x :: l) = ddc x (dd l) := rfl
def dmS (s : Slot) : List Mark := dd (sortM s.marks)
def NoTwice (l : List Mark) : Prop := ∀ a ∈ l, ∀ b ∈ l, a.hour = b.hour → a = b
theorem NoTwice.tail {x : Mark} {l : List Mark} (h : NoTwice (x :: l)) : NoTwice l := fun a ha b hb => h a (List.mem_cons_of_mem _ ha) b (List.mem_cons_of_mem _ hb)
theorem dd_sub : ∀ {l : List Mark} {x : Mark}, x ∈ dd l → x ∈ l
  | [], x, h => h
  | y :: l, x, h => by
    rw [dd_cons] at h; unfold ddc at h
    cases hd : dd l with
    | nil => rw [hd] at h; exact List.mem_cons.2 (.inl (List.mem_singleton.1 h))
    | cons z r =>
      rw [hd] at h
      dsimp only at h
      split at h
      · exact List.mem_cons_of_mem _ (dd_sub (by rw [hd]; exact h))
      · rcases List.mem_cons.1 h with rfl | h
        · exact List.mem_cons_self
        · exact List.mem_cons_of_mem _ (dd_sub (by rw [hd]; exact h))
theorem dd_mem : ∀ {l : List Mark} {x : Mark}, NoTwice l → (x ∈ dd l ↔ x ∈ l)
  | [], x, _ => Iff.rfl
  | y :: l, x, ht => by
    refine ⟨dd_sub, fun h => ?_⟩
    have ih := fun z => dd_mem (l := l) (x := z) ht.tail
    rw [dd_cons]; unfold ddc
    cases hd : dd l with
    | nil =>
      rcases List.mem_cons.1 h with rfl | h
      · exact List.mem_singleton.2 rfl
      · rw [← ih, hd] at h; exact (List.not_mem_nil h).elim
    | cons z r =>
      dsimp only
      split
      · rename_i he
        have hz : z ∈ l := (ih z).1 (by rw [hd]; exact List.mem_cons_self)
        have : z = y := ht z (List.mem_cons_of_mem _ hz) y List.mem_cons_self he
        rcases List.mem_cons.1 h with rfl | h
        · rw [this]; exact List.mem_cons_self
        · rw [← hd]; exact (ih x).2 h
      · rcases List.mem_cons.1 h with rfl | h
        · exact List.mem_cons_self
        · rw [← hd]; exact List.mem_cons_of_mem _ ((ih x).2 h)
def strictM (l : List Mark) : Prop := l.Pairwise fun a b => a.hour < b.hour
theorem dd_strict : ∀ {l : List Mark}, srtd l → strictM (dd l)
  | [], _ => List.Pairwise.nil
  | y :: l, h => by
    have ih := dd_strict h.2
    rw [dd_cons]; unfold ddc
    cases hd : dd l with
    | nil => exact List.pairwise_singleton _ _
    | cons z r =>
      rw [hd] at ih
      dsimp only
      split
      · exact ih
      · rename_i he
        have hz := h.1 z (dd_sub (by rw [hd]; exact List.mem_cons_self))
        refine List.pairwise_cons.2 ⟨fun w hw => ?_, ih⟩
        rcases List.mem_cons.1 hw with rfl | hw
        · omega
        · have := (List.pairwise_cons.1 ih).1 w hw; omega
theorem dd_fold {β : Type} {f : β → Mark → β} (hf : ∀ b x, f (f b x) x = f b x) : ∀ {l : List Mark} {b : β}, NoTwice l → l.foldl f b = (dd l).foldl f b
  | [], b, _ => rfl
  | x :: l, b, ht => by
    rw [List.foldl_cons, dd_fold hf ht.tail]
    rw [dd_cons]; unfold ddc
    cases hd : dd l with
    | nil => rfl
    | cons z r =>
      dsimp only
      split
      · rename_i he
        have hz : z ∈ l := dd_sub (by rw [hd]; exact List.mem_cons_self)
        have e : z = x := ht z (List.mem_cons_of_mem _ hz) x List.mem_cons_self he
        subst e
        rw [List.foldl_cons, List.foldl_cons, hf]
      · rfl
theorem dd_last : ∀ {l : List Mark}, (dd l).getLast? = l.getLast?
  | [] => rfl
  | x :: l => by
    have ih := dd_last (l := l)
    rw [dd_cons]; unfold ddc
    cases hd : dd l with
    | nil =>
      rw [hd] at ih
      have : l = [] := by rw [List.getLast?_nil] at ih; exact List.getLast?_eq_none_iff.1 ih.symm
      subst this; rfl
    | cons z r =>
      rw [hd] at ih
      have hl : l ≠ [] := fun e => by subst e; rw [List.getLast?_nil] at ih; rw [List.getLast?_eq_none_iff] at ih; cases ih
      obtain ⟨w, q, rfl⟩ := List.exists_cons_of_ne_nil hl
      dsimp only
      split
      · rw [List.getLast?_cons_cons]; exact ih
      · rw [List.getLast?_cons_cons, List.getLast?_cons_cons]; exact ih
theorem badM_dd {s : Slot} {f : Int → Int} : ∀ {l : List Mark}, NoTwice l → badM s f (dd l) = badM s f l
  | [], _ => rfl
  | x :: l, ht => by
    have ih := badM_dd (s := s) (f := f) ht.tail
    rw [badM_cons, ← ih]
    rw [dd_cons]; unfold ddc
    cases hd : dd l with
    | nil => rw [badM_cons]
    | cons z r =>
      dsimp only
      split
      · rename_i he
        have hz : z ∈ l := dd_sub (by rw [hd]; exact List.mem_cons_self)
        have e : z = x := ht z (List.mem_cons_of_mem _ hz) x List.mem_cons_self he
        subst e
        rw [badM_cons]
        split
        · rfl
        · split <;> rfl
      · rw [badM_cons]
theorem strict_ext : ∀ {l q : List Mark}, strictM l → strictM q → (∀ x, x ∈ l ↔ x ∈ q) → l = q
  | [], [], _, _, _ => rfl
  | [], y :: q, _, _, h => ((h y).2 List.mem_cons_self |> List.not_mem_nil).elim
  | x :: l, [], _, _, h => ((h x).1 List.mem_cons_self |> List.not_mem_nil).elim
  | x :: l, y :: q, hl, hq, h => by
    obtain ⟨l1, l2⟩ := List.pairwise_cons.1 hl
    obtain ⟨q1, q2⟩ := List.pairwise_cons.1 hq
    have e : x = y := by
      rcases List.mem_cons.1 ((h x).1 List.mem_cons_self) with e | hx
      · exact e
      · rcases List.mem_cons.1 ((h y).2 List.mem_cons_self) with e | hy
        · exact e.symm
        · have := q1 x hx; have := l1 y hy; omega
    subst e
    rw [strict_ext l2 q2 fun z => ?_]
    constructor
    · intro hz
      rcases List.mem_cons.1 ((h z).1 (List.mem_cons_of_mem _ hz)) with rfl | hz2
      · exact absurd (l1 z hz) (by omega)
      · exact hz2
    · intro hz
      rcases List.mem_cons.1 ((h z).2 (List.mem_cons_of_mem _ hz)) with rfl | hz2
      · exact absurd (q1 z hz) (by omega)
      · exact hz2
theorem noTwice_of {l : List Mark} (h : twiceB l = false) : NoTwice l := fun a ha b hb he => by
  rw [twiceB_eq, List.any_eq_false] at h
  have h1 := h a ha
  rw [Bool.not_eq_true, List.any_eq_false] at h1
  have h2 := h1 b hb
  unfold twP at h2
  rw [decide_eq_true_iff] at h2
  have : a.used = b.used := Decidable.byContradiction fun q => h2 ⟨he, q⟩
  cases a; cases b; simp_all
theorem NoTwice.sorted {l : List Mark} (h : NoTwice l) : NoTwice (sortM l) := fun a ha b hb => h a (sortM_mem.1 ha) b (sortM_mem.1 hb)
theorem errS_0 {s : Slot} (h : errS s = 0) : GoodSlot s ∧ twiceB s.marks = false ∧ crossB s.marks = false := by
  have hg := good_of h
  refine ⟨hg, ?_⟩
  cases ht : twiceB s.marks with
  | true => rw [errS_5 hg ht] at h; exact absurd h (by decide)
  | false =>
    rw [errS_n hg ht] at h
    cases hc : crossB s.marks with
    | true => rw [hc] at h; exact absurd h (by decide)
    | false => exact ⟨rfl, rfl⟩
theorem errS_nt {s : Slot} (h : errS s = 0) : NoTwice s.marks := noTwice_of (errS_0 h).2.1
theorem dm_mem {s : Slot} (h : errS s = 0) {x : Mark} : x ∈ dmS s ↔ x ∈ s.marks := by
  unfold dmS; rw [dd_mem (errS_nt h).sorted]; exact sortM_mem
theorem dm_strict (s : Slot) : strictM (dmS s) := dd_strict (sortM_srtd _)
def qB (s : Slot) (n : List Int) (m : Mark) (b : Int) : Int := if m.hour = endT s (force s.tars m.hour) then nAt s n m.hour else grow (smAt s n m.hour) (feetAt s m.hour) m.used (nAt s n m.hour) b
def stepQ (s : Slot) (n : List Int) (m : Mark) (b : Int) : Option Int := if fitM s n m (qB s n m b) then some (qB s n m b) else none
def foldQ (s : Slot) (n : List Int) (l : List Mark) (b : Int) : Option Int := l.foldl (fun z m => z.bind (stepQ s n m)) (some b)
def stepZ (s : Slot) (n : List Int) (z : Option (Int × Int)) (m : Mark) : Option (Int × Int) := match z with
  | none => none
  | some (a, b) => (stepQ s n m (if (force s.tars m.hour : Int) = a then b else 0)).map fun B => ((force s.tars m.hour : Int), B)
theorem possM_Z (s : Slot) (n : List Int) (l : List Mark) : possM s n l = l.foldl (stepZ s n) (some (-1, 0)) := by
  unfold possM
  refine congrArg (fun f => l.foldl f (some (-1, 0))) (funext fun z => funext fun m => ?_)
  cases z with
  | none => rfl
  | some p =>
    obtain ⟨a, b⟩ := p
    show (if fitM s n m (stepB s n m a b) then some ((force s.tars m.hour : Int), stepB s n m a b) else none) = (stepQ s n m (if (force s.tars m.hour : Int) = a then b else 0)).map fun B => ((force s.tars m.hour : Int), B)
    have e : stepB s n m a b = qB s n m (if (force s.tars m.hour : Int) = a then b else 0) := rfl
    rw [e]
    generalize (if (force s.tars m.hour : Int) = a then b else 0) = c
    unfold stepQ
    split <;> rfl
theorem grow_again {sm f used nk b : Int} : grow sm f used nk (grow sm f used nk b) = grow sm f used nk b := by
  refine grow_stop fun ⟨h1, h2⟩ => ?_
  have key : ∀ (q : Nat) (b : Int), (nk - b).toNat = q → ¬ (grow sm f used nk b < nk ∧ sm + grow sm f used nk b * f < used) := by
    intro q
    induction q with
    | zero =>
      intro b hb
      rw [grow_stop (by omega)]; omega
    | succ q ih =>
      intro b hb
      by_cases hc : b < nk ∧ sm + b * f < used
      · rw [grow_step hc.1 hc.2]; exact ih (b + 1) (by omega)
      · rw [grow_stop hc]; exact hc
  exact key _ b rfl ⟨h1, h2⟩
theorem qB_again {s : Slot} {n : List Int} {m : Mark} {b : Int} : qB s n m (qB s n m b) = qB s n m b := by
  by_cases h : m.hour = endT s (force s.tars m.hour)
  · unfold qB; rw [if_pos h, if_pos h]
  · unfold qB; rw [if_neg h, if_neg h]; exact grow_again
theorem stepQ_again {s : Slot} {n : List Int} {m : Mark} {b B : Int} (h : stepQ s n m b = some B) : stepQ s n m B = some B := by
  unfold stepQ at h
  by_cases hf : fitM s n m (qB s n m b)
  · rw [if_pos hf] at h
    have e := Option.some.inj h
    unfold stepQ
    rw [← e, qB_again, if_pos hf]
  · rw [if_neg hf] at h; cases h
theorem stepZ_again {s : Slot} {n : List Int} (z : Option (Int × Int)) (m : Mark) : stepZ s n (stepZ s n z m) m = stepZ s n z m := by
  cases z with
  | none => rfl
  | some p =>
    obtain ⟨a, b⟩ := p
    cases h : stepQ s n m (if (force s.tars m.hour : Int) = a then b else 0) with
    | none =>
      have e : stepZ s n (some (a, b)) m = none := by unfold stepZ; dsimp only; rw [h]; rfl
      rw [e]; rfl
    | some B =>
      have e : stepZ s n (some (a, b)) m = some ((force s.tars m.hour : Int), B) := by unfold stepZ; dsimp only; rw [h]; rfl
      rw [e]
      unfold stepZ
      dsimp only
      rw [if_pos rfl, stepQ_again h]; rfl
theorem possB_dm {s : Slot} (h : errS s = 0) (n : List Int) : possB s n = ((dmS s).foldl (stepZ s n) (some (-1, 0))).isSome := by
  unfold possB dmS
  rw [possM_Z, dd_fold stepZ_again (errS_nt h).sorted]
theorem foldQ_none {s : Slot} {n : List Int} : ∀ (l : List Mark), l.foldl (fun (z : Option Int) m => z.bind (stepQ s n m)) none = none
  | [] => rfl
  | x :: l => foldQ_none l
theorem foldZ_none {s : Slot} {n : List Int} : ∀ (l : List Mark), l.foldl (stepZ s n) none = none
  | [] => rfl
  | x :: l => foldZ_none l
def ofT (s : Slot) (k : Int) (l : List Mark) : List Mark := l.filter fun m => (force s.tars m.hour : Int) = k
theorem ofT_none {s : Slot} {k : Int} {l : List Mark} (h : ∀ m ∈ l, (force s.tars m.hour : Int) ≠ k) : ofT s k l = [] := List.filter_eq_nil_iff.2 fun m hm => by simpa using h m hm
theorem foldQ_cons {s : Slot} {n : List Int} {m : Mark} {l : List Mark} {b : Int} : foldQ s n (m :: l) b = (stepQ s n m b).bind (foldQ s n l) := by
  unfold foldQ
  rw [List.foldl_cons]
  show l.foldl _ (stepQ s n m b) = _
  cases stepQ s n m b with
  | none => exact foldQ_none l
  | some B => rfl
theorem foldZ_cons {s : Slot} {n : List Int} {m : Mark} {l : List Mark} {a b : Int} : ((m :: l).foldl (stepZ s n) (some (a, b))) = (stepQ s n m (if (force s.tars m.hour : Int) = a then b else 0)).bind fun B => l.foldl (stepZ s n) (some ((force s.tars m.hour : Int), B)) := by
  rw [List.foldl_cons]
  show l.foldl (stepZ s n) ((stepQ s n m _).map _) = _
  cases stepQ s n m _ with
  | none => exact foldZ_none l
  | some B => rfl
theorem groups {s : Slot} {n : List Int} : ∀ {l : List Mark} {a b : Int}, l.Pairwise (fun x y => force s.tars x.hour ≤ force s.tars y.hour) → (∀ m ∈ l, a ≤ (force s.tars m.hour : Int)) →
    ((l.foldl (stepZ s n) (some (a, b))).isSome = true ↔ (foldQ s n (ofT s a l) b).isSome = true ∧ ∀ k : Int, a < k → (foldQ s n (ofT s k l) 0).isSome = true)
  | [], a, b, _, _ => ⟨fun _ => ⟨rfl, fun _ _ => rfl⟩, fun _ => rfl⟩
  | m :: l, a, b, hp, ha => by
    obtain ⟨p1, p2⟩ := List.pairwise_cons.1 hp
    have hma := ha m List.mem_cons_self
    obtain ⟨K, hK⟩ : ∃ K : Int, (force s.tars m.hour : Int) = K := ⟨_, rfl⟩
    rw [hK] at hma
    have hl : ∀ x ∈ l, K ≤ (force s.tars x.hour : Int) := fun x hx => by have := p1 x hx; omega
    rw [foldZ_cons, hK]
    have hKc : ofT s K (m :: l) = m :: ofT s K l := by unfold ofT; rw [List.filter_cons_of_pos (by simpa using hK)]
    have hoc : ∀ k : Int, k ≠ K → ofT s k (m :: l) = ofT s k l := fun k hk => by unfold ofT; rw [List.filter_cons_of_neg (by simpa [hK] using fun e => hk e.symm)]
    by_cases e : K = a
    · subst e
      rw [if_pos rfl, hKc, foldQ_cons]
      cases hs : stepQ s n m b with
      | none => simp
      | some B =>
        rw [Option.bind_some, Option.bind_some, groups p2 hl]
        constructor
        · rintro ⟨h1, h2⟩; exact ⟨h1, fun k hk => by rw [hoc k (by omega)]; exact h2 k hk⟩
        · rintro ⟨h1, h2⟩; exact ⟨h1, fun k hk => by rw [← hoc k (by omega)]; exact h2 k hk⟩
    · rw [if_neg e]
      have hno : ofT s a (m :: l) = [] := ofT_none fun x hx => by
        rcases List.mem_cons.1 hx with rfl | hx
        · omega
        · have := hl x hx; omega
      rw [hno]
      cases hs : stepQ s n m 0 with
      | none =>
        constructor
        · intro h; exact absurd h (by simp)
        · rintro ⟨_, h2⟩
          have := h2 K (by omega)
          rw [hKc, foldQ_cons, hs] at this
          exact absurd this (by simp)
      | some B =>
        rw [Option.bind_some, groups p2 hl]
        constructor
        · rintro ⟨h1, h2⟩
          refine ⟨rfl, fun k hk => ?_⟩
          by_cases ek : k = K
          · subst ek; rw [hKc, foldQ_cons, hs]; exact h1
          · rw [hoc k ek]
            by_cases hkK : K < k
            · exact h2 k hkK
            · rw [ofT_none fun x hx => by have := hl x hx; omega]; rfl
        · rintro ⟨_, h2⟩
          have hk := h2 K (by omega)
          rw [hKc, foldQ_cons, hs] at hk
          exact ⟨hk, fun k hk => by rw [← hoc k (by omega)]; exact h2 k (by omega)⟩
end Go.Proofs.Ytlcdbjgfeoagbaa
