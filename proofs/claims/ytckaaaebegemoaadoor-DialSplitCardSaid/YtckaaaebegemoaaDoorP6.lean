/-
  A round that shows what truly went: what is answered of it.
-/
import Derived.Test.YtckaaaebegemoaaDoorP5
set_option linter.all false
namespace Go.Proofs.YtckaaaebegemoaaDoor
open Go Go.H
theorem Shown.snoc {d : Dial} {house : Int} {G at_ : List Int} {cs : List Card} {i : Nat} {x n : Int} (H : Shown d house G (at_.take i) cs) (hi : cs.length = i) (hx : at_[i]? = some x) (hn : 0 ≤ n ∧ n ≤ turnI d.digits - 1)
    (hw : ∀ a, 0 < i → cs[i - 1]? = some a → ∃ w, 0 ≤ w ∧ w ≤ SG G a.hour x ∧ (d.sticks = false → w = SG G a.hour x) ∧ n = (a.shows + w) % turnI d.digits) : Shown d house G (at_.take (i + 1)) (cs ++ [⟨house, x, n⟩]) where
  len := by rw [List.length_append, List.take_add_one, hx, List.length_append, H.len]; rfl
  hour := fun j c h => by
    rw [List.take_add_one, hx]
    have hl := H.len
    by_cases hj : j < cs.length
    · rw [List.getElem?_append_left hj] at h
      rw [List.getElem?_append_left (by omega)]
      exact H.hour j c h
    · rw [List.getElem?_append_right (by omega)] at h
      rw [List.getElem?_append_right (by omega), ← hl]
      have e : j - cs.length = 0 := by have := (List.getElem?_eq_some_iff.1 h).1; simp at this; omega
      rw [e] at h ⊢
      simp at h
      subst h
      rfl
  house := fun c h => by
    rcases List.mem_append.1 h with h | h
    · exact H.house c h
    · rw [List.mem_singleton.1 h]
  shows := fun c h => by
    rcases List.mem_append.1 h with h | h
    · exact H.shows c h
    · rw [List.mem_singleton.1 h]; exact hn
  step := fun j a b ha hb => by
    by_cases hj : j + 1 < cs.length
    · rw [List.getElem?_append_left (by omega)] at ha
      rw [List.getElem?_append_left hj] at hb
      exact H.step j a b ha hb
    · have hlt := (List.getElem?_eq_some_iff.1 hb).1
      rw [List.length_append, List.length_singleton] at hlt
      have hje : j = i - 1 := by omega
      rw [List.getElem?_append_left (by omega)] at ha
      rw [List.getElem?_append_right (by omega)] at hb
      rw [show j + 1 - cs.length = 0 by omega] at hb
      simp at hb
      subst hb
      rw [hje] at ha
      exact hw a (by omega) ha
structure TR (r : Rnd) (house : Int) (d : Dial) (G at_ : List Int) : Prop where
  good : GoodRnd r
  ho : houseOk r house
  da : dialAt r.dials house = d
  hd : dialOk d
  inr : InRate d G
  len : G.length ≤ 1048576
  up : Up at_
  inG : ∀ x ∈ at_, 0 ≤ x ∧ x ≤ G.length
  sh : Shown d house G at_ r.cards
section
variable {r : Rnd} {house : Int} {d : Dial} {G at_ : List Int}
theorem TR.rise (T : TR r house d G at_) : Rise r.cards := T.sh.rise T.up
theorem TR.read (T : TR r house d G at_) : readL r.cards house = some r.cards := read_eq T.rise fun x => ⟨fun h => ⟨h, T.sh.house x h⟩, fun h => h.1⟩
theorem TR.hours (T : TR r house d G at_) : ∀ c ∈ r.cards, 0 ≤ c.hour ∧ c.hour ≤ G.length := fun c hc => by
  obtain ⟨i, hi⟩ := List.getElem?_of_mem hc
  exact T.inG _ (List.mem_of_getElem? (T.sh.hour i c hi))
theorem TR.fit (T : TR r house d G at_) {i : Nat} {a b : Card} (ha : r.cards[i]? = some a) (hb : r.cards[i + 1]? = some b) : ∃ s, btw d a b = some s ∧ s.lo ≤ SG G a.hour b.hour ∧ SG G a.hour b.hour ≤ s.hi :=
  btw_fits T.hd (Int.le_of_lt (T.rise.get (Nat.lt_succ_self i) ha hb)) (T.sh.fits T.hd T.inr T.up T.inG ha hb)
theorem TR.pairs (T : TR r house d G at_) : ∃ out, pairsL d r.cards = some out ∧ out.length = r.cards.length - 1 ∧ ∀ (i : Nat) (a b : Card) (s : Span), r.cards[i]? = some a → r.cards[i + 1]? = some b → out[i]? = some s → btw d a b = some s ∧ s.lo ≤ SG G a.hour b.hour ∧ SG G a.hour b.hour ≤ s.hi := by
  obtain ⟨out, ho⟩ := pairs_all fun i a b ha hb => (T.fit ha hb).imp fun s h => h.1
  refine ⟨out, ho, pairs_len ho, fun i a b s ha hb hs => ?_⟩
  have e := pairs_get ho ha hb hs
  obtain ⟨s2, e2, h⟩ := T.fit ha hb
  rw [e] at e2
  cases e2
  exact ⟨e, h⟩
end
theorem Up.snoc {l : List Int} {x : Int} (H : Up l) (h : ∀ y ∈ l, y < x) : Up (l ++ [x]) := by
  unfold Up
  rw [List.pairwise_append]
  exact ⟨H, by simp, fun a ha b hb => by rw [List.mem_singleton.1 hb]; exact h a ha⟩
/-! ### Two rounds that the laws make -/
section
variable {bD : Nat} {d : Dial} {a : Option Addr} {c : Nat} {cs : List Card} {G at_ : List Int} {h : Hp}
end
end Go.Proofs.YtckaaaebegemoaaDoor
