/-
  A round that shows what truly went: what is answered of it.
-/
import Derived.Test.YtckaaaebegemoaaDoorP5
set_option linter.all false
namespace Go.Proofs.YtckaaaebegemoaaDoor
open Go Go.H
def eH (n : Int) : List Value := [.int .u16 n]
theorem shown_nil {d : Dial} {house : Int} {G : List Int} : Shown d house G [] [] := ⟨rfl, fun i c h => (by simp at h), fun c h => (by cases h), fun c h => (by cases h), fun i a b h => (by simp at h)⟩
theorem Shown.snoc {d : Dial} {house : Int} {G at_ : List Int} {cs : List Card} {i : Nat} {x n : Int} (H : Shown d house G (at_.take i) cs) (hi : cs.length = i) (hx : at_[i]? = some x) (hn : 0 ≤ n ∧ n ≤ turnI d.digits - 1)
    (hw : ∀ a, 0 < i → cs[i - 1]? = some a → ∃ w, 0 ≤ w ∧ w ≤ SG G a.hour x ∧ (d.sticks = false → w = SG G a.hour x) ∧ n = (a.shows + w) % turnI d.digits) : Shown d house G (at_.take (i + 1)) (cs ++ [⟨house, x, n⟩]) where
  len := by rw [List.length_append, List.take_add_one, hx, List.length_append, H.len]; rfl
  hour := fun j c h => by
    rw [List.take_add_one, hx]
    have hl := H.len
    by_cases hj : j < cs.length
    · rw [List.getElem?_append_left hj] at h
      rw [List.getElem?_append_left (by omega)]
      exact H.hour j c h
    · rw [List.getElem?_append_right (by omega)] at h
      rw [List.getElem?_append_right (by omega), ← hl]
      have e : j - cs.length = 0 := by have := (List.getElem?_eq_some_iff.1 h).1; simp at this; omega
      rw [e] at h ⊢
      simp at h
      subst h
      rfl
  house := fun c h => by
    rcases List.mem_append.1 h with h | h
    · exact H.house c h
    · rw [List.mem_singleton.1 h]
  shows := fun c h => by
    rcases List.mem_append.1 h with h | h
    · exact H.shows c h
    · rw [List.mem_singleton.1 h]; exact hn
  step := fun j a b ha hb => by
    by_cases hj : j + 1 < cs.length
    · rw [List.getElem?_append_left (by omega)] at ha
      rw [List.getElem?_append_left hj] at hb
      exact H.step j a b ha hb
    · have hlt := (List.getElem?_eq_some_iff.1 hb).1
      rw [List.length_append, List.length_singleton] at hlt
      have hje : j = i - 1 := by omega
      rw [List.getElem?_append_left (by omega)] at ha
      rw [List.getElem?_append_right (by omega)] at hb
      rw [show j + 1 - cs.length = 0 by omega] at hb
      simp at hb
      subst hb
      rw [hje] at ha
      exact hw a (by omega) ha
structure TR (r : Rnd) (house : Int) (d : Dial) (G at_ : List Int) : Prop where
  good : GoodRnd r
  ho : houseOk r house
  da : dialAt r.dials house = d
  hd : dialOk d
  inr : InRate d G
  len : G.length ≤ 1048576
  up : Up at_
  inG : ∀ x ∈ at_, 0 ≤ x ∧ x ≤ G.length
  sh : Shown d house G at_ r.cards
section
variable {r : Rnd} {house : Int} {d : Dial} {G at_ : List Int}
theorem TR.rise (T : TR r house d G at_) : Rise r.cards := T.sh.rise T.up
theorem TR.read (T : TR r house d G at_) : readL r.cards house = some r.cards := read_eq T.rise fun x => ⟨fun h => ⟨h, T.sh.house x h⟩, fun h => h.1⟩
theorem TR.hours (T : TR r house d G at_) : ∀ c ∈ r.cards, 0 ≤ c.hour ∧ c.hour ≤ G.length := fun c hc => by
  obtain ⟨i, hi⟩ := List.getElem?_of_mem hc
  exact T.inG _ (List.mem_of_getElem? (T.sh.hour i c hi))
theorem TR.fit (T : TR r house d G at_) {i : Nat} {a b : Card} (ha : r.cards[i]? = some a) (hb : r.cards[i + 1]? = some b) : ∃ s, btw d a b = some s ∧ s.lo ≤ SG G a.hour b.hour ∧ SG G a.hour b.hour ≤ s.hi :=
  btw_fits T.hd (Int.le_of_lt (T.rise.get (Nat.lt_succ_self i) ha hb)) (T.sh.fits T.hd T.inr T.up T.inG ha hb)
theorem TR.pairs (T : TR r house d G at_) : ∃ out, pairsL d r.cards = some out ∧ out.length = r.cards.length - 1 ∧ ∀ (i : Nat) (a b : Card) (s : Span), r.cards[i]? = some a → r.cards[i + 1]? = some b → out[i]? = some s → btw d a b = some s ∧ s.lo ≤ SG G a.hour b.hour ∧ SG G a.hour b.hour ≤ s.hi := by
  obtain ⟨out, ho⟩ := pairs_all fun i a b ha hb => (T.fit ha hb).imp fun s h => h.1
  refine ⟨out, ho, pairs_len ho, fun i a b s ha hb hs => ?_⟩
  have e := pairs_get ho ha hb hs
  obtain ⟨s2, e2, h⟩ := T.fit ha hb
  rw [e] at e2
  cases e2
  exact ⟨e, h⟩
theorem TR.start (T : TR r house d G at_) {hs : List Int} (hh : HoursOk hs) : startF r house hs = .ok r.cards := start_0 T.good T.ho hh T.read
end
theorem holds2b {h : Hp} {b1 b2 : Nat} {o1 o2 : Obj} {p1 p2 : Obj → Prop} (m1 : (b1, o1) ∈ h) (q1 : p1 o1) (m2 : (b2, o2) ∈ h) (q2 : p2 o2) : Holds [(b1, p1), (b2, p2)] h := fun b' p' hb => by
  simp only [List.mem_cons, List.not_mem_nil, or_false, Prod.mk.injEq] at hb
  rcases hb with ⟨rfl, rfl⟩ | ⟨rfl, rfl⟩
  · exact ⟨o1, m1, q1⟩
  · exact ⟨o2, m2, q2⟩
theorem Up.snoc {l : List Int} {x : Int} (H : Up l) (h : ∀ y ∈ l, y < x) : Up (l ++ [x]) := by
  unfold Up
  rw [List.pairwise_append]
  exact ⟨H, by simp, fun a ha b hb => by rw [List.mem_singleton.1 hb]; exact h a ha⟩
/-! ### Two rounds that the laws make -/
def rOne (bD : Nat) (d : Dial) (a : Option Addr) (c : Nat) (cs : List Card) : Rnd := ⟨some ⟨bD, 0, none⟩, 1, [d], a, c, cs⟩
section
variable {bD : Nat} {d : Dial} {a : Option Addr} {c : Nat} {cs : List Card} {G at_ : List Int} {h : Hp}
theorem one_tr (hd : dialOk d) (hG : InRate d G) (hgl : G.length ≤ 1048576) (hup : Up at_) (hin : ∀ x ∈ at_, 0 ≤ x ∧ x ≤ G.length) (hal : at_.length ≤ 48) (hsh : Shown d 0 G at_ cs) : TR (rOne bD d a c cs) 0 d G at_ where
  good := ⟨by show 1 ≤ 1; decide, by show 1 ≤ 8; decide, fun x hx => by
      have : x = d := by simpa [rOne] using hx
      rw [this]; exact hd, by show cs.length ≤ 48; rw [hsh.len]; exact hal, fun x hx => by
      have hx : x ∈ cs := hx
      obtain ⟨i, hi⟩ := List.getElem?_of_mem hx
      have h1 := hin _ (List.mem_of_getElem? (hsh.hour i x hi))
      have h2 := hsh.shows x hx
      have h3 : dialAt (rOne bD d a c cs).dials x.house = d := by rw [hsh.house x hx]; rfl
      refine ⟨by rw [hsh.house x hx]; exact ⟨by decide, by show (0 : Int) ≤ ((1 : Nat) : Int) - 1; decide⟩, ⟨h1.1, by omega⟩, h2.1, ?_⟩
      rw [h3]; exact h2.2⟩
  ho := ⟨by decide, by show (0 : Int) ≤ ((1 : Nat) : Int) - 1; decide⟩
  da := rfl
  hd := hd
  inr := hG
  len := hgl
  up := hup
  inG := hin
  sh := hsh
theorem one_v (hm : (bD, .cells ⟨[I d.digits, I d.rate.lo, I d.rate.hi, .bool d.sticks]⟩ 45 (0, 0)) ∈ h) (hc : SlV h 3 eCard a cs) : RndV h (rOne bD d a c cs) := ⟨slvL (xs := [d]) eDial_len hm, hc⟩
theorem one_s (h : cs.length ≤ 52) : Small (rOne bD d a c cs) := ⟨by show 1 ≤ 12; decide, h⟩
end
end Go.Proofs.YtckaaaebegemoaaDoor
