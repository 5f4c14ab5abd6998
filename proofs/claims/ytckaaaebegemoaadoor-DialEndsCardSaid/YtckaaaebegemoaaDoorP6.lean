/-
  A round that shows what truly went: what is answered of it.
-/
import Derived.Test.YtckaaaebegemoaaDoorP5
set_option linter.all false
namespace Go.Proofs.YtckaaaebegemoaaDoor
open Go Go.H
structure TR (r : Rnd) (house : Int) (d : Dial) (G at_ : List Int) : Prop where
  good : GoodRnd r
  ho : houseOk r house
  da : dialAt r.dials house = d
  hd : dialOk d
  inr : InRate d G
  len : G.length ≤ 1048576
  up : Up at_
  inG : ∀ x ∈ at_, 0 ≤ x ∧ x ≤ G.length
  sh : Shown d house G at_ r.cards
section
variable {r : Rnd} {house : Int} {d : Dial} {G at_ : List Int}
theorem TR.rise (T : TR r house d G at_) : Rise r.cards := T.sh.rise T.up
theorem TR.read (T : TR r house d G at_) : readL r.cards house = some r.cards := read_eq T.rise fun x => ⟨fun h => ⟨h, T.sh.house x h⟩, fun h => h.1⟩
theorem TR.hours (T : TR r house d G at_) : ∀ c ∈ r.cards, 0 ≤ c.hour ∧ c.hour ≤ G.length := fun c hc => by
  obtain ⟨i, hi⟩ := List.getElem?_of_mem hc
  exact T.inG _ (List.mem_of_getElem? (T.sh.hour i c hi))
theorem TR.fit (T : TR r house d G at_) {i : Nat} {a b : Card} (ha : r.cards[i]? = some a) (hb : r.cards[i + 1]? = some b) : ∃ s, btw d a b = some s ∧ s.lo ≤ SG G a.hour b.hour ∧ SG G a.hour b.hour ≤ s.hi :=
  btw_fits T.hd (Int.le_of_lt (T.rise.get (Nat.lt_succ_self i) ha hb)) (T.sh.fits T.hd T.inr T.up T.inG ha hb)
theorem TR.pairs (T : TR r house d G at_) : ∃ out, pairsL d r.cards = some out ∧ out.length = r.cards.length - 1 ∧ ∀ (i : Nat) (a b : Card) (s : Span), r.cards[i]? = some a → r.cards[i + 1]? = some b → out[i]? = some s → btw d a b = some s ∧ s.lo ≤ SG G a.hour b.hour ∧ SG G a.hour b.hour ≤ s.hi := by
  obtain ⟨out, ho⟩ := pairs_all fun i a b ha hb => (T.fit ha hb).imp fun s h => h.1
  refine ⟨out, ho, pairs_len ho, fun i a b s ha hb hs => ?_⟩
  have e := pairs_get ho ha hb hs
  obtain ⟨s2, e2, h⟩ := T.fit ha hb
  rw [e] at e2
  cases e2
  exact ⟨e, h⟩
end
/-! ### Two rounds that the laws make -/
section
variable {bD : Nat} {d : Dial} {a : Option Addr} {c : Nat} {cs : List Card} {G at_ : List Int} {h : Hp}
end
end Go.Proofs.YtckaaaebegemoaaDoor
