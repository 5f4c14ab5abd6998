/-
  Which way a question goes; cards that are turned.
-/
import Derived.Test.YtckaaaebegemoaaDoorP8
import Derived.Test.YtckaaaebegemoaaDoorP4
set_option linter.all false
namespace Go.Proofs.YtckaaaebegemoaaDoor
open Go Go.H
theorem hours2 {f t : Int} : HoursOk [f, t] ↔ (0 ≤ f ∧ f ≤ 1048576) ∧ 0 ≤ t ∧ t ≤ 1048576 := by
  unfold HoursOk hourOk
  constructor
  · intro h; exact ⟨h f (by simp), h t (by simp)⟩
  · intro h x hx
    simp only [List.mem_cons, List.not_mem_nil, or_false] at hx
    rcases hx with rfl | rfl
    · exact h.1
    · exact h.2
section
variable {r : Rnd} {house f t : Int}
theorem ends_cases : (∃ e1 e2 : Int, e1 ≠ 0 ∧ e2 ≠ 0 ∧ pairsAns r house = ([], e1) ∧ gasAns r house f t = (⟨0, 0⟩, e2)) ∨
    ∃ l out, GoodRnd r ∧ houseOk r house ∧ readL r.cards house = some l ∧ pairsL (dialAt r.dials house) l = some out ∧ pairsAns r house = (out, 0) ∧
      ((∃ e2 : Int, e2 ≠ 0 ∧ gasAns r house f t = (⟨0, 0⟩, e2) ∧ (f < 0 ∨ f > t ∨ t > 1048576)) ∨ (0 ≤ f ∧ f ≤ t ∧ t ≤ 1048576 ∧ gasAns r house f t = (gasR (dialAt r.dials house) f t l out, 0))) := by
  by_cases hg : GoodRnd r
  · by_cases ho : houseOk r house
    · cases hr : readL r.cards house with
      | none =>
        refine .inl ?_
        by_cases hh : HoursOk [f, t]
        · exact ⟨5, 5, by decide, by decide, pairsAns_e (start_5 hg ho nohrs hr), gasAns_e (start_5 hg ho hh hr)⟩
        · exact ⟨5, 2, by decide, by decide, pairsAns_e (start_5 hg ho nohrs hr), gasAns_e (start_2 hg (fun q => hh q.2))⟩
      | some l =>
        cases hp : pairsL (dialAt r.dials house) l with
        | none =>
          refine .inl ?_
          by_cases hh : HoursOk [f, t]
          · by_cases hft : f > t
            · exact ⟨6, 2, by decide, by decide, pairsAns_n (start_0 hg ho nohrs hr) hp, gasAns_o (start_0 hg ho hh hr) hft⟩
            · exact ⟨6, 6, by decide, by decide, pairsAns_n (start_0 hg ho nohrs hr) hp, gasAns_n (start_0 hg ho hh hr) hft hp⟩
          · exact ⟨6, 2, by decide, by decide, pairsAns_n (start_0 hg ho nohrs hr) hp, gasAns_e (start_2 hg (fun q => hh q.2))⟩
        | some out =>
          refine .inr ⟨l, out, hg, ho, rfl, hp, pairsAns_s (start_0 hg ho nohrs hr) hp, ?_⟩
          by_cases hh : HoursOk [f, t]
          · have h2 := hours2.1 hh
            by_cases hft : f > t
            · exact .inl ⟨2, by decide, gasAns_o (start_0 hg ho hh hr) hft, .inr (.inl hft)⟩
            · exact .inr ⟨h2.1.1, by omega, h2.2.2, gasAns_s (start_0 hg ho hh hr) hft hp⟩
          · exact .inl ⟨2, by decide, gasAns_e (start_2 hg (fun q => hh q.2)), by rw [hours2] at hh; omega⟩
    · exact .inl ⟨2, 2, by decide, by decide, pairsAns_e (start_2 hg (fun q => ho q.1)), gasAns_e (start_2 hg (fun q => ho q.1))⟩
  · exact .inl ⟨1, 1, by decide, by decide, pairsAns_e (start_1 hg), gasAns_e (start_1 hg)⟩
theorem ends_cases2 : (∃ e1 e2 : Int, e1 ≠ 0 ∧ e2 ≠ 0 ∧ pairsAns r house = ([], e1) ∧ gasAns r house f t = (⟨0, 0⟩, e2)) ∨
    ∃ (l : List Card) (out : List Span) (gs : Span) (ee : Int), GoodRnd r ∧ houseOk r house ∧ readL r.cards house = some l ∧ pairsL (dialAt r.dials house) l = some out ∧ pairsAns r house = (out, 0) ∧ gasAns r house f t = (gs, ee) ∧
      ((ee ≠ 0 ∧ gs = ⟨0, 0⟩ ∧ (f < 0 ∨ f > t ∨ t > 1048576)) ∨ (ee = 0 ∧ 0 ≤ f ∧ f ≤ t ∧ t ≤ 1048576 ∧ gs = gasR (dialAt r.dials house) f t l out)) := by
  rcases ends_cases (r := r) (house := house) (f := f) (t := t) with h | ⟨l, out, h1, h2, h3, h4, h5, ⟨e2, h6, h7, h8⟩ | ⟨h6, h7, h8, h9⟩⟩
  · exact .inl h
  · exact .inr ⟨l, out, _, e2, h1, h2, h3, h4, h5, h7, .inl ⟨h6, rfl, h8⟩⟩
  · exact .inr ⟨l, out, _, 0, h1, h2, h3, h4, h5, h9, .inr ⟨rfl, h6, h7, h8, rfl⟩⟩
theorem gas_ok {l : List Card} {out : List Span} (hg : GoodRnd r) (ho : houseOk r house) (hr : readL r.cards house = some l) (hp : pairsL (dialAt r.dials house) l = some out) (h0 : 0 ≤ f) (h1 : f ≤ t) (h2 : t ≤ 1048576) : gasAns r house f t = (gasR (dialAt r.dials house) f t l out, 0) :=
  gasAns_s (start_0 hg ho (hours2.2 ⟨⟨h0, by omega⟩, by omega, h2⟩) hr) (by omega) hp
end
theorem outs_bd {d : Dial} {l : List Card} {out : List Span} (hd : dialOk d) (hr : Rise l) (hl : ∀ c ∈ l, ReadOk d c) (hp : pairsL d l = some out) : ∀ s ∈ out, 0 ≤ s.lo ∧ s.lo ≤ s.hi ∧ s.hi ≤ 10485760000 := by
  intro s hs
  obtain ⟨i, hi⟩ := List.getElem?_of_mem hs
  have hlen := pairs_len hp
  have hlt := (List.getElem?_eq_some_iff.1 hi).1
  have ha := List.getElem?_eq_getElem (l := l) (i := i) (by omega)
  have hb := List.getElem?_eq_getElem (l := l) (i := i + 1) (by omega)
  have hab := hr.get (Nat.lt_succ_self i) ha hb
  have hS := btw_some hd (Int.le_of_lt hab) (pairs_get hp ha hb hi)
  have h1 := (hl _ (List.mem_of_getElem? ha)).1
  have h2 := (hl _ (List.mem_of_getElem? hb)).1
  unfold hourOk at h1 h2
  have hl0 := (least_bd (a := l[i]) (b := l[i + 1]) hd).1
  have hm := mul_bdI (a := d.rate.hi) (A := 10000) (x := l[i + 1].hour - l[i].hour) (B := 1048576) (by have := hd.2.2.1; have := hd.2.2.2.1; omega) hd.2.2.2.2 (by omega) (by omega) (by omega)
  omega
theorem out_at {d : Dial} {l : List Card} {out : List Span} {i : Nat} {s : Span} (hd : dialOk d) (hr : Rise l) (hl : ∀ c ∈ l, ReadOk d c) (hp : pairsL d l = some out) (hs : out[i]? = some s) : 0 ≤ s.lo ∧ s.lo ≤ s.hi ∧ s.hi ≤ 10485760000 := outs_bd hd hr hl hp s (List.mem_of_getElem? hs)
/-! ### Cards that are turned -/
/-- The first cards, from one on, round and round. -/
def Rot (cs : List Card) (n : Nat) (k : Nat) (xs : List Card) : Prop := xs.length = k ∧ ∀ i, i < k → xs[i]? = cs[(i + n) % cs.length]?
theorem Rot.sub {cs xs : List Card} {n k : Nat} (H : Rot cs n k xs) : ∀ c ∈ xs, c ∈ cs := fun c hc => by
  obtain ⟨i, hi⟩ := List.getElem?_of_mem hc
  have := (List.getElem?_eq_some_iff.1 hi).1
  rw [H.1] at this
  rw [H.2 i this] at hi
  exact List.mem_of_getElem? hi
theorem Rot.all {cs xs : List Card} {n : Nat} (H : Rot cs n cs.length xs) : ∀ c, c ∈ xs ↔ c ∈ cs := fun c => by
  refine ⟨H.sub c, fun hc => ?_⟩
  obtain ⟨j, hj⟩ := List.getElem?_of_mem hc
  have hl := (List.getElem?_eq_some_iff.1 hj).1
  have hm : n % cs.length < cs.length := Nat.mod_lt _ (by omega)
  have key : ∃ i, i < cs.length ∧ (i + n) % cs.length = j := by
    by_cases h : n % cs.length ≤ j
    · refine ⟨j - n % cs.length, by omega, ?_⟩
      rw [← Nat.add_mod_mod, show j - n % cs.length + n % cs.length = j by omega, Nat.mod_eq_of_lt hl]
    · refine ⟨j + cs.length - n % cs.length, by omega, ?_⟩
      rw [← Nat.add_mod_mod, show j + cs.length - n % cs.length + n % cs.length = j + cs.length by omega, Nat.add_mod_right, Nat.mod_eq_of_lt hl]
  obtain ⟨i, h1, h2⟩ := key
  have h3 := H.2 i h1
  rw [h2, hj] at h3
  exact List.mem_of_getElem? h3
def Own_ (house : Int) (xs ys : List Card) : Prop := ys.length ≤ xs.length ∧ ∀ c, c ∈ ys ↔ c ∈ xs ∧ c.house = house
theorem Own_.no {house : Int} {xs ys : List Card} {c : Card} (H : Own_ house xs ys) (h : ¬ c.house = house) : Own_ house (xs ++ [c]) ys := by
  refine ⟨by simp only [List.length_append, List.length_singleton]; have := H.1; omega, fun x => ?_⟩
  simp only [List.mem_append, List.mem_singleton, H.2]
  constructor
  · rintro ⟨h1, h2⟩; exact ⟨.inl h1, h2⟩
  · rintro ⟨h1 | rfl, h2⟩
    · exact ⟨h1, h2⟩
    · exact absurd h2 h
/-- Cards that answer as those of the round do. -/
structure Same (cs : List Card) (house : Int) (xs : List Card) : Prop where
  len : xs.length ≤ 48
  sub : ∀ c ∈ xs, c ∈ cs
  own : ∀ c : Card, c.house = house → (c ∈ xs ↔ c ∈ cs)
section
variable {r : Rnd} {house : Int} {a : Option Addr} {c : Nat} {xs : List Card}
end
/-! ### Where hours part -/
end Go.Proofs.YtckaaaebegemoaaDoor
