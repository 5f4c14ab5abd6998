/-
  Which way a question goes; cards that are turned.
-/
import Derived.Test.YtckaaaebegemoaaDoorP8
import Derived.Test.YtckaaaebegemoaaDoorP4
set_option linter.all false
namespace Go.Proofs.YtckaaaebegemoaaDoor
open Go Go.H
theorem hours2 {f t : Int} : HoursOk [f, t] ↔ (0 ≤ f ∧ f ≤ 1048576) ∧ 0 ≤ t ∧ t ≤ 1048576 := by
  unfold HoursOk hourOk
  constructor
  · intro h; exact ⟨h f (by simp), h t (by simp)⟩
  · intro h x hx
    simp only [List.mem_cons, List.not_mem_nil, or_false] at hx
    rcases hx with rfl | rfl
    · exact h.1
    · exact h.2
section
variable {r : Rnd} {house f t : Int}
theorem ends_cases : (∃ e1 e2 : Int, e1 ≠ 0 ∧ e2 ≠ 0 ∧ pairsAns r house = ([], e1) ∧ gasAns r house f t = (⟨0, 0⟩, e2)) ∨
    ∃ l out, GoodRnd r ∧ houseOk r house ∧ readL r.cards house = some l ∧ pairsL (dialAt r.dials house) l = some out ∧ pairsAns r house = (out, 0) ∧
      ((∃ e2 : Int, e2 ≠ 0 ∧ gasAns r house f t = (⟨0, 0⟩, e2) ∧ (f < 0 ∨ f > t ∨ t > 1048576)) ∨ (0 ≤ f ∧ f ≤ t ∧ t ≤ 1048576 ∧ gasAns r house f t = (gasR (dialAt r.dials house) f t l out, 0))) := by
  by_cases hg : GoodRnd r
  · by_cases ho : houseOk r house
    · cases hr : readL r.cards house with
      | none =>
        refine .inl ?_
        by_cases hh : HoursOk [f, t]
        · exact ⟨5, 5, by decide, by decide, pairsAns_e (start_5 hg ho nohrs hr), gasAns_e (start_5 hg ho hh hr)⟩
        · exact ⟨5, 2, by decide, by decide, pairsAns_e (start_5 hg ho nohrs hr), gasAns_e (start_2 hg (fun q => hh q.2))⟩
      | some l =>
        cases hp : pairsL (dialAt r.dials house) l with
        | none =>
          refine .inl ?_
          by_cases hh : HoursOk [f, t]
          · by_cases hft : f > t
            · exact ⟨6, 2, by decide, by decide, pairsAns_n (start_0 hg ho nohrs hr) hp, gasAns_o (start_0 hg ho hh hr) hft⟩
            · exact ⟨6, 6, by decide, by decide, pairsAns_n (start_0 hg ho nohrs hr) hp, gasAns_n (start_0 hg ho hh hr) hft hp⟩
          · exact ⟨6, 2, by decide, by decide, pairsAns_n (start_0 hg ho nohrs hr) hp, gasAns_e (start_2 hg (fun q => hh q.2))⟩
        | some out =>
          refine .inr ⟨l, out, hg, ho, rfl, hp, pairsAns_s (start_0 hg ho nohrs hr) hp, ?_⟩
          by_cases hh : HoursOk [f, t]
          · have h2 := hours2.1 hh
            by_cases hft : f > t
            · exact .inl ⟨2, by decide, gasAns_o (start_0 hg ho hh hr) hft, .inr (.inl hft)⟩
            · exact .inr ⟨h2.1.1, by omega, h2.2.2, gasAns_s (start_0 hg ho hh hr) hft hp⟩
          · exact .inl ⟨2, by decide, gasAns_e (start_2 hg (fun q => hh q.2)), by rw [hours2] at hh; omega⟩
    · exact .inl ⟨2, 2, by decide, by decide, pairsAns_e (start_2 hg (fun q => ho q.1)), gasAns_e (start_2 hg (fun q => ho q.1))⟩
  · exact .inl ⟨1, 1, by decide, by decide, pairsAns_e (start_1 hg), gasAns_e (start_1 hg)⟩
theorem split_cases : (¬ GoodRnd r ∧ gasAns r house f t = (⟨0, 0⟩, 1) ∧ susAns r house = ([], 1) ∧ dueAns r house = (0, 1)) ∨
    (GoodRnd r ∧ ¬ houseOk r house ∧ gasAns r house f t = (⟨0, 0⟩, 2) ∧ susAns r house = ([], 2) ∧ dueAns r house = (0, 2)) ∨
    (GoodRnd r ∧ houseOk r house ∧ ∃ e : Int, e ≠ 0 ∧ e ≠ 1 ∧ gasAns r house f t = (⟨0, 0⟩, e)) ∨
    (GoodRnd r ∧ houseOk r house ∧ ∃ l out, readL r.cards house = some l ∧ pairsL (dialAt r.dials house) l = some out ∧ 0 ≤ f ∧ f ≤ t ∧ t ≤ 1048576 ∧ gasAns r house f t = (gasR (dialAt r.dials house) f t l out, 0)) := by
  by_cases hg : GoodRnd r
  · by_cases ho : houseOk r house
    · rcases ends_cases (r := r) (house := house) (f := f) (t := t) with ⟨e1, e2, h1, h2, h3, h4⟩ | ⟨l, out, h1, h2, h3, h4, h5, h6⟩
      · refine .inr (.inr (.inl ⟨hg, ho, e2, h2, ?_, h4⟩))
        rintro rfl
        have h5 : (gasAns r house f t).2 = 1 := by rw [h4]
        by_cases hh : HoursOk [f, t]
        · cases hr : readL r.cards house with
          | none => rw [gasAns_e (start_5 hg ho hh hr)] at h5; exact absurd h5 (by decide)
          | some l =>
            by_cases hft : f > t
            · rw [gasAns_o (start_0 hg ho hh hr) hft] at h5; exact absurd h5 (by decide)
            · cases hp : pairsL (dialAt r.dials house) l with
              | none => rw [gasAns_n (start_0 hg ho hh hr) hft hp] at h5; exact absurd h5 (by decide)
              | some out => rw [gasAns_s (start_0 hg ho hh hr) hft hp] at h5; exact absurd h5 (show ¬ (0 : Int) = 1 by decide)
        · rw [gasAns_e (start_2 hg (fun q => hh q.2))] at h5; exact absurd h5 (by decide)
      · rcases h6 with ⟨e2, a, b, c⟩ | ⟨a, b, c, e⟩
        · refine .inr (.inr (.inl ⟨hg, ho, e2, a, ?_, b⟩))
          rintro rfl
          have h7 : (gasAns r house f t).2 = 1 := by rw [b]
          by_cases hh : HoursOk [f, t]
          · by_cases hft : f > t
            · rw [gasAns_o (start_0 hg ho hh h3) hft] at h7; exact absurd h7 (by decide)
            · rw [gasAns_s (start_0 hg ho hh h3) hft h4] at h7; exact absurd h7 (show ¬ (0 : Int) = 1 by decide)
          · rw [gasAns_e (start_2 hg (fun q => hh q.2))] at h7; exact absurd h7 (by decide)
        · exact .inr (.inr (.inr ⟨hg, ho, l, out, h3, h4, a, b, c, e⟩))
    · exact .inr (.inl ⟨hg, ho, gasAns_e (start_2 hg (fun q => ho q.1)), susAns_e (start_2 hg (fun q => ho q.1)), dueAns_e (start_2 hg (fun q => ho q.1))⟩)
  · exact .inl ⟨hg, gasAns_e (start_1 hg), susAns_e (start_1 hg), dueAns_e (start_1 hg)⟩
theorem split_cases3 : (¬ GoodRnd r ∧ gasAns r house f t = (⟨0, 0⟩, 1) ∧ susAns r house = ([], 1) ∧ dueAns r house = (0, 1)) ∨
    (GoodRnd r ∧ ¬ houseOk r house ∧ gasAns r house f t = (⟨0, 0⟩, 2) ∧ susAns r house = ([], 2) ∧ dueAns r house = (0, 2)) ∨
    (GoodRnd r ∧ houseOk r house ∧ ∃ (gg : Span) (ee : Int), gasAns r house f t = (gg, ee) ∧ ee ≠ 1 ∧ ((ee ≠ 0 ∧ gg = ⟨0, 0⟩) ∨
      (ee = 0 ∧ ∃ l out, readL r.cards house = some l ∧ pairsL (dialAt r.dials house) l = some out ∧ 0 ≤ f ∧ f ≤ t ∧ t ≤ 1048576 ∧ gg = gasR (dialAt r.dials house) f t l out))) := by
  rcases split_cases (r := r) (house := house) (f := f) (t := t) with h | h | ⟨h1, h2, e, h3, h4, h5⟩ | ⟨h1, h2, l, out, h3, h4, h5, h6, h7, h8⟩
  · exact .inl h
  · exact .inr (.inl h)
  · exact .inr (.inr ⟨h1, h2, _, e, h5, h4, .inl ⟨h3, rfl⟩⟩)
  · exact .inr (.inr ⟨h1, h2, _, 0, h8, by decide, .inr ⟨rfl, l, out, h3, h4, h5, h6, h7, rfl⟩⟩)
theorem gas_ok {l : List Card} {out : List Span} (hg : GoodRnd r) (ho : houseOk r house) (hr : readL r.cards house = some l) (hp : pairsL (dialAt r.dials house) l = some out) (h0 : 0 ≤ f) (h1 : f ≤ t) (h2 : t ≤ 1048576) : gasAns r house f t = (gasR (dialAt r.dials house) f t l out, 0) :=
  gasAns_s (start_0 hg ho (hours2.2 ⟨⟨h0, by omega⟩, by omega, h2⟩) hr) (by omega) hp
end
/-! ### Cards that are turned -/
/-- The first cards, from one on, round and round. -/
def Rot (cs : List Card) (n : Nat) (k : Nat) (xs : List Card) : Prop := xs.length = k ∧ ∀ i, i < k → xs[i]? = cs[(i + n) % cs.length]?
theorem rot_nil {cs : List Card} {n : Nat} : Rot cs n 0 [] := ⟨rfl, fun i h => absurd h (Nat.not_lt_zero _)⟩
theorem Rot.snoc {cs xs : List Card} {n k : Nat} {c : Card} (H : Rot cs n k xs) (h : cs[(k + n) % cs.length]? = some c) : Rot cs n (k + 1) (xs ++ [c]) := by
  refine ⟨by rw [List.length_append, H.1]; rfl, fun i hi => ?_⟩
  by_cases h2 : i < k
  · rw [List.getElem?_append_left (by rw [H.1]; exact h2)]; exact H.2 i h2
  · have : i = k := by omega
    subst this
    rw [List.getElem?_append_right (by rw [H.1]; exact Nat.le_refl _), H.1, Nat.sub_self, h]
    rfl
theorem Rot.sub {cs xs : List Card} {n k : Nat} (H : Rot cs n k xs) : ∀ c ∈ xs, c ∈ cs := fun c hc => by
  obtain ⟨i, hi⟩ := List.getElem?_of_mem hc
  have := (List.getElem?_eq_some_iff.1 hi).1
  rw [H.1] at this
  rw [H.2 i this] at hi
  exact List.mem_of_getElem? hi
theorem Rot.all {cs xs : List Card} {n : Nat} (H : Rot cs n cs.length xs) : ∀ c, c ∈ xs ↔ c ∈ cs := fun c => by
  refine ⟨H.sub c, fun hc => ?_⟩
  obtain ⟨j, hj⟩ := List.getElem?_of_mem hc
  have hl := (List.getElem?_eq_some_iff.1 hj).1
  have hm : n % cs.length < cs.length := Nat.mod_lt _ (by omega)
  have key : ∃ i, i < cs.length ∧ (i + n) % cs.length = j := by
    by_cases h : n % cs.length ≤ j
    · refine ⟨j - n % cs.length, by omega, ?_⟩
      rw [← Nat.add_mod_mod, show j - n % cs.length + n % cs.length = j by omega, Nat.mod_eq_of_lt hl]
    · refine ⟨j + cs.length - n % cs.length, by omega, ?_⟩
      rw [← Nat.add_mod_mod, show j + cs.length - n % cs.length + n % cs.length = j + cs.length by omega, Nat.add_mod_right, Nat.mod_eq_of_lt hl]
  obtain ⟨i, h1, h2⟩ := key
  have h3 := H.2 i h1
  rw [h2, hj] at h3
  exact List.mem_of_getElem? h3
def Own_ (house : Int) (xs ys : List Card) : Prop := ys.length ≤ xs.length ∧ ∀ c, c ∈ ys ↔ c ∈ xs ∧ c.house = house
theorem own_nil {house : Int} : Own_ house [] [] := ⟨Nat.le_refl _, fun c => by simp⟩
theorem Own_.yes {house : Int} {xs ys : List Card} {c : Card} (H : Own_ house xs ys) (h : c.house = house) : Own_ house (xs ++ [c]) (ys ++ [c]) := by
  refine ⟨by simp only [List.length_append, List.length_singleton]; have := H.1; omega, fun x => ?_⟩
  simp only [List.mem_append, List.mem_singleton, H.2]
  constructor
  · rintro (⟨h1, h2⟩ | rfl)
    · exact ⟨.inl h1, h2⟩
    · exact ⟨.inr rfl, h⟩
  · rintro ⟨h1 | rfl, h2⟩
    · exact .inl ⟨h1, h2⟩
    · exact .inr rfl
theorem Own_.no {house : Int} {xs ys : List Card} {c : Card} (H : Own_ house xs ys) (h : ¬ c.house = house) : Own_ house (xs ++ [c]) ys := by
  refine ⟨by simp only [List.length_append, List.length_singleton]; have := H.1; omega, fun x => ?_⟩
  simp only [List.mem_append, List.mem_singleton, H.2]
  constructor
  · rintro ⟨h1, h2⟩; exact ⟨.inl h1, h2⟩
  · rintro ⟨h1 | rfl, h2⟩
    · exact ⟨h1, h2⟩
    · exact absurd h2 h
/-- Cards that answer as those of the round do. -/
structure Same (cs : List Card) (house : Int) (xs : List Card) : Prop where
  len : xs.length ≤ 48
  sub : ∀ c ∈ xs, c ∈ cs
  own : ∀ c : Card, c.house = house → (c ∈ xs ↔ c ∈ cs)
theorem same_own {cs xs ys : List Card} {house : Int} {n : Nat} (hl : cs.length ≤ 47) (H : Rot cs n cs.length xs) (H2 : Own_ house xs ys) : Same cs house ys where
  len := by have := H2.1; rw [H.1] at this; omega
  sub := fun c hc => H.sub c ((H2.2 c).1 hc).1
  own := fun c hc => by rw [H2.2 c, H.all c]; exact ⟨fun h => h.1, fun h => ⟨h, hc⟩⟩
theorem same_rot {cs xs : List Card} {house : Int} {n : Nat} (hl : cs.length ≤ 47) (H : Rot cs n cs.length xs) : Same cs house xs where
  len := by rw [H.1]; omega
  sub := H.sub
  own := fun c _ => H.all c
theorem same_rot1 {cs xs : List Card} {house : Int} {n : Nat} {c : Card} (hl : cs.length ≤ 47) (H : Rot cs n cs.length xs) (hc : c ∈ xs) : Same cs house (xs ++ [c]) where
  len := by rw [List.length_append, H.1]; simp; omega
  sub := fun x hx => by
    rcases List.mem_append.1 hx with h | h
    · exact H.sub x h
    · rw [List.mem_singleton.1 h]; exact H.sub c hc
  own := fun x _ => by
    rw [List.mem_append, H.all x]
    constructor
    · rintro (h | h)
      · exact h
      · rw [List.mem_singleton.1 h]; exact H.sub c hc
    · exact .inl
def rWith (r : Rnd) (a : Option Addr) (c : Nat) (xs : List Card) : Rnd := ⟨r.da, r.dc, r.dials, a, c, xs⟩
section
variable {r : Rnd} {house : Int} {a : Option Addr} {c : Nat} {xs : List Card}
theorem with_good (hg : GoodRnd r) (H : Same r.cards house xs) : GoodRnd (rWith r a c xs) := ⟨hg.d1, hg.d8, hg.dials, H.len, fun x hx => hg.cards x (H.sub x hx)⟩
theorem with_gas {f t : Int} (hg : GoodRnd r) (H : Same r.cards house xs) : gasAns (rWith r a c xs) house f t = gasAns r house f t := gasAns_congr rfl (start_congr hg (with_good hg H) rfl H.own)
theorem with_sus (hg : GoodRnd r) (H : Same r.cards house xs) : susAns (rWith r a c xs) house = susAns r house := susAns_congr rfl (start_congr hg (with_good hg H) rfl H.own)
theorem with_due (hg : GoodRnd r) (H : Same r.cards house xs) : dueAns (rWith r a c xs) house = dueAns r house := dueAns_congr rfl (start_congr hg (with_good hg H) rfl H.own)
theorem with_v {h : Hp} (hv : RndV h r) (hx : SlV h 3 eCard a xs) : RndV h (rWith r a c xs) := ⟨hv.dials, hx⟩
theorem with_s (hs : Small r) (H : Same r.cards house xs) : Small (rWith r a c xs) := ⟨hs.dials, Nat.le_trans H.len (by decide)⟩
end
/-! ### Where hours part -/
theorem parts_nil {m : Int} {l : List Card} (h : l.length = 0) : PartsAt m l := fun i a b ha _ => by
  have := (List.getElem?_eq_some_iff.1 ha).1
  omega
theorem parts_at {m : Int} {l : List Card} {k : Nat} {c : Card} (hr : Rise l) (hc : l[k]? = some c) (h : c.hour = m) : PartsAt m l := fun i a b ha hb => by
  by_cases h1 : i < k
  · refine .inr ?_
    by_cases h2 : i + 1 = k
    · subst h2; rw [hc] at hb; cases hb; omega
    · have := hr.get (show i + 1 < k by omega) hb hc; omega
  · refine .inl ?_
    by_cases h2 : k = i
    · subst h2; rw [hc] at ha; cases ha; omega
    · have := hr.get (show k < i by omega) hc ha; omega
theorem parts_lo {m : Int} {l : List Card} {c : Card} (hr : Rise l) (hc : l[0]? = some c) (h : m < c.hour) : PartsAt m l := fun i a b ha hb => by
  refine .inl ?_
  by_cases h2 : i = 0
  · subst h2; rw [hc] at ha; cases ha; omega
  · have := hr.get (show 0 < i by omega) hc ha; omega
theorem parts_hi {m : Int} {l : List Card} {c : Card} (hr : Rise l) (hc : l[l.length - 1]? = some c) (h : c.hour < m) : PartsAt m l := fun i a b ha hb => by
  refine .inr ?_
  have h1 := (List.getElem?_eq_some_iff.1 hb).1
  by_cases h2 : i + 1 = l.length - 1
  · rw [h2, hc] at hb; cases hb; omega
  · have := hr.get (show i + 1 < l.length - 1 by omega) hb hc; omega
end Go.Proofs.YtckaaaebegemoaaDoor
