/-
  A reading more that fits the truth; until when the gas of a meter is known.
-/
import Derived.Test.YtckaaaebegemoaaDoorP8
import Derived.Test.YtckaaaebegemoaaDoorP6
set_option linter.all false
namespace Go.Proofs.YtckaaaebegemoaaDoor
open Go Go.H
theorem fits_add {d : Dial} {a c b : Card} {x y : Int} (hd : dialOk d) (hst : d.sticks = false) (hac : a.hour ≤ c.hour) (hcb : c.hour ≤ b.hour) (hx : fitsP d a c x) (hy : fitsP d c b y) : fitsP d a b (x + y) := by
  obtain ⟨x1, x2, x3, x4⟩ := hx
  obtain ⟨y1, y2, y3, y4⟩ := hy
  have x4 := x4.resolve_left (by rw [hst]; decide)
  have y4 := y4.resolve_left (by rw [hst]; decide)
  have htb := turn_bd hd.1 hd.2.1
  have l1 := (least_bd (a := a) (b := c) hd).1
  have l2 := (least_bd (a := c) (b := b) hd).1
  have e1 := Int.mul_ediv_add_emod (x - leastF d a c) (turnI d.digits)
  have e2 := Int.mul_ediv_add_emod (y - leastF d c b) (turnI d.digits)
  have e3 : _ + leastF d a c = _ := Int.mul_ediv_add_emod (c.shows - a.shows + turnI d.digits) (turnI d.digits)
  have e4 : _ + leastF d c b = _ := Int.mul_ediv_add_emod (b.shows - c.shows + turnI d.digits) (turnI d.digits)
  rw [x4] at e1
  rw [y4] at e2
  have hm : (x + y) % turnI d.digits = leastF d a b := by
    unfold leastF
    generalize (x - leastF d a c) / turnI d.digits = q1 at *
    generalize (y - leastF d c b) / turnI d.digits = q2 at *
    generalize (c.shows - a.shows + turnI d.digits) / turnI d.digits = q3 at *
    generalize (b.shows - c.shows + turnI d.digits) / turnI d.digits = q4 at *
    have : x + y = b.shows - a.shows + turnI d.digits + turnI d.digits * (q1 + q2 - q3 - q4 + 1) := by
      rw [Int.mul_add, Int.mul_sub, Int.mul_sub, Int.mul_add]; omega
    rw [this, Int.add_mul_emod_self_left]
  have e5 := Int.mul_ediv_add_emod (x + y) (turnI d.digits)
  have e6 : 0 ≤ turnI d.digits * ((x + y) / turnI d.digits) := Int.mul_nonneg (by omega) (Int.ediv_nonneg (by omega) (by omega))
  refine ⟨?_, ?_, by omega, .inr ?_⟩
  · have : d.rate.lo * (b.hour - a.hour) = d.rate.lo * (c.hour - a.hour) + d.rate.lo * (b.hour - c.hour) := by rw [← Int.mul_add]; congr 1; omega
    omega
  · have : d.rate.hi * (b.hour - a.hour) = d.rate.hi * (c.hour - a.hour) + d.rate.hi * (b.hour - c.hour) := by rw [← Int.mul_add]; congr 1; omega
    omega
  · rw [← hm, show x + y - (x + y) % turnI d.digits = turnI d.digits * ((x + y) / turnI d.digits) by omega]
    exact Int.mul_emod_right _ _
theorem btw_more {d : Dial} {a c b : Card} {s s1 s2 : Span} (hd : dialOk d) (hst : d.sticks = false) (hac : a.hour ≤ c.hour) (hcb : c.hour ≤ b.hour) (h : btw d a b = some s) (h1 : btw d a c = some s1) (h2 : btw d c b = some s2) : s.lo ≤ s1.lo + s2.lo ∧ s1.hi + s2.hi ≤ s.hi := by
  have E1 := btw_ends hd hac h1
  have E2 := btw_ends hd hcb h2
  obtain ⟨t1, q1, q2, q3⟩ := btw_fits hd (Int.le_trans hac hcb) (fits_add hd hst hac hcb E1.lo E2.lo)
  obtain ⟨t2, r1, r2, r3⟩ := btw_fits hd (Int.le_trans hac hcb) (fits_add hd hst hac hcb E1.hi E2.hi)
  rw [h] at q1 r1
  cases q1
  cases r1
  exact ⟨q2, r3⟩
theorem pc_more {d : Dial} {f t : Int} {a c b : Card} {s s1 s2 : Span} (h1 : s.lo ≤ s1.lo + s2.lo) (h2 : s1.hi + s2.hi ≤ s.hi) :
    (pc d f t a b s).lo ≤ (pc d f t a c s1).lo + (pc d f t c b s2).lo ∧ (pc d f t a c s1).hi + (pc d f t c b s2).hi ≤ (pc d f t a b s).hi := by
  unfold pc partF
  dsimp only
  have e1 : ∀ x : Int, x * (cl f t b.hour - cl f t a.hour) = x * (cl f t c.hour - cl f t a.hour) + x * (cl f t b.hour - cl f t c.hour) := fun x => by rw [← Int.mul_add]; congr 1; omega
  have e2 : ∀ x : Int, x * (b.hour - a.hour - (cl f t b.hour - cl f t a.hour)) = x * (c.hour - a.hour - (cl f t c.hour - cl f t a.hour)) + x * (b.hour - c.hour - (cl f t b.hour - cl f t c.hour)) := fun x => by rw [← Int.mul_add]; congr 1; omega
  rw [e1, e1, e2, e2]
  omega
theorem pc_bd {d : Dial} {f t : Int} {a b : Card} {s : Span} : d.rate.lo * (cl f t b.hour - cl f t a.hour) ≤ (pc d f t a b s).lo ∧ (pc d f t a b s).hi ≤ d.rate.hi * (cl f t b.hour - cl f t a.hour) := by
  unfold pc partF
  dsimp only
  omega
theorem gQ_more {d : Dial} {f t : Int} {c : Card} {l2 : List Card} (hd : dialOk d) (hst : d.sticks = false) : ∀ {l1 : List Card} {a : Card} {out out2 : List Span}, Rise (a :: (l1 ++ c :: l2)) → pairsL d (a :: (l1 ++ l2)) = some out → pairsL d (a :: (l1 ++ c :: l2)) = some out2 →
    (gQ d f t a (l1 ++ l2) out).lo ≤ (gQ d f t a (l1 ++ c :: l2) out2).lo ∧ (gQ d f t a (l1 ++ c :: l2) out2).hi ≤ (gQ d f t a (l1 ++ l2) out).hi
  | x :: l1, a, out, out2, hr, hp, hp2 => by
    obtain ⟨s, o, h1, h2, rfl⟩ := pairs_inv hp
    obtain ⟨s', o', h3, h4, rfl⟩ := pairs_inv hp2
    rw [h1] at h3
    cases h3
    obtain ⟨i1, i2⟩ := gQ_more (f := f) (t := t) hd hst (List.pairwise_cons.1 hr).2 h2 h4
    exact ⟨Int.add_le_add_left i1 _, Int.add_le_add_left i2 _⟩
  | [], a, out, out2, hr, hp, hp2 => by
    have hr1 := List.pairwise_cons.1 hr
    cases l2 with
    | nil =>
      obtain ⟨s', o', h3, h4, rfl⟩ := pairs_inv hp2
      have hb := pc_bd (d := d) (f := f) (t := t) (a := a) (b := c) (s := s')
      simp only [List.nil_append, gQ]
      have e : ∀ x : Int, x * (t - cl f t a.hour) = x * (cl f t c.hour - cl f t a.hour) + x * (t - cl f t c.hour) := fun x => by rw [← Int.mul_add]; congr 1; omega
      rw [e, e]
      exact ⟨by omega, by omega⟩
    | cons b l3 =>
      obtain ⟨s, o, h1, h2, rfl⟩ := pairs_inv hp
      obtain ⟨s1, o1, h3, h4, rfl⟩ := pairs_inv hp2
      obtain ⟨s2, o2, h5, h6, rfl⟩ := pairs_inv h4
      rw [h2] at h6
      cases h6
      have hr2 := List.pairwise_cons.1 hr1.2
      have hac := hr1.1 c List.mem_cons_self
      have hcb := hr2.1 b List.mem_cons_self
      obtain ⟨m1, m2⟩ := btw_more hd hst (Int.le_of_lt hac) (Int.le_of_lt hcb) h1 h3 h5
      obtain ⟨p1, p2⟩ := pc_more (d := d) (f := f) (t := t) (a := a) (c := c) (b := b) m1 m2
      show (pc d f t a b s).lo + _ ≤ (pc d f t a c s1).lo + ((pc d f t c b s2).lo + _) ∧ (pc d f t a c s1).hi + ((pc d f t c b s2).hi + _) ≤ (pc d f t a b s).hi + _
      exact ⟨by omega, by omega⟩
theorem gas_more {d : Dial} {f t : Int} {c : Card} {l1 l2 : List Card} {out out2 : List Span} (hd : dialOk d) (hst : d.sticks = false) (hft : f ≤ t) (hr : Rise (l1 ++ l2)) (hr2 : Rise (l1 ++ c :: l2)) (hp : pairsL d (l1 ++ l2) = some out) (hp2 : pairsL d (l1 ++ c :: l2) = some out2) :
    (gasR d f t (l1 ++ l2) out).lo ≤ (gasR d f t (l1 ++ c :: l2) out2).lo ∧ (gasR d f t (l1 ++ c :: l2) out2).hi ≤ (gasR d f t (l1 ++ l2) out).hi := by
  cases l1 with
  | cons a l1 =>
    rw [List.cons_append] at *
    rw [List.cons_append] at *
    rw [gas_gQ hd hr hft hp, gas_gQ hd hr2 hft hp2]
    obtain ⟨i1, i2⟩ := gQ_more (f := f) (t := t) hd hst hr2 hp hp2
    exact ⟨by dsimp only; omega, by dsimp only; omega⟩
  | nil =>
    rw [List.nil_append] at *
    rw [List.nil_append] at *
    rw [gas_gQ hd hr2 hft hp2]
    cases l2 with
    | nil =>
      rw [gas_nil hp]
      simp only [gQ]
      have e : ∀ x : Int, x * (cl f t c.hour - f) + x * (t - cl f t c.hour) = x * (t - f) := fun x => by rw [← Int.mul_add]; congr 1; omega
      rw [e, e]
      exact ⟨Int.le_refl _, Int.le_refl _⟩
    | cons b l3 =>
      rw [gas_gQ hd hr hft hp]
      obtain ⟨s, o, h1, h2, rfl⟩ := pairs_inv hp2
      rw [hp] at h2
      cases h2
      have hb := pc_bd (d := d) (f := f) (t := t) (a := c) (b := b) (s := s)
      have e : ∀ x : Int, x * (cl f t b.hour - f) = x * (cl f t c.hour - f) + x * (cl f t b.hour - cl f t c.hour) := fun x => by rw [← Int.mul_add]; congr 1; omega
      simp only [gQ]
      rw [e, e]
      exact ⟨by omega, by omega⟩
/-! ### Cards by what truly went -/
def cardT (d : Dial) (house : Int) (G : List Int) (n a0 h : Int) : Card := ⟨house, h, (n + SG G a0 h) % turnI d.digits⟩
theorem Shown.map {d : Dial} {house n a0 : Int} {G at_ : List Int} {cs : List Card} (H : Shown d house G at_ cs) (hst : d.sticks = false) (h0 : ∀ c, cs[0]? = some c → c.shows = n % turnI d.digits) (ha : at_[0]? = some a0) : cs = at_.map (cardT d house G n a0) := by
  have key : ∀ (i : Nat) (c : Card), cs[i]? = some c → c = cardT d house G n a0 c.hour := by
    intro i
    induction i with
    | zero =>
      intro c hc
      have h1 := H.hour 0 c hc
      rw [ha] at h1
      have h2 := Option.some.inj h1
      have h3 := H.house c (List.mem_of_getElem? hc)
      have h4 := h0 c hc
      obtain ⟨x, y, z⟩ := c
      dsimp only at *
      subst h3
      unfold cardT
      rw [← h2, SG_self, Int.add_zero, h4]
    | succ i ih =>
      intro c hc
      have hl := (List.getElem?_eq_some_iff.1 hc).1
      have hb := List.getElem?_eq_getElem (l := cs) (i := i) (by omega)
      obtain ⟨w, w0, w1, w2, w3⟩ := H.step i _ _ hb hc
      have hq := ih _ hb
      have h3 := H.house c (List.mem_of_getElem? hc)
      rw [hq] at w3
      have w2 := w2 hst
      generalize cs[i] = a at *
      obtain ⟨x, y, z⟩ := c
      dsimp only at *
      subst h3
      unfold cardT at w3 ⊢
      dsimp only at w3
      rw [w3, w2, Int.emod_add_emod, SG_add G a0 a.hour y, Int.add_assoc]
  apply List.ext_getElem?
  intro i
  rw [List.getElem?_map]
  cases hc : cs[i]? with
  | some c =>
    rw [H.hour i c hc]
    show some c = some _
    rw [← key i c hc]
  | none =>
    have h1 := List.getElem?_eq_none_iff.1 hc
    rw [H.len] at h1
    rw [List.getElem?_eq_none_iff.2 h1]
    rfl
theorem cardT_same {d : Dial} {house n a0 b0 h k : Int} {G : List Int} : cardT d house G (n + turnI d.digits * k - SG G b0 a0) b0 h = cardT d house G n a0 h := by
  unfold cardT
  congr 1
  rw [show n + turnI d.digits * k - SG G b0 a0 + SG G b0 h = n + SG G a0 h + turnI d.digits * k by rw [SG_add G b0 a0 h]; omega]
  exact Int.add_mul_emod_self_left _ _ _
/-- An hour more. -/
def Ins (z : Int) (l m : List Int) : Prop := (z ∈ l ∧ m = l) ∨ ∃ l1 l2, l = l1 ++ l2 ∧ m = l1 ++ z :: l2 ∧ (∀ x ∈ l1, x < z) ∧ ∀ x ∈ l2, z < x
/-- On the way there. -/
def InsW (z : Int) (l m : List Int) (put : Bool) : Prop := (put = false ∧ m = l ∧ ∀ x ∈ l, x < z) ∨ (put = true ∧ z ∈ l ∧ m = l) ∨ (put = true ∧ ∃ l1 y l2, l = l1 ++ y :: l2 ∧ m = l1 ++ z :: y :: l2 ∧ (∀ x ∈ l1, x < z) ∧ z < y)
theorem insW_nil (z : Int) : InsW z [] [] false := .inl ⟨rfl, rfl, fun x hx => by cases hx⟩
theorem InsW.lt {z x : Int} {l m : List Int} (H : InsW z l m false) (h : x < z) : InsW z (l ++ [x]) (m ++ [x]) false := by
  rcases H with ⟨_, rfl, h2⟩ | ⟨h1, _⟩ | ⟨h1, _⟩
  · exact .inl ⟨rfl, rfl, fun y hy => by
      rcases List.mem_append.1 hy with hy | hy
      · exact h2 y hy
      · rw [List.mem_singleton.1 hy]; exact h⟩
  · cases h1
  · cases h1
theorem InsW.eq {z : Int} {l m : List Int} (H : InsW z l m false) : InsW z (l ++ [z]) (m ++ [z]) true := by
  rcases H with ⟨_, rfl, h2⟩ | ⟨h1, _⟩ | ⟨h1, _⟩
  · exact .inr (.inl ⟨rfl, by simp, rfl⟩)
  · cases h1
  · cases h1
theorem InsW.gt {z x : Int} {l m : List Int} (H : InsW z l m false) (h : z < x) : InsW z (l ++ [x]) (m ++ [z] ++ [x]) true := by
  rcases H with ⟨_, rfl, h2⟩ | ⟨h1, _⟩ | ⟨h1, _⟩
  · exact .inr (.inr ⟨rfl, m, x, [], rfl, by simp, h2, h⟩)
  · cases h1
  · cases h1
theorem InsW.more {z x : Int} {l m : List Int} (H : InsW z l m true) : InsW z (l ++ [x]) (m ++ [x]) true := by
  rcases H with ⟨h1, _⟩ | ⟨_, h2, rfl⟩ | ⟨_, l1, y, l2, rfl, rfl, h2, h3⟩
  · cases h1
  · exact .inr (.inl ⟨rfl, List.mem_append_left _ h2, rfl⟩)
  · exact .inr (.inr ⟨rfl, l1, y, l2 ++ [x], by simp, by simp, h2, h3⟩)
theorem insW_len {z : Int} {k : Nat} {l m : List Int} (H : InsW z (l.take k) m false) : m.length ≤ k := by
  rcases H with ⟨_, rfl, _⟩ | ⟨h1, _⟩ | ⟨h1, _⟩
  · rw [List.length_take]; omega
  · cases h1
  · cases h1
theorem InsW.fin {z : Int} {l m : List Int} {put : Bool} (hu : Up l) (H : InsW z l m put) : Ins z l (if put then m else m ++ [z]) := by
  rcases H with ⟨rfl, rfl, h2⟩ | ⟨rfl, h2, rfl⟩ | ⟨rfl, l1, y, l2, rfl, rfl, h2, h3⟩
  · exact .inr ⟨m, [], by simp, rfl, h2, fun x hx => by cases hx⟩
  · exact .inl ⟨h2, rfl⟩
  · refine .inr ⟨l1, y :: l2, rfl, rfl, h2, fun x hx => ?_⟩
    rcases List.mem_cons.1 hx with rfl | hx
    · exact h3
    · have h4 := (List.pairwise_cons.1 (List.pairwise_append.1 hu).2.1).1 x hx
      omega
theorem Ins.up {z : Int} {l m : List Int} (H : Ins z l m) (hu : Up l) : Up m := by
  rcases H with ⟨_, rfl⟩ | ⟨l1, l2, rfl, rfl, h1, h2⟩
  · exact hu
  · have h := List.pairwise_append.1 hu
    refine List.pairwise_append.2 ⟨h.1, List.pairwise_cons.2 ⟨h2, h.2.1⟩, fun a ha b hb => ?_⟩
    rcases List.mem_cons.1 hb with rfl | hb
    · exact h1 a ha
    · exact h.2.2 a ha b hb
theorem Ins.mem {z : Int} {l m : List Int} (H : Ins z l m) {x : Int} (hx : x ∈ m) : x = z ∨ x ∈ l := by
  rcases H with ⟨_, rfl⟩ | ⟨l1, l2, rfl, rfl, h1, h2⟩
  · exact .inr hx
  · simp only [List.mem_append, List.mem_cons] at hx ⊢
    rcases hx with h | h | h <;> simp [h]
theorem Ins.len {z : Int} {l m : List Int} (H : Ins z l m) : l.length ≤ m.length ∧ m.length ≤ l.length + 1 := by
  rcases H with ⟨_, rfl⟩ | ⟨l1, l2, rfl, rfl, h1, h2⟩
  · exact ⟨Nat.le_refl _, Nat.le_succ _⟩
  · simp only [List.length_append, List.length_cons]; omega
theorem Ins.first {z : Int} {l m : List Int} (H : Ins z l m) (hu : Up l) {a b : Int} (ha : l[0]? = some a) (hb : m[0]? = some b) : b ≤ a := by
  rcases H with ⟨_, rfl⟩ | ⟨l1, l2, rfl, rfl, h1, h2⟩
  · rw [ha] at hb; cases hb; exact Int.le_refl _
  · cases l1 with
    | nil =>
      simp at ha hb
      subst hb
      exact Int.le_of_lt (h2 a (List.mem_of_mem_head? (by rw [List.head?_eq_getElem?]; exact ha)))
    | cons x l1 =>
      simp at ha hb
      omega
/-! ### What is answered -/
section
variable {r x : Rnd} {house : Int} {d : Dial} {G at_ all : List Int}
theorem TR.gasB (T : TR r house d G at_) {out : List Span} (ho : pairsL d r.cards = some out) {f t : Int} (hf : 0 ≤ f) (hft : f ≤ t) (ht : t ≤ 1048576) : gasAns r house f t = (gasR d f t r.cards out, 0) := by
  have := gasAns_s (f := f) (t := t) (T.start (hs := [f, t]) fun x hx => by
    simp only [List.mem_cons, List.not_mem_nil, or_false] at hx
    rcases hx with rfl | rfl <;> (unfold hourOk; omega)) (by omega) (by rw [T.da]; exact ho)
  rw [T.da] at this
  exact this
theorem TR.more {n a0 z : Int} (T : TR r house d G at_) (T2 : TR x house d G all) (hst : d.sticks = false) (h1 : r.cards = at_.map (cardT d house G n a0)) (h2 : x.cards = all.map (cardT d house G n a0)) (hi : Ins z at_ all) {f t : Int} (hf : 0 ≤ f) (hft : f ≤ t) (ht : t ≤ 1048576) :
    ∃ g s : Span, gasAns r house f t = (g, 0) ∧ gasAns x house f t = (s, 0) ∧ g.lo ≤ s.lo ∧ s.hi ≤ g.hi := by
  obtain ⟨out, ho, hl, _⟩ := T.pairs
  obtain ⟨out2, ho2, hl2, _⟩ := T2.pairs
  refine ⟨_, _, T.gasB ho hf hft ht, T2.gasB ho2 hf hft ht, ?_⟩
  have r1 := T.rise
  have r2 := T2.rise
  rcases hi with ⟨_, rfl⟩ | ⟨l1, l2, rfl, rfl, _, _⟩
  · have e : x.cards = r.cards := h2.trans h1.symm
    rw [e] at ho2 ⊢
    rw [ho] at ho2
    cases ho2
    exact ⟨Int.le_refl _, Int.le_refl _⟩
  · rw [List.map_append] at h1
    rw [List.map_append, List.map_cons] at h2
    rw [h1] at r1 ho ⊢
    rw [h2] at r2 ho2 ⊢
    exact gas_more T.hd hst hft r1 r2 ho ho2
theorem wide_zero {x t : Int} (ht : 0 < t) (h0 : 0 ≤ x) (h1 : x < t) (h : x % t = 0) : x = 0 := by rwa [Int.emod_eq_of_lt h0 h1] at h
theorem Ins.last {z last : Int} {l m : List Int} (H : Ins z l m) (hl : l[l.length - 1]? = some last) (hz : last < z) (hu : Up l) : m = l ++ [z] := by
  have hall : ∀ y ∈ l, y ≤ last := fun y hy => by
    obtain ⟨i, hi⟩ := List.getElem?_of_mem hy
    have hil := (List.getElem?_eq_some_iff.1 hi).1
    by_cases h : i = l.length - 1
    · subst h; rw [hl] at hi; cases hi; exact Int.le_refl _
    · exact Int.le_of_lt (hu.get (by omega) hi hl)
  rcases H with ⟨h1, rfl⟩ | ⟨l1, l2, rfl, rfl, h1, h2⟩
  · have := hall z h1; omega
  · cases l2 with
    | nil => simp
    | cons y l2 =>
      have h3 := hall y (by simp)
      have h4 := h2 y List.mem_cons_self
      omega
theorem TR.known {n a0 z last : Int} (T : TR r house d G at_) (T2 : TR x house d G all) (hst : d.sticks = false) (h2 : x.cards = all.map (cardT d house G n a0)) (hi : Ins z at_ all) (hl : at_[at_.length - 1]? = some last) (hz : last < z) (hw : (d.rate.hi - d.rate.lo) * (z - last) < turnI d.digits) :
    gasAns x house last z = (⟨SG G last z, SG G last z⟩, 0) := by
  obtain ⟨out2, ho2, hl2, hfit⟩ := T2.pairs
  have hall := hi.last hl hz T.up
  have hll := (List.getElem?_eq_some_iff.1 hl).1
  have ea : x.cards[at_.length - 1]? = some (cardT d house G n a0 last) := by rw [h2, hall, List.getElem?_map, List.getElem?_append_left hll, hl]; rfl
  have eb : x.cards[at_.length - 1 + 1]? = some (cardT d house G n a0 z) := by rw [h2, hall, List.getElem?_map, List.getElem?_append_right (by omega), show at_.length - 1 + 1 - at_.length = 0 by omega]; rfl
  have hxl : x.cards.length = at_.length + 1 := by rw [h2, hall]; simp
  have es := List.getElem?_eq_getElem (l := out2) (i := at_.length - 1) (by omega)
  obtain ⟨f1, f2, f3⟩ := hfit _ _ _ _ ea eb es
  have hla := T.inG last (List.mem_of_getElem? hl)
  have hzb := T2.inG z (by rw [hall]; simp)
  have hgl := T.len
  rw [T2.gasB ho2 hla.1 (Int.le_of_lt hz) (by omega), gas_one T.hd T2.rise ho2 hz ea eb es (Int.le_refl _) (Int.le_refl _)]
  have hS := btw_some T.hd (show (cardT d house G n a0 last).hour ≤ (cardT d house G n a0 z).hour from Int.le_of_lt hz) f1
  have hT := btw_turn T.hd (by rw [hst]; decide) f1
  have htb := turn_bd T.hd.1 T.hd.2.1
  have e1 : (cardT d house G n a0 last).hour = last := rfl
  have e2 : (cardT d house G n a0 z).hour = z := rfl
  rw [e1, e2] at hS f2 f3 ⊢
  generalize out2[at_.length - 1] = s at *
  have e3 := Int.sub_mul d.rate.hi d.rate.lo (z - last)
  have hz0 := wide_zero (by omega) (by omega) (by omega) hT
  unfold partF
  rw [Int.sub_self, Int.mul_zero, Int.mul_zero, Int.sub_zero, Int.sub_zero]
  have p1 : max (d.rate.lo * (z - last)) s.lo = SG G last z := by omega
  have p2 : min (d.rate.hi * (z - last)) s.hi = SG G last z := by omega
  rw [p1, p2]
theorem TR.due0 {dn de : Int} (T : TR r house d G at_) (h : dueAns r house = (dn, de)) (hq : at_.length = 0 ∨ d.sticks = true) : de ≠ 0 ∧ dn = 0 := by
  have hl := T.sh.len
  by_cases h0 : r.cards.length = 0
  · rw [dueAns_0 (T.start nohrs) h0] at h
    cases h
    exact ⟨by decide, rfl⟩
  · rw [dueAns_t (T.start nohrs) (List.getElem?_eq_getElem (by omega)) (by rw [T.da]; exact hq.resolve_left (by omega))] at h
    cases h
    exact ⟨by decide, rfl⟩
theorem TR.due1 {dn de last : Int} (T : TR r house d G at_) (h : dueAns r house = (dn, de)) (hl : at_[at_.length - 1]? = some last) (hst : d.sticks = false) : de = 0 ∧ dn = min 1048576 (last + dueN d) := by
  have hlen := T.sh.len
  have hll := (List.getElem?_eq_some_iff.1 hl).1
  have hc := List.getElem?_eq_getElem (l := r.cards) (i := r.cards.length - 1) (by omega)
  have hh := T.sh.hour _ _ hc
  have hh2 : at_[r.cards.length - 1]? = some last := by rw [hlen]; exact hl
  have e := Option.some.inj (hh2.symm.trans hh)
  rw [dueAns_s (T.start nohrs) hc (by rw [T.da, hst]; decide), T.da] at h
  generalize r.cards[r.cards.length - 1] = c at *
  cases h
  rw [e]
  exact ⟨rfl, rfl⟩
end
/-! ### When it is due -/
theorem due_law {d : Dial} {last due : Int} (hd : dialOk d) (h0 : 0 ≤ last) (h1 : last ≤ 1048576) (h : due = min 1048576 (last + dueN d)) :
    last ≤ due ∧ due ≤ 1048576 ∧ (d.rate.hi - d.rate.lo) * (due - last) < turnI d.digits ∧ (due = 1048576 ∨ turnI d.digits ≤ (d.rate.hi - d.rate.lo) * (due + 1 - last)) := by
  have htb := turn_bd hd.1 hd.2.1
  obtain ⟨g1, g2, g3, g4, g5⟩ := hd
  unfold dueN at h
  by_cases he : d.rate.lo = d.rate.hi
  · rw [if_pos he] at h
    rw [he, Int.sub_self, Int.zero_mul, Int.zero_mul]
    exact ⟨by omega, by omega, by omega, .inl (by omega)⟩
  · rw [if_neg he] at h
    obtain ⟨q0, q1, q2⟩ := div_bd (x := turnI d.digits - 1) (t := d.rate.hi - d.rate.lo) (by omega) (by omega)
    generalize (turnI d.digits - 1) / (d.rate.hi - d.rate.lo) = q at *
    have m1 := Int.mul_le_mul_of_nonneg_left (show due - last ≤ q by omega) (show 0 ≤ d.rate.hi - d.rate.lo by omega)
    rw [Int.mul_comm _ q] at m1
    refine ⟨by omega, by omega, by omega, ?_⟩
    by_cases hm : due = 1048576
    · exact .inl hm
    · refine .inr ?_
      rw [show due + 1 - last = q + 1 by omega, Int.mul_add, Int.mul_one, Int.mul_comm _ q]
      omega
theorem due_in {d : Dial} {last due z : Int} (hd : dialOk d) (hw : (d.rate.hi - d.rate.lo) * (due - last) < turnI d.digits) (hz : z ≤ due) : (d.rate.hi - d.rate.lo) * (z - last) < turnI d.digits := by
  have := Int.mul_le_mul_of_nonneg_left (show z - last ≤ due - last by omega) (show 0 ≤ d.rate.hi - d.rate.lo by have := hd.2.2.2.1; omega)
  omega
end Go.Proofs.YtckaaaebegemoaaDoor
