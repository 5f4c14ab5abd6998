/-
  A richer, a wider, a turned supply and looser bounds never cost more.
-/
import Derived.Test.YtjbfdfmngampdaaP8
set_option linter.all false
namespace Go.Proofs.Ytjbfdfmngampdaa
open Go Go.H
theorem better {l : List Supply} {q : Ask} {m : List Int} (hl : ¬ l.length > 4) (hs : SupsOk l) (hq : MixB q) (h1 : m.length = l.length) (hi : InM l m) (hr : rightP l q m) : ∃ m2 c2, Best1 l q (allM l) m2 c2 ∧ mixA l q = (m2, c2, 0) ∧ c2 ≤ costM l m := by
  rcases mix_cases2 (q := q) hl hs with ⟨h, _⟩ | ⟨_, h, _⟩ | ⟨m2, c2, _, hb, he⟩
  · exact absurd hq h
  · exact absurd hr (h m (allM_mem h1 hi))
  · exact ⟨m2, c2, hb, he, (hb.least m (allM_mem h1 hi) hr).1⟩
/-! ### Richer -/
theorem sumZ_set (f : Supply → Int) : ∀ {l : List Supply} {m : List Int} {k : Nat} {x y : Supply}, l[k]? = some x → f y = f x → sumZ f (l.set k y) m = sumZ f l m
  | [], m, k, x, y, h, _ => by simp at h
  | a :: l, [], k, x, y, _, _ => by rw [sumZ_nil, sumZ_nil]
  | a :: l, n :: m, 0, x, y, h, e => by
    simp at h; subst h
    rw [List.set_cons_zero, sumZ_cons, sumZ_cons, e]
  | a :: l, n :: m, k + 1, x, y, h, e => by
    rw [List.set_cons_succ, sumZ_cons, sumZ_cons, sumZ_set f (by simpa using h) e]
theorem inM_set : ∀ {l : List Supply} {m : List Int} {k : Nat} {x y : Supply}, l[k]? = some x → x.most ≤ y.most → InM l m → InM (l.set k y) m
  | [], m, k, x, y, h, _, _ => by simp at h
  | a :: l, [], k, x, y, _, _, _ => inM_nil _
  | a :: l, n :: m, 0, x, y, h, e, hi => by
    simp at h; subst h
    exact ⟨⟨hi.1.1, by have := hi.1.2; omega⟩, hi.2⟩
  | a :: l, n :: m, k + 1, x, y, h, e, hi => ⟨hi.1, inM_set (by simpa using h) e hi.2⟩
theorem richer_ok {l : List Supply} {q : Ask} {m : List Int} {c : Int} {k : Nat} {x : Supply} {z : Int} (hl : ¬ l.length > 4) (hs : SupsOk l) (hq : MixB q) (hb : Best1 l q (allM l) m c) (hx : l[k]? = some x) (h1 : x.most ≤ z) (h2 : z ≤ 20) : ∃ m2 c2, mixA (l.set k ⟨x.heat, x.volume, z, x.pay⟩) q = (m2, c2, 0) ∧ c2 ≤ c := by
  obtain ⟨q1, q2, q3, q4⟩ := hs x (List.mem_of_getElem? hx)
  obtain ⟨r1, r2, r3⟩ := hb.right
  obtain ⟨m2, c2, _, e, h⟩ := better (l := l.set k ⟨x.heat, x.volume, z, x.pay⟩) (q := q) (m := m) (by rw [List.length_set]; exact hl)
    (fun y hy => by
      rcases List.mem_or_eq_of_mem_set hy with hy | hy
      · exact hs y hy
      · subst hy; exact ⟨q1, q2, ⟨by dsimp only; omega, h2⟩, q4⟩) hq (by rw [List.length_set]; exact (mem_allM hb.mem).1) (inM_set hx h1 (mem_allM hb.mem).2)
    ⟨by rw [sumZ_set (y := ⟨x.heat, x.volume, z, x.pay⟩) (·.volume) hx rfl]; exact r1, by rw [sumZ_set (y := ⟨x.heat, x.volume, z, x.pay⟩) (·.heat.lo) hx rfl]; exact r2, by rw [sumZ_set (y := ⟨x.heat, x.volume, z, x.pay⟩) (·.heat.hi) hx rfl]; exact r3⟩
  refine ⟨m2, c2, e, ?_⟩
  rw [hb.cost]
  unfold costM at h ⊢
  rw [sumZ_set (y := ⟨x.heat, x.volume, z, x.pay⟩) (·.pay) hx rfl] at h
  exact h
/-! ### Appended -/
theorem sumZ_app2 (f : Supply → Int) {l l2 : List Supply} {m m2 : List Int} (h : m.length = l.length) : sumZ f (l ++ l2) (m ++ m2) = sumZ f l m + sumZ f l2 m2 := by
  unfold sumZ
  rw [List.zip_append h.symm, List.map_append, List.sum_append_int]
theorem inM_app2 : ∀ {l l2 : List Supply} {m m2 : List Int}, m.length = l.length → InM l m → InM l2 m2 → InM (l ++ l2) (m ++ m2)
  | [], l2, [], m2, _, _, h => h
  | x :: l, l2, n :: m, m2, h, h1, h2 => ⟨h1.1, inM_app2 (by simpa using h) h1.2 h2⟩
theorem inM_drop : ∀ {l : List Supply} {m : List Int} (k : Nat), InM l m → InM (l.drop k) (m.drop k)
  | l, m, 0, h => h
  | [], [], k + 1, _ => inM_nil _
  | x :: l, [], k + 1, _ => inM_nil _
  | x :: l, n :: m, k + 1, h => inM_drop (l := l) (m := m) k h.2
theorem inM_takes : ∀ {l : List Supply} {m : List Int} (k : Nat), InM l m → InM (l.take k) (m.take k)
  | l, m, 0, h => inM_nil _
  | [], [], k + 1, _ => inM_nil _
  | x :: l, [], k + 1, _ => inM_nil _
  | x :: l, n :: m, k + 1, h => ⟨h.1, inM_takes (l := l) (m := m) k h.2⟩
theorem wider_ok {l : List Supply} {q : Ask} {m : List Int} {c : Int} {x : Supply} (hl : l.length < 4) (hs : SupsOk l) (hq : MixB q) (hb : Best1 l q (allM l) m c) (hx : supOk x) : ∃ m2 c2, mixA (l ++ [x]) q = (m2, c2, 0) ∧ c2 ≤ c := by
  obtain ⟨h1, h2⟩ := mem_allM hb.mem
  obtain ⟨q1, q2, q3, q4⟩ := id hx
  obtain ⟨r1, r2, r3⟩ := hb.right
  have e0 : ∀ f : Supply → Int, sumZ f (l ++ [x]) (m ++ [0]) = sumZ f l m := fun f => by rw [sumZ_app2 f h1, sumZ_cons, sumZ_nil]; omega
  obtain ⟨m2, c2, _, e, h⟩ := better (l := l ++ [x]) (q := q) (m := m ++ [0]) (by rw [List.length_append, List.length_singleton]; omega)
    (fun y hy => by
      rcases List.mem_append.1 hy with hy | hy
      · exact hs y hy
      · rw [List.mem_singleton.1 hy]; exact hx) hq (by rw [List.length_append, List.length_append, h1]; rfl) (inM_app2 h1 h2 ⟨⟨by omega, by omega⟩, inM_nil _⟩)
    ⟨by rw [e0]; exact r1, by rw [e0]; exact r2, by rw [e0]; exact r3⟩
  refine ⟨m2, c2, e, ?_⟩
  rw [hb.cost]
  unfold costM at h ⊢
  rw [e0] at h
  exact h
theorem wider_bad {l : List Supply} {q : Ask} {x : Supply} (hl : l.length < 4) (hx : ¬ supOk x) : mixA (l ++ [x]) q = ([], 0, 1) :=
  mixA_1 (by rw [List.length_append, List.length_singleton]; omega) (fun h => hx (h x (by simp)))
theorem turn_le {a b : List Supply} {q : Ask} {m : List Int} {c : Int} (hl : ¬ (a ++ b).length > 4) (hs : SupsOk (a ++ b)) (hq : MixB q) (hb : Best1 (a ++ b) q (allM (a ++ b)) m c) : ∃ m2 c2, Best1 (b ++ a) q (allM (b ++ a)) m2 c2 ∧ mixA (b ++ a) q = (m2, c2, 0) ∧ c2 ≤ c := by
  obtain ⟨h1, h2⟩ := mem_allM hb.mem
  obtain ⟨r1, r2, r3⟩ := hb.right
  rw [List.length_append] at hl h1
  have g1 : (m.take a.length).length = a.length := by rw [List.length_take]; omega
  have g2 : (m.drop a.length).length = b.length := by rw [List.length_drop]; omega
  have i1 : InM a (m.take a.length) := by simpa using inM_takes a.length h2
  have i2 : InM b (m.drop a.length) := by simpa using inM_drop a.length h2
  have e0 : ∀ f : Supply → Int, sumZ f (b ++ a) (m.drop a.length ++ m.take a.length) = sumZ f (a ++ b) m := fun f => by
    rw [sumZ_app2 f g2]
    have h9 := sumZ_app2 (l2 := b) (m2 := m.drop a.length) f g1
    rw [List.take_append_drop] at h9
    omega
  obtain ⟨m2, c2, b2, e, h⟩ := better (l := b ++ a) (q := q) (m := m.drop a.length ++ m.take a.length) (by rw [List.length_append]; omega)
    (fun y hy => hs y (by rcases List.mem_append.1 hy with hy | hy <;> simp [hy])) hq (by rw [List.length_append, List.length_append]; omega) (inM_app2 g2 i2 i1)
    ⟨by rw [e0]; exact r1, by rw [e0]; exact r2, by rw [e0]; exact r3⟩
  refine ⟨m2, c2, b2, e, ?_⟩
  rw [hb.cost]
  unfold costM at h ⊢
  rw [e0] at h
  exact h
theorem turned_ok {l : List Supply} {q : Ask} {m : List Int} {c : Int} (k : Nat) (hl : ¬ l.length > 4) (hs : SupsOk l) (hq : MixB q) (hb : Best1 l q (allM l) m c) : ∃ m2, mixA (l.drop k ++ l.take k) q = (m2, c, 0) := by
  have el : l.take k ++ l.drop k = l := List.take_append_drop k l
  obtain ⟨m2, c2, b2, e, h⟩ := turn_le (a := l.take k) (b := l.drop k) (q := q) (m := m) (c := c) (by rw [el]; exact hl) (by rw [el]; exact hs) hq (by rw [el]; exact hb)
  obtain ⟨m3, c3, b3, e3, h3⟩ := turn_le (a := l.drop k) (b := l.take k) (q := q) (m := m2) (c := c2) (by rw [List.length_append]; have := congrArg List.length el; rw [List.length_append] at this; omega)
    (fun y hy => hs y (by rcases List.mem_append.1 hy with hy | hy; exact List.mem_of_mem_drop hy; exact List.mem_of_mem_take hy)) hq b2
  rw [el] at b3
  have g1 := (hb.least m3 b3.mem b3.right).1
  rw [← b3.cost] at g1
  exact ⟨m2, by rw [e, show c2 = c by omega]⟩
theorem looser_ok {l : List Supply} {v le mo le2 mo2 : Int} {m : List Int} {c : Int} (hl : ¬ l.length > 4) (hs : SupsOk l) (hq : MixB ⟨v, le, mo⟩) (h0 : 0 ≤ le2) (h1 : le2 ≤ le) (h2 : mo ≤ mo2) (h3 : mo2 ≤ 10000) (hb : Best1 l ⟨v, le, mo⟩ (allM l) m c) : ∃ m2 c2, mixA l ⟨v, le2, mo2⟩ = (m2, c2, 0) ∧ c2 ≤ c := by
  obtain ⟨⟨v1, v2⟩, ⟨t1, t2⟩, l1, l2⟩ := id hq
  dsimp only at v1 v2 t1 t2 l1 l2
  obtain ⟨r1, r2, r3⟩ := hb.right
  dsimp only at r1 r2 r3
  have e1 := Int.mul_le_mul_of_nonneg_right h1 (show 0 ≤ v by omega)
  have e2 := Int.mul_le_mul_of_nonneg_right h2 (show 0 ≤ v by omega)
  obtain ⟨m2, c2, _, e, h⟩ := better (l := l) (q := ⟨v, le2, mo2⟩) (m := m) hl hs ⟨⟨v1, v2⟩, ⟨by dsimp only; omega, by dsimp only; omega⟩, by dsimp only; omega, by dsimp only; omega⟩ (mem_allM hb.mem).1 (mem_allM hb.mem).2
    ⟨r1, by dsimp only; omega, by dsimp only; omega⟩
  exact ⟨m2, c2, e, by rw [hb.cost]; exact h⟩
theorem mix_cases3 {l : List Supply} {q : Ask} (h : ¬ l.length > 4) : (∃ e, e ≠ 0 ∧ mixA l q = ([], 0, e)) ∨ ∃ m c, SupsOk l ∧ MixB q ∧ Best1 l q (allM l) m c ∧ mixA l q = (m, c, 0) := by
  rcases mix_cases1 (l := l) (q := q) with ⟨h1, _⟩ | ⟨_, _, e⟩ | ⟨_, hs⟩
  · exact absurd h1 h
  · exact .inl ⟨1, by decide, e⟩
  · rcases mix_cases2 (q := q) h hs with ⟨_, e⟩ | ⟨_, _, e⟩ | ⟨m, c, hq, hb, e⟩
    · exact .inl ⟨2, by decide, e⟩
    · exact .inl ⟨4, by decide, e⟩
    · exact .inr ⟨m, c, hs, hq, hb, e⟩
theorem wider_any {l : List Supply} {q : Ask} {m : List Int} {c : Int} {x : Supply} (hl : l.length < 4) (hs : SupsOk l) (hq : MixB q) (hb : Best1 l q (allM l) m c) : ∃ m2 c2 e2, mixA (l ++ [x]) q = (m2, c2, e2) ∧ (SupsOk [x] ∧ e2 = 0 ∧ c2 ≤ c ∨ ¬ SupsOk [x] ∧ e2 = 1) := by
  by_cases hx : supOk x
  · obtain ⟨m2, c2, e, h⟩ := wider_ok hl hs hq hb hx
    exact ⟨m2, c2, 0, e, .inl ⟨fun y hy => by rw [List.mem_singleton.1 hy]; exact hx, rfl, h⟩⟩
  · exact ⟨[], 0, 1, wider_bad hl hx, .inr ⟨fun h => hx (h x (by simp)), rfl⟩⟩
end Go.Proofs.Ytjbfdfmngampdaa
