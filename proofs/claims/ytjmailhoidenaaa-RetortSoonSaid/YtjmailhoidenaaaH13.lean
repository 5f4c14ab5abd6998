/-
  A slice that reads as a list of structs.
-/
import Derived.Test.YtjmailhoidenaaaH12
set_option linter.all false
namespace Go.H
open Go
variable {P : Program} {h h' : Hp}
/-- From address a on lie the elements' cells, sz a piece. -/
def SlV {α : Type} (h : Hp) (sz : Nat) (enc : α → List Value) (a : Option Addr) (xs : List α) : Prop :=
  xs = [] ∨ ∃ b o l t fz, a = some ⟨b, o, none⟩ ∧ (b, .cells ⟨l⟩ t fz) ∈ h ∧ ∀ i x, xs[i]? = some x → (l.drop (o + i * sz)).take sz = enc x
theorem SlV.at {α : Type} {sz : Nat} {enc : α → List Value} {a : Option Addr} {xs : List α} (H : SlV h sz enc a xs) {i : Nat} (hi : i < xs.length) :
    ∃ b o l t fz, a = some ⟨b, o, none⟩ ∧ (b, .cells ⟨l⟩ t fz) ∈ h ∧ ∀ i x, xs[i]? = some x → (l.drop (o + i * sz)).take sz = enc x := by
  rcases H with rfl | H
  · simp at hi
  · exact H
theorem SlV.sub {α : Type} {sz : Nat} {enc : α → List Value} {a : Option Addr} {xs : List α} (H : SlV h sz enc a xs) (hs : h ⊆ h') : SlV h' sz enc a xs := by
  rcases H with rfl | ⟨b, o, l, t, fz, h1, h2, h3⟩
  · exact .inl rfl
  · exact .inr ⟨b, o, l, t, fz, h1, hs h2, h3⟩
theorem SlV.cons {α : Type} {sz : Nat} {enc : α → List Value} {a : Option Addr} {xs : List α} (H : SlV h sz enc a xs) (x : Nat × Obj) : SlV (x :: h) sz enc a xs := H.sub (List.subset_cons_self _ _)
/-- One cell of one element. -/
theorem take_get {l e : List Value} {o sz j : Nat} {v : Value} (hl : (l.drop o).take sz = e) (hj : e[j]? = some v) : l[o + j]? = some v := by
  subst hl
  have hlt : j < sz := by
    have := (List.getElem?_eq_some_iff.1 hj).1
    simp at this; omega
  rwa [List.getElem?_take_of_lt hlt, List.getElem?_drop] at hj
end Go.H
