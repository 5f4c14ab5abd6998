/-
  All right mixtures, one after the other; the first of the cheapest.
-/
import Derived.Test.YtjbfdfmngampdaaP5
set_option linter.all false
namespace Go.Proofs.Ytjbfdfmngampdaa
open Go Go.H
theorem inM_take : ∀ {l : List Supply} {m : List Int} (k : Nat), InM l m → InM l (m.take k)
  | l, m, 0, _ => by rw [List.take_zero]; exact inM_nil l
  | l, [], k + 1, _ => by simp only [List.take_nil]; exact inM_nil l
  | [], n :: m, k + 1, h => h.elim
  | x :: l, n :: m, k + 1, h => ⟨h.1, inM_take k h.2⟩
theorem inM_at : ∀ {l : List Supply} {m : List Int} {k : Nat} {x : Supply} {n : Int}, InM l m → l[k]? = some x → m[k]? = some n → 0 ≤ n ∧ n ≤ x.most
  | [], m, k, x, n, _, hx, _ => by simp at hx
  | y :: l, [], k, x, n, _, _, hn => by simp at hn
  | y :: l, q :: m, 0, x, n, h, hx, hn => by simp at hx hn; subst hx hn; exact h.1
  | y :: l, q :: m, k + 1, x, n, h, hx, hn => inM_at h.2 (by simpa using hx) (by simpa using hn)
theorem sumZ_take (f : Supply → Int) {l : List Supply} {m : List Int} {k : Nat} {x : Supply} {n : Int} (hx : l[k]? = some x) (hn : m[k]? = some n) : sumZ f l (m.take (k + 1)) = sumZ f l (m.take k) + n * f x := by
  have hl := (List.getElem?_eq_some_iff.1 hn).1
  have hk : (m.take k).length = k := by rw [List.length_take]; omega
  rw [List.take_add_one, hn]
  exact sumZ_snoc f (by rw [hk]; exact hx) n
/-- A list's head, as it lies in a list of lists. -/
structure Hd where
  a : Option Addr
  c : Nat
  m : List Int
/-! ### The cheapest -/
end Go.Proofs.Ytjbfdfmngampdaa
