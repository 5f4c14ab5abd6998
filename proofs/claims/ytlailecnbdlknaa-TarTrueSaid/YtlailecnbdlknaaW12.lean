/-
  Walks.
-/
import Derived.Test.YtlailecnbdlknaaW11
import Derived.Test.YtlailecnbdlknaaP3
namespace Go.Proofs.Ytlailecnbdlknaa
open Go Go.H
set_option maxRecDepth 100000
set_option maxHeartbeats 2000000
set_option linter.all false
theorem sortV_c {V : Vec} {xs : List Int} {f : Value} {cm : Int → Int → Int} {L : Hp} {R : Ending → Hp → Prop} (hc : Cmp cm) (hn : xs.length ≤ 12) (hV : V.ok 1 xs.length (xs.flatMap eI))
    (hf : ∀ i k, i ∈ xs → k ∈ xs → ∀ H R', L ⊆ H → R' (.returned (I (cm i k))) H → AFn Try.prog f [I i, I k] H R')
    (H : ∀ zs : List Int, zs.Perm xs → zs.Pairwise (fun a b => ¬ cm b a < 0) → V.ok 1 zs.length (zs.flatMap eI) → R (.returned (.tuple #[])) (V.hp 3 (zs.flatMap eI) ++ L)) :
    ACalls Try.prog 53 ⟨[V.val xs.length, f]⟩ (V.hp 3 (xs.flatMap eI) ++ L) R := by
  cases V with
  | nil =>
    obtain ⟨h1, h2⟩ := hV
    obtain rfl : xs = [] := List.length_eq_zero_iff.1 h2
    exact sortnil_c (H [] (.refl _) List.Pairwise.nil ⟨rfl, rfl⟩)
  | «at» b cap sp =>
    refine sort_c hc hn hf (fun zs h1 h2 => H zs h1 h2 ?_)
    obtain ⟨q1, q2, q3⟩ := hV
    have hl := h1.length_eq
    have e1 := ints_len zs
    have e2 := ints_len xs
    refine ⟨by omega, by omega, ?_⟩
    rw [List.length_append] at q3 ⊢; omega

end Go.Proofs.Ytlailecnbdlknaa
