/-
  Plain facts for the reference's functions.
-/
import Derived.Test.YtlailecnbdlknaaP1
set_option linter.all false
namespace Go.Proofs.Ytlailecnbdlknaa
open Go Go.H
def eH (n : Int) : List Value := [.int .u16 n]
def eB (n : Int) : List Value := [.int .u8 n]
theorem eH_len (x : Int) : (eH x).length = 1 := rfl
theorem eB_len (x : Int) : (eB x).length = 1 := rfl
theorem pow9 {k : Nat} (h : k ≤ 10) : 1 ≤ ((9 ^ k : Nat) : Int) ∧ ((9 ^ k : Nat) : Int) ≤ 3486784401 := by
  have h1 : 9 ^ k ≤ 9 ^ 10 := Nat.pow_le_pow_right (by omega) h
  have h2 : 0 < 9 ^ k := Nat.pow_pos (by omega)
  have h3 : (9 : Nat) ^ 10 = 3486784401 := by decide
  omega
theorem pow9_mul {k : Nat} {n m : Int} (h1 : 1 ≤ n) (h2 : n ≤ ((9 ^ k : Nat) : Int)) (h3 : 0 ≤ m) (h4 : m ≤ 8) : 1 ≤ n * (1 + m) ∧ n * (1 + m) ≤ ((9 ^ (k + 1) : Nat) : Int) := by
  have h5 := mul_bd (a := n) (b := m) (A := ((9 ^ k : Nat) : Int)) (B := 8) (by omega) h2 h3 h4
  have h6 : n * (1 + m) = n + n * m := by rw [Int.mul_add, Int.mul_one]
  have h7 : ((9 ^ (k + 1) : Nat) : Int) = ((9 ^ k : Nat) : Int) * 9 := by rw [Nat.pow_succ]; push_cast; rfl
  omega
theorem take_allS {α : Type} {P : α → Prop} {l : List α} {k : Nat} {x : α} (h : l[k]? = some x) (h1 : ∀ y ∈ l.take k, P y) (h2 : P x) : ∀ y ∈ l.take (k + 1), P y := by
  rw [List.take_add_one, h]
  intro y hy
  rcases List.mem_append.1 hy with hy | hy
  · exact h1 y hy
  · simp at hy; subst hy; exact h2
end Go.Proofs.Ytlailecnbdlknaa
