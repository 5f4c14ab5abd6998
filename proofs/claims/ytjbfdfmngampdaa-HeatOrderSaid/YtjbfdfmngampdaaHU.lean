/-
  Rules: maps with structs as keys (sets), calls of methods through interfaces.
-/
import Derived.Test.YtjbfdfmngampdaaHT
set_option linter.all false
namespace Go.H
open Go
section
variable {P : Program} {r : Option Nat} {E : Env} {h : Hp}
variable {K : Value → Hp → Prop} {T : List PanicEntry → Hp → Prop} {dst : Option Nat} {ty : TypeId} {pos : String} {af : Array Edge} {gd : Option (Nat × Bool)}
/-! ### Sets: maps from structs -/
/-! ### Parts of a list -/
theorem SlV.drop {α : Type} {sz : Nat} {enc : α → List Value} {b o : Nat} {xs : List α} (H : SlV h sz enc (some ⟨b, o, none⟩) xs) (k : Nat) : SlV h sz enc (some ⟨b, o + k * sz, none⟩) (xs.drop k) := by
  rcases H with rfl | ⟨b2, o2, l, t, fz, h1, h2, h3⟩
  · exact .inl (by simp)
  · cases h1
    refine .inr ⟨b, o + k * sz, l, t, fz, rfl, h2, fun i x hx => ?_⟩
    rw [List.getElem?_drop] at hx
    have := h3 (k + i) x hx
    rw [Nat.add_mul] at this
    rw [Nat.add_assoc]; exact this
def dropA (a : Option Addr) (c m sz : Nat) : Option Addr := if c = m then a else a.map fun z => z.add (m * sz)
theorem xv_sliceFrom {x y : Operand} {t e : TypeId} {d : TD} {a : Option Addr} {n c m sz : Nat} {k : IntKind} {i : Int} (ht : SlT P t e) (hd : TyOk P e d) (hsz : d.size = sz) (hx : ev E x = some (.slice a n c)) (hy : ev E y = some (.int k i)) (hm : i.toNat = m) (h0 : 0 ≤ i) (h1 : i ≤ n)
    (H : K (.slice (dropA a c m sz) (n - m) (c - m)) h) : XV P r ⟨dst, .slice t x (some y) none none, ty, pos, af, gd⟩ K T E h := by
  subst hsz hm
  refine xv_of_run (by simp [plainOp]) fun w ρ ho he => ⟨_, h, w, ?_, H, .refl ho⟩
  have hb := run_sliceBoundH (P := P) (k := k) (y := n) (code := .sliceB) (w := w) h0 h1
  simp only [execOp, he _ _ hx, Option.map_none, Option.map_some, he _ _ hy]
  simp [Instr.sliceAt, run_underlying ht, Instr.slice, Instr.sliceBounds, hb, hd.run_size, dropA]
end
end Go.H
