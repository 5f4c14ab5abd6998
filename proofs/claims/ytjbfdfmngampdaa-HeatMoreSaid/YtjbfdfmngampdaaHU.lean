/-
  Rules: maps with structs as keys (sets), calls of methods through interfaces.
-/
import Derived.Test.YtjbfdfmngampdaaHT
set_option linter.all false
namespace Go.H
open Go
section
variable {P : Program} {r : Option Nat} {E : Env} {h : Hp}
variable {K : Value → Hp → Prop} {T : List PanicEntry → Hp → Prop} {dst : Option Nat} {ty : TypeId} {pos : String} {af : Array Edge} {gd : Option (Nat × Bool)}
/-! ### Sets: maps from structs -/
/-! ### Parts of a list -/
theorem SlV.drop {α : Type} {sz : Nat} {enc : α → List Value} {b o : Nat} {xs : List α} (H : SlV h sz enc (some ⟨b, o, none⟩) xs) (k : Nat) : SlV h sz enc (some ⟨b, o + k * sz, none⟩) (xs.drop k) := by
  rcases H with rfl | ⟨b2, o2, l, t, fz, h1, h2, h3⟩
  · exact .inl (by simp)
  · cases h1
    refine .inr ⟨b, o + k * sz, l, t, fz, rfl, h2, fun i x hx => ?_⟩
    rw [List.getElem?_drop] at hx
    have := h3 (k + i) x hx
    rw [Nat.add_mul] at this
    rw [Nat.add_assoc]; exact this
def dropA (a : Option Addr) (c m sz : Nat) : Option Addr := if c = m then a else a.map fun z => z.add (m * sz)
theorem slv_dropA {α : Type} {enc : α → List Value} {a : Option Addr} {c m sz : Nat} {l : List α} (hl : SlV h sz enc a l) (hc : l.length ≤ c) : SlV h sz enc (dropA a c m sz) (l.drop m) := by
  by_cases hlt : m < l.length
  · obtain ⟨b, o, li, t9, fz, ha, hm, hx9⟩ := hl.at hlt
    subst ha
    unfold dropA
    split
    · omega
    · have := SlV.drop hl m
      have e : (⟨b, o, none⟩ : Addr).add (m * sz) = ⟨b, o + m * sz, none⟩ := addr_add _ _ _
      simp only [Option.map_some, e]
      exact this
  · exact .inl (List.drop_eq_nil_of_le (by omega))
theorem xv_sliceFrom {x y : Operand} {t e : TypeId} {d : TD} {a : Option Addr} {n c m sz : Nat} {k : IntKind} {i : Int} (ht : SlT P t e) (hd : TyOk P e d) (hsz : d.size = sz) (hx : ev E x = some (.slice a n c)) (hy : ev E y = some (.int k i)) (hm : i.toNat = m) (h0 : 0 ≤ i) (h1 : i ≤ n)
    (H : K (.slice (dropA a c m sz) (n - m) (c - m)) h) : XV P r ⟨dst, .slice t x (some y) none none, ty, pos, af, gd⟩ K T E h := by
  subst hsz hm
  refine xv_of_run (by simp [plainOp]) fun w ρ ho he => ⟨_, h, w, ?_, H, .refl ho⟩
  have hb := run_sliceBoundH (P := P) (k := k) (y := n) (code := .sliceB) (w := w) h0 h1
  simp only [execOp, he _ _ hx, Option.map_none, Option.map_some, he _ _ hy]
  simp [Instr.sliceAt, run_underlying ht, Instr.slice, Instr.sliceBounds, hb, hd.run_size, dropA]
end
end Go.H
