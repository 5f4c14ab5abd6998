/-
  Iterators that hand out what they made themselves; parts of slices and of arrays; a slice beside nil; a full slice that grows.
-/
import Derived.Test.YtjbfdfmngampdaaHE
import Derived.Laws.MakeOwn
set_option linter.all false
namespace Go.H
open Go
variable {P : Program} {r : Option Nat} {N : Nat} {Q : Post} {E : Env} {D : List Deferred} {h h' : Hp}
section
variable {K : Value → Hp → Prop} {T : List PanicEntry → Hp → Prop} {dst : Option Nat} {ty : TypeId} {pos : String} {af : Array Edge} {gd : Option (Nat × Bool)}
theorem xv_eqNilS {x y : Operand} {xt yt e : TypeId} {a : Option Addr} {n c n' c' : Nat} {b : Bool} (ht : SlT P xt e) (hx : ev E x = some (.slice a n c)) (hy : ev E y = some (.slice none n' c')) (hb : a.isNone = b) (H : K (.bool b) h) : XV P r ⟨dst, .binOp .eql xt x y yt, ty, pos, af, gd⟩ K T E h :=
  xv_of_run (by simp [plainOp]) fun w ρ ho he => ⟨_, h, w, by
    have hg : ∀ w, (eqGuard .eql xt x y (.slice a n c) (.slice none n' c')).run P w = .ok () w := fun w => by unfold eqGuard; simp
    rw [run_bin (he _ _ hx) (he _ _ hy) hg]
    have hq0 : ∀ m, (Op.equalIn (m + 1) xt (.slice a n c) (.slice none n' c')).run P w = .ok a.isNone w := fun m => by
      cases a <;> simp only [Op.equalIn, Sem.run_bind, run_underlying ht, Result.andThen_ok, Sem.run_pure, Option.isNone]
    have hq := hq0 9999
    have hb2 : (binOp .eql xt (.slice a n c) (.slice none n' c')).run P w = .ok (.bool a.isNone) w := by
      show (do let b ← Op.equalIn (9999 + 1) xt _ _; pure (Value.bool b) : Sem Value).run P w = _
      simp only [Sem.run_bind, hq, Result.andThen_ok, Sem.run_pure]
    rw [hb2]; subst hb; rfl, H, .refl ho⟩
theorem wrap_u64 {n : Int} (h1 : 0 ≤ n) (h2 : n ≤ 9223372036854775807) : IntKind.u64.wrap n = n := by
  rw [IntKind.wrap_u64]; omega
theorem wrap_u8 {n : Int} (h1 : 0 ≤ n) (h2 : n ≤ 255) : IntKind.u8.wrap n = n := by
  rw [IntKind.wrap_u8]; omega
end
end Go.H
