/-
  Rules for the laws' walks: bools that are compared, comparisons that are known.
-/
import Derived.Test.YtjmailhoidenaaaH17
import Derived.Test.YtjmailhoidenaaaH15
set_option linter.all false
namespace Go.H
open Go
variable {P : Program} {r : Option Nat} {E : Env} {h : Hp}
variable {K : Value → Hp → Prop} {T : List PanicEntry → Hp → Prop} {dst : Option Nat} {ty : TypeId} {pos : String} {af : Array Edge} {gd : Option (Nat × Bool)} {xt yt : TypeId} {x y : Operand}
theorem equalB {t : TypeId} (ht : P.underlying t = some .bool) (a b : Bool) (w : World) : (Op.equalIn (9999 + 1) t (.bool a) (.bool b)).run P w = .ok (a == b) w := by
  have hq0 : ∀ n, (Op.equalIn (n + 1) t (.bool a) (.bool b)).run P w = .ok (a == b) w := fun n => by
    simp only [Op.equalIn, Sem.run_bind, run_underlying ht, Result.andThen_ok, Sem.run_pure]
  exact hq0 9999
theorem xv_neB {a b c : Bool} (ht : P.underlying xt = some .bool) (hx : ev E x = some (.bool a)) (hy : ev E y = some (.bool b)) (hc : (!(a == b)) = c) (H : K (.bool c) h) : XV P r ⟨dst, .binOp .neq xt x y yt, ty, pos, af, gd⟩ K T E h :=
  xv_of_run (by simp [plainOp]) fun w ρ ho he => ⟨_, h, w, by
    have hg : ∀ w, (eqGuard .neq xt x y (.bool a) (.bool b)).run P w = .ok () w := fun w => by unfold eqGuard; simp
    rw [run_bin (he _ _ hx) (he _ _ hy) hg]
    have hb : (binOp .neq xt (.bool a) (.bool b)).run P w = .ok (.bool (!(a == b))) w := by
      show (do let b ← Op.equalIn (9999 + 1) xt _ _; pure (Value.bool (!b)) : Sem Value).run P w = _
      simp only [Sem.run_bind, equalB ht, Result.andThen_ok, Sem.run_pure]
    rw [hb]; subst hc; rfl, H, .refl ho⟩
theorem xv_eqB {a b c : Bool} (ht : P.underlying xt = some .bool) (hx : ev E x = some (.bool a)) (hy : ev E y = some (.bool b)) (hc : (a == b) = c) (H : K (.bool c) h) : XV P r ⟨dst, .binOp .eql xt x y yt, ty, pos, af, gd⟩ K T E h :=
  xv_of_run (by simp [plainOp]) fun w ρ ho he => ⟨_, h, w, by
    have hg : ∀ w, (eqGuard .eql xt x y (.bool a) (.bool b)).run P w = .ok () w := fun w => by unfold eqGuard; simp
    rw [run_bin (he _ _ hx) (he _ _ hy) hg]
    have hb : (binOp .eql xt (.bool a) (.bool b)).run P w = .ok (.bool (a == b)) w := by
      show (do let b ← Op.equalIn (9999 + 1) xt _ _; pure (Value.bool b) : Sem Value).run P w = _
      simp only [Sem.run_bind, equalB ht, Result.andThen_ok, Sem.run_pure]
    rw [hb]; subst hc; rfl, H, .refl ho⟩
/-- A comparison of integers whose outcome is known. -/
theorem xv_cmpK {op : BinOp} {k : IntKind} {a b : Int} {c : Bool} (hx : ev E x = some (.int k a)) (hy : ev E y = some (.int k b)) (hc : cmpB op a b = some c) (H : K (.bool c) h) : XV P r ⟨dst, .binOp op xt x y yt, ty, pos, af, gd⟩ K T E h := xv_cmp hx hy hc H
theorem cmpT {op : BinOp} {a b : Int} (hp : cmpP op a b) : cmpB op a b = some true := by
  cases op <;> simp only [cmpP] at hp <;> simp [cmpB, hp]
theorem cmpF {op : BinOp} {a b : Int} (hq : (cmpB op a b).isSome = true) (hp : ¬ cmpP op a b) : cmpB op a b = some false := by
  cases op <;> simp only [cmpP] at hp <;> simp [cmpB] at hq ⊢ <;> omega
/-- Literal cells that hold a list. -/
theorem slvL {α : Type} {sz : Nat} {enc : α → List Value} {b t : Nat} {fz : Nat × Nat} {xs : List α} (henc : ∀ x, (enc x).length = sz) (hm : (b, .cells ⟨xs.flatMap enc⟩ t fz) ∈ h) : SlV h sz enc (some ⟨b, 0, none⟩) xs := by
  refine .inr ⟨b, 0, xs.flatMap enc, t, fz, rfl, hm, fun i x hx => ?_⟩
  have := flat_at henc [] xs i hx
  simpa using this
end Go.H
