/-
  A copy of a slice of one's own; three blocks that stay.
-/
import Derived.Test.YtjmailhoidenaaaH20
set_option linter.all false
namespace Go.H
open Go
variable {P : Program} {r : Option Nat} {E : Env} {h h' : Hp}
variable {K : Value → Hp → Prop} {T : List PanicEntry → Hp → Prop} {dst : Option Nat} {ty : TypeId} {pos : String} {af : Array Edge} {gd : Option (Nat × Bool)}
theorem xv_copyV {α : Type} {enc : α → List Value} {x y : Operand} {t e : TypeId} {d : TD} {b sz n : Nat} {V : Vec} {xs : List α} {g : Hp} (ht : SlT P t e) (hd : TyOk P e d) (hzs : d.zero.cells.size = d.size) (hsz : d.size = sz)
    (hx : ev E x = some (.slice (some ⟨b, 0, none⟩) 0 0)) (hy : ev E y = some (V.val n)) (hn : n = xs.length) (hV : V.ok sz n (xs.flatMap enc)) (hsub : V.hp e (xs.flatMap enc) ⊆ g) (henc : ∀ x, (enc x).length = sz) (h1 : ∀ x, (enc x).all Value.oneCell' = true)
    (hb : 2 * xs.length * d.bytes ≤ 281474976710656) (h63 : xs.length ≤ 9223372036854775807)
    (H : ∀ V : Vec, V.ok sz xs.length (xs.flatMap enc) → K (V.val xs.length) (V.hp e (xs.flatMap enc) ++ g)) : XV P r ⟨dst, .call ⟨.builtin .append, #[x, y], #[t, t]⟩, ty, pos, af, gd⟩ K T E ((b, .cells ⟨[]⟩ e (0, 0)) :: g) := by
  subst hn
  obtain ⟨sa, sc, hv, hs⟩ := Vec.slv henc hV hsub
  exact xv_copy ht hd hzs hsz hx (by rw [hy, hv]) hs henc h1 hb h63 H
theorem holds3 {b1 b2 b3 : Nat} {o1 o2 o3 : Obj} {p1 p2 p3 : Obj → Prop} (m1 : (b1, o1) ∈ h) (q1 : p1 o1) (m2 : (b2, o2) ∈ h) (q2 : p2 o2) (m3 : (b3, o3) ∈ h) (q3 : p3 o3) : Holds [(b1, p1), (b2, p2), (b3, p3)] h := fun b' p' hb => by
  simp only [List.mem_cons, List.not_mem_nil, or_false, Prod.mk.injEq] at hb
  rcases hb with ⟨rfl, rfl⟩ | ⟨rfl, rfl⟩ | ⟨rfl, rfl⟩
  · exact ⟨o1, m1, q1⟩
  · exact ⟨o2, m2, q2⟩
  · exact ⟨o3, m3, q3⟩
theorem XR.perm {N : Nat} {ops : Array Oper} {i : Nat} {Q : Post} {D : List Deferred} (hp : List.Perm h h') (H : XR P r N ops i Q E D h) : XR P r N ops i Q E D h' := by
  intro w a ho ha hd
  refine wpOpsIn_mono ?_ _ _ _ (H w a (ho.perm hp) ha hd)
  rintro e a' w' ⟨E2, h2, q, ha2, hf⟩
  exact ⟨E2, h2, q, ha2, hf.permL hp.symm⟩
theorem perm2 {α : Type _} {V K : List α} {a b : α} : List.Perm (V ++ a :: b :: K) (b :: a :: (V ++ K)) :=
  List.perm_middle.trans ((List.perm_middle.cons _).trans (List.Perm.swap _ _ _))
end Go.H
