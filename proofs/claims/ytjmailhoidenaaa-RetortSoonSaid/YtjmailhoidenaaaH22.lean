/-
  Ways that meet again.
-/
import Derived.Test.YtjmailhoidenaaaH21
set_option linter.all false
namespace Go.H
open Go
variable {P : Program} {r : Option Nat} {N : Nat} {Q : Post} {E : Env} {D : List Deferred} {h : Hp}
def Jn {σ : Type} (I : σ → Prop) (EI : σ → Env) (HI : σ → Hp) (Q : Post) (D : List Deferred) : Post := fun e E' D' h' => match e with
  | .normal => D' = D ∧ ∃ g, I g ∧ EnvLe (EI g) E' ∧ List.Sublist (HI g) h'
  | e => Q e E' D' h'
/-- Two codes, one behind the other, and what is so between them. -/
theorem xc_join {σ : Type} {x y : Code} (I : σ → Prop) (EI : σ → Env) (HI : σ → Hp) (H1 : XC P r N x (Jn I EI HI Q D) E D h) (H2 : ∀ g, I g → XC P r N y Q (EI g) D (HI g)) : XC P r N (.seq x y) Q E D h := by
  refine xc_seq (H1.mono fun e E' D' h' q => ?_)
  cases e with
  | normal => obtain ⟨rfl, g, i, l, s⟩ := q; exact (H2 g i).weaken l s
  | _ => exact q
section
variable {σ : Type} {I : σ → Prop} {EI : σ → Env} {HI : σ → Hp} {id : Nat} {ch : List PanicEntry}
theorem jn_n (g : σ) (hI : I g) (hl : EnvLe (EI g) E) (hs : List.Sublist (HI g) h) : Jn I EI HI Q D .normal E D h := ⟨rfl, g, hI, hl, hs⟩
theorem jn_x (H : Q (.exit id) E D h) : Jn I EI HI Q D (.exit id) E D h := H
theorem jn_r (H : Q .ret E D h) : Jn I EI HI Q D .ret E D h := H
theorem jn_p (H : Q (.panic ch) E D h) : Jn I EI HI Q D (.panic ch) E D h := H
end
end Go.H
