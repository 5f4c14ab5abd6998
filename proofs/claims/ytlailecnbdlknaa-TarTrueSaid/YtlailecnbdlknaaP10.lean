/-
  What the laws use of the walked functions, for a yard that is valid; another plan, by remainders.
-/
import Derived.Test.YtlailecnbdlknaaW17
import Derived.Test.YtlailecnbdlknaaW14
import Derived.Test.YtlailecnbdlknaaW6
import Derived.Test.YtlailecnbdlknaaW21
import Derived.Test.YtlailecnbdlknaaP7
import Derived.Test.YtlailecnbdlknaaP9
set_option linter.all false
namespace Go.Proofs.Ytlailecnbdlknaa
open Go Go.H
set_option maxRecDepth 100000
section
variable {y : Yard} {h : Hp} {R : Ending → Hp → Prop}
theorem YardsT_c (hv : YardV h y) (hy : GoodYard y) (H : R (.returned (.bool true)) h) : ACalls Try.prog 21 ⟨[.agg ⟨eYard y⟩]⟩ h R := Yards_c hv (fun _ => H) (fun hn => absurd hy hn)
theorem YardsF_c (hv : YardV h y) (hy : ¬ GoodYard y) (H : R (.returned (.bool false)) h) : ACalls Try.prog 21 ⟨[.agg ⟨eYard y⟩]⟩ h R := Yards_c hv (fun hn => absurd hn hy) (fun _ => H)
theorem PlanB_c (hv : YardV h y) (hs : Small y) (H1 : ¬ GoodYard y → R (.returned (.tuple ⟨[.slice none 0 0, I 0, I 1]⟩)) h)
    (H2 : GoodYard y → ∀ q m, bestY y = some (q, m) → IsBest y q m → ∀ a c hp, SlV hp 1 eI a q → R (.returned (.tuple ⟨[.slice a q.length c, I m, I 0]⟩)) (hp ++ h)) :
    ACalls Try.prog 11 ⟨[.agg ⟨eYard y⟩]⟩ h R := by
  refine Plan_c hv hs H1 (fun hy a c hp hsl => ?_)
  obtain ⟨q, m, hb, hB⟩ := best_is hy
  have := H2 hy q m hb hB a c hp (by rw [hb] at hsl; exact hsl)
  rw [hb]
  exact this
variable {a : Option Addr} {c : Nat} {plan : List Int}
theorem IncomeT_c {g : Goods} {n : Nat} (hv : YardV h y) (hs : Small y) (hp : SlV h 1 eI a plan) (hn : plan.length = n) (hy : GoodYard y) (hl : plan.length = y.stills.length) (ho : PlanOk y plan) (hg : afterG y.stills plan (newG y) = some g)
    (H : ∀ b, R (.returned (.tuple ⟨[I (incomeY y plan g), .slice (some ⟨b, 0, none⟩) y.sales.length y.sales.length, I 0]⟩)) ((b, .cells ⟨(sellY y g).sold.flatMap eI ++ []⟩ 3) :: h)) :
    ACalls Try.prog 16 ⟨[.agg ⟨eYard y⟩, .slice a n c]⟩ h R := by
  subst hn
  exact Income_c hv hs hp (fun hn => absurd hy hn) (fun _ hn => absurd ⟨hl, ho⟩ hn) (fun _ _ _ hn => by rw [hg] at hn; cases hn) (fun _ _ _ g' b hg' _ => by rw [hg] at hg'; cases hg'; exact H b)
theorem IncomeO_c {n : Nat} (hv : YardV h y) (hs : Small y) (hp : SlV h 1 eI a plan) (hn : plan.length = n) (hy : GoodYard y) (hl : plan.length = y.stills.length) (ho : PlanOk y plan) (H3 : afterG y.stills plan (newG y) = none → R (.returned (.tuple ⟨[I 0, .slice none 0 0, I 10]⟩)) h)
    (H4 : ∀ g b, afterG y.stills plan (newG y) = some g → R (.returned (.tuple ⟨[I (incomeY y plan g), .slice (some ⟨b, 0, none⟩) y.sales.length y.sales.length, I 0]⟩)) ((b, .cells ⟨(sellY y g).sold.flatMap eI ++ []⟩ 3) :: h)) :
    ACalls Try.prog 16 ⟨[.agg ⟨eYard y⟩, .slice a n c]⟩ h R := by
  subst hn
  exact Income_c hv hs hp (fun hn => absurd hy hn) (fun _ hn => absurd ⟨hl, ho⟩ hn) (fun _ _ _ hn => H3 hn) (fun _ _ _ g' b hg' _ => H4 g' b hg')
end
def s0 : Still := ⟨0, 1, none, 0, [], 0, 0⟩
def oth (y : Yard) (by_ : List Int) (n : Nat) : List Int := (List.range n).map fun i => (by_.getD (i % by_.length) 0).tmod ((y.stills.getD i s0).most + 1)
theorem oth_len {y : Yard} {by_ : List Int} {n : Nat} : (oth y by_ n).length = n := by simp [oth]
theorem oth_succ {y : Yard} {by_ : List Int} {k : Nat} {x : Still} {b : Int} (hk : y.stills[k]? = some x) (hb : by_[k % by_.length]? = some b) : oth y by_ (k + 1) = oth y by_ k ++ [b.tmod (x.most + 1)] := by
  simp [oth, List.range_succ, List.getD, hk, hb]
theorem oth_ok {y : Yard} {by_ : List Int} {n : Nat} (hy : GoodYard y) (hb : ∀ x ∈ by_, 0 ≤ x) (h0 : 0 < by_.length) : PlanOk y (oth y by_ n) := fun k x t hx ht => by
  have hk : k < n := by have := (List.getElem?_eq_some_iff.1 ht).1; rwa [oth_len] at this
  have hl : k % by_.length < by_.length := Nat.mod_lt _ h0
  have hm := (hy.stills k x hx).2.2.2.2.1
  simp only [oth, List.getElem?_map, List.getElem?_range hk, Option.map_some, Option.some.injEq, List.getD, hx, Option.getD_some, List.getElem?_eq_getElem hl] at ht
  subst ht
  have := tmod_bd (a := by_[k % by_.length]) (d := x.most + 1) (hb _ (List.getElem_mem hl)) (by omega)
  omega
end Go.Proofs.Ytlailecnbdlknaa
