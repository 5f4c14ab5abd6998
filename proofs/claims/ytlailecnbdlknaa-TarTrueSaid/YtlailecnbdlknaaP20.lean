/-
  Results in one form: what the program's functions return for any plan.
-/
import Derived.Test.YtlailecnbdlknaaP10
import Derived.Test.YtlailecnbdlknaaP11
import Derived.Test.YtlailecnbdlknaaHG
set_option linter.all false
namespace Go.Proofs.Ytlailecnbdlknaa
open Go Go.H
set_option maxRecDepth 100000
theorem slv_vec {V : Vec} {sz n : Nat} {t : TypeId} {α : Type} {enc : α → List Value} {xs : List α} (henc : ∀ x, (enc x).length = sz) (hn : xs.length = n) (hV : V.ok sz n (xs.flatMap enc)) : ∃ a c, V.val n = .slice a n c ∧ SlV (V.hp t (xs.flatMap enc)) sz enc a xs := by
  subst hn
  obtain ⟨a, c, e, hs⟩ := Vec.slv (enc := enc) (t := t) (h := V.hp t (xs.flatMap enc)) henc hV (fun _ hz => hz)
  exact ⟨a, c, e, hs⟩
open Classical in
noncomputable def leftR (y : Yard) (plan : List Int) : List Span × Int :=
  if GoodYard y then if plan.length = y.stills.length ∧ PlanOk y plan then match afterG y.stills plan (newG y) with
    | some g => (gl g y.stock.length, 0)
    | none => ([], 10) else ([], 2) else ([], 1)
open Classical in
noncomputable def incR (y : Yard) (plan : List Int) : Int × List Int × Int :=
  if GoodYard y then if plan.length = y.stills.length ∧ PlanOk y plan then match afterG y.stills plan (newG y) with
    | some g => (incomeY y plan g, (sellY y g).sold, 0)
    | none => (0, [], 10) else (0, [], 2) else (0, [], 1)
theorem sold_len {y : Yard} {plan : List Int} {g : Goods} (hy : GoodYard y) (hl : plan.length = y.stills.length) (ho : PlanOk y plan) (hg : afterG y.stills plan (newG y) = some g) : (sellY y g).sold.length = y.sales.length := by
  have := (sells_inv hy (hy.gb hl ho hg) hy.s4 y.sales.length (Nat.le_refl _)).sold
  rw [List.take_of_length_le (by rw [ord_len]; exact Nat.le_refl _)] at this
  exact this
section
variable {y : Yard} {a : Option Addr} {c : Nat} {plan : List Int} {h : Hp} {R : Ending → Hp → Prop}
theorem leftR_1 (hn : ¬ GoodYard y) : leftR y plan = ([], 1) := by simp [leftR, hn]
theorem leftR_2 (hy : GoodYard y) (hn : ¬ (plan.length = y.stills.length ∧ PlanOk y plan)) : leftR y plan = ([], 2) := by simp only [leftR, if_pos hy, if_neg hn]
theorem leftR_3 (hy : GoodYard y) (hl : plan.length = y.stills.length) (ho : PlanOk y plan) (hg : afterG y.stills plan (newG y) = none) : leftR y plan = ([], 10) := by simp only [leftR, if_pos hy, if_pos (And.intro hl ho), hg]
theorem leftR_4 {g : Goods} (hy : GoodYard y) (hl : plan.length = y.stills.length) (ho : PlanOk y plan) (hg : afterG y.stills plan (newG y) = some g) : leftR y plan = (gl g y.stock.length, 0) := by simp only [leftR, if_pos hy, if_pos (And.intro hl ho), hg]
theorem incR_1 (hn : ¬ GoodYard y) : incR y plan = (0, [], 1) := by simp [incR, hn]
theorem incR_2 (hy : GoodYard y) (hn : ¬ (plan.length = y.stills.length ∧ PlanOk y plan)) : incR y plan = (0, [], 2) := by simp only [incR, if_pos hy, if_neg hn]
theorem incR_3 (hy : GoodYard y) (hl : plan.length = y.stills.length) (ho : PlanOk y plan) (hg : afterG y.stills plan (newG y) = none) : incR y plan = (0, [], 10) := by simp only [incR, if_pos hy, if_pos (And.intro hl ho), hg]
theorem incR_4 {g : Goods} (hy : GoodYard y) (hl : plan.length = y.stills.length) (ho : PlanOk y plan) (hg : afterG y.stills plan (newG y) = some g) : incR y plan = (incomeY y plan g, (sellY y g).sold, 0) := by simp only [incR, if_pos hy, if_pos (And.intro hl ho), hg]
def LeftP (y : Yard) (plan : List Int) (h : Hp) (R : Ending → Hp → Prop) : Prop := ∀ a c q, SlV q 2 eSpan a (leftR y plan).1 → R (.returned (.tuple ⟨[.slice a (leftR y plan).1.length c, I (leftR y plan).2]⟩)) (q ++ h)
def IncP (y : Yard) (plan : List Int) (h : Hp) (R : Ending → Hp → Prop) : Prop := ∀ a c q, SlV q 1 eI a (incR y plan).2.1 → R (.returned (.tuple ⟨[I (incR y plan).1, .slice a (incR y plan).2.1.length c, I (incR y plan).2.2]⟩)) (q ++ h)
theorem leftP_e {e : Int} (hq : leftR y plan = ([], e)) (H : LeftP y plan h R) : R (.returned (.tuple ⟨[.slice none 0 0, I e]⟩)) h := by
  have := H none 0 [] (by rw [hq]; exact .inl rfl)
  rw [hq] at this
  exact this
theorem incP_e {e : Int} (hq : incR y plan = (0, [], e)) (H : IncP y plan h R) : R (.returned (.tuple ⟨[I 0, .slice none 0 0, I e]⟩)) h := by
  have := H none 0 [] (by rw [hq]; exact .inl rfl)
  rw [hq] at this
  exact this
theorem LeftU_c (hv : YardV h y) (hs : Small y) (hp : SlV h 1 eI a plan) (H : LeftP y plan h R) : ACalls Try.prog 14 ⟨[.agg ⟨eYard y⟩, .slice a plan.length c]⟩ h R := by
  refine Left_c hv hs hp (fun h1 => leftP_e (leftR_1 h1) H) (fun h1 h2 => leftP_e (leftR_2 h1 h2) H) (fun h1 h2 h3 h4 => leftP_e (leftR_3 h1 h2 h3 h4) H) (fun hy hl ho g V hg _ hV => ?_)
  obtain ⟨a, c, e, hs⟩ := slv_vec (t := 41) eSpan_len (gl_len g y.stock.length) hV
  have hq := leftR_4 hy hl ho hg
  have := H a c _ (by rw [hq]; exact hs)
  rw [hq] at this
  dsimp only at this
  rw [gl_len] at this
  rw [e]
  exact this
theorem inc_end {g : Goods} {b : Nat} (hq : incR y plan = (incomeY y plan g, (sellY y g).sold, 0)) (hl : (sellY y g).sold.length = y.sales.length) (H : IncP y plan h R) : R (.returned (.tuple ⟨[I (incomeY y plan g), .slice (some ⟨b, 0, none⟩) y.sales.length y.sales.length, I 0]⟩)) ((b, .cells ⟨(sellY y g).sold.flatMap eI ++ []⟩ 3) :: h) := by
  have := H (some ⟨b, 0, none⟩) y.sales.length [(b, .cells ⟨(sellY y g).sold.flatMap eI ++ []⟩ 3)] (by rw [hq]; exact .inr ⟨b, 0, _, 3, (0, 0), rfl, List.mem_cons_self, fun i x hx => flat_at eI_len [] _ i hx⟩)
  rw [hq] at this
  dsimp only at this
  rw [hl] at this
  exact this
theorem IncomeU_c (hv : YardV h y) (hs : Small y) (hp : SlV h 1 eI a plan) (H : IncP y plan h R) : ACalls Try.prog 16 ⟨[.agg ⟨eYard y⟩, .slice a plan.length c]⟩ h R :=
  Income_c hv hs hp (fun h1 => incP_e (incR_1 h1) H) (fun h1 h2 => incP_e (incR_2 h1 h2) H) (fun h1 h2 h3 h4 => incP_e (incR_3 h1 h2 h3 h4) H) (fun hy hl ho g b hg _ => inc_end (incR_4 hy hl ho hg) (sold_len hy hl ho hg) H)
variable {l : List Weigh}
end
end Go.Proofs.Ytlailecnbdlknaa
