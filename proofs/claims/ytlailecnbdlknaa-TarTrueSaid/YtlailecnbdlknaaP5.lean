/-
  The best plan, in plain lists.
-/
import Derived.Test.YtlailecnbdlknaaP4
set_option linter.all false
namespace Go.Proofs.Ytlailecnbdlknaa
open Go Go.H
theorem after_GB {n : Nat} : ∀ {xs : List Still} {ts : List Int} {g g' : Goods} {k : Nat}, (∀ x ∈ xs, ∃ l, stillOk n l x) → (∀ (j : Nat) (x : Still) (t : Int), xs[j]? = some x → ts[j]? = some t → 0 ≤ t ∧ t ≤ x.most) → ts.length = xs.length → GB k g → afterG xs ts g = some g' → GB (k + xs.length) g'
  | [], ts, g, g', k, _, _, _, hg, h => by cases ts <;> (cases h; exact hg)
  | x :: xs, [], g, g', k, _, _, hl, _, _ => by simp at hl
  | x :: xs, t :: ts, g, g', k, hx, hp, hl, hg, h => by
    unfold afterG at h
    split at h
    · rename_i hc
      obtain ⟨l, hs⟩ := hx x List.mem_cons_self
      have ht := hp 0 x t rfl rfl
      have hm := hs.2.2.2.2.1
      have := after_GB (fun z hz => hx z (List.mem_cons_of_mem _ hz)) (fun j z u hz hu => hp (j + 1) z u hz hu) (by simpa using hl) (hg.work hs hc ht.1 (by omega)) h
      rwa [Nat.add_assoc, Nat.add_comm 1] at this
    · cases h
theorem GoodYard.gb {y : Yard} (hy : GoodYard y) {plan : List Int} {g : Goods} (hl : plan.length = y.stills.length) (hp : PlanOk y plan) (h : afterG y.stills plan (newG y) = some g) : GB y.stills.length g := by
  have := after_GB (k := 0) (n := y.stock.length) (fun x hx => by obtain ⟨j, hj⟩ := List.getElem?_of_mem hx; exact ⟨_, hy.stills j x hj⟩) hp hl (GB.new hy) h
  rwa [Nat.zero_add] at this
theorem plansG_mem : ∀ {xs : List Still} {pre : List Int} {g : Goods} {p : List Int}, p ∈ plansG xs pre g → ∃ ts, p = pre ++ ts ∧ ts.length = xs.length ∧ (∀ (j : Nat) (x : Still) (t : Int), xs[j]? = some x → ts[j]? = some t → 0 ≤ t ∧ t ≤ x.most) ∧ ∃ g', afterG xs ts g = some g'
  | [], pre, g, p, h => by
    simp only [plansG, List.mem_singleton] at h
    exact ⟨[], by simp [h], rfl, fun j x t hx => by simp at hx, g, rfl⟩
  | x :: xs, pre, g, p, h => by
    simp only [plansG, List.mem_flatMap] at h
    obtain ⟨n, hn, hp⟩ := h
    obtain ⟨ts, h1, h2, h3, g', h4⟩ := plansG_mem hp
    have hw : canWork x n g = true := by
      unfold ways at hn
      have : ∀ (l : List Int), n ∈ l.takeWhile (fun n => canWork x n g) → canWork x n g = true := by
        intro l
        induction l with
        | nil => intro h; simp at h
        | cons a l ih =>
          intro h
          rw [List.takeWhile_cons] at h
          split at h
          · rename_i ha
            rcases List.mem_cons.1 h with rfl | h
            · exact ha
            · exact ih h
          · simp at h
      exact this _ hn
    have hm := mem_nums ((List.takeWhile_sublist _).subset hn)
    refine ⟨n :: ts, by rw [h1]; simp, by simp [h2], fun j z t hz ht => ?_, g', by unfold afterG; rw [if_pos hw]; exact h4⟩
    cases j with
    | zero => simp at hz ht; subst hz; subst ht; omega
    | succ j => exact h3 j z t (by simpa using hz) (by simpa using ht)
theorem plansY_ok {y : Yard} (hy : GoodYard y) {p : List Int} (h : p ∈ plansY y) : p.length = y.stills.length ∧ PlanOk y p ∧ ∃ g, afterG y.stills p (newG y) = some g ∧ GB y.stills.length g := by
  obtain ⟨ts, h1, h2, h3, g', h4⟩ := plansG_mem h
  simp only [List.nil_append] at h1
  subst h1
  exact ⟨h2, h3, g', h4, hy.gb h2 h3 h4⟩
def incomeP (y : Yard) (p : List Int) : Int := match afterG y.stills p (newG y) with
  | some g => incomeY y p g
  | none => 0
theorem incomeP_eq {y : Yard} {p : List Int} {g : Goods} (h : afterG y.stills p (newG y) = some g) : incomeP y p = incomeY y p g := by unfold incomeP; rw [h]
abbrev Acc := Option (List Int × Int)
def stepB (y : Yard) (acc : Acc) (p : List Int) : Acc := match acc with
  | none => some (p, incomeP y p)
  | some (q, m) => if incomeP y p > m then some (p, incomeP y p) else some (q, m)
def bestF (y : Yard) (l : List (List Int)) : Acc := l.foldl (stepB y) none
def accP : Acc → List Int
  | some (p, _) => p
  | none => []
def accN : Acc → Int
  | some (_, n) => n
  | none => 0
def bestY (y : Yard) : Acc := bestF y (plansY y)
theorem bestF_succ {y : Yard} {l : List (List Int)} {k : Nat} {p : List Int} (h : l[k]? = some p) : bestF y (l.take (k + 1)) = stepB y (bestF y (l.take k)) p := by
  unfold bestF; rw [List.take_add_one, h]; simp
end Go.Proofs.Ytlailecnbdlknaa
