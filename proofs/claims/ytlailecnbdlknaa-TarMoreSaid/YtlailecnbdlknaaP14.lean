/-
  The reference's plans: all of them, in lexicographic order; those that can be are the ones that are tried.
-/
import Derived.Test.YtlailecnbdlknaaP13
set_option linter.all false
namespace Go.Proofs.Ytlailecnbdlknaa
open Go Go.H
set_option maxRecDepth 100000
def allG : List Still → List Int → List (List Int)
  | [], pre => [pre]
  | x :: xs, pre => (nums (x.most + 1).toNat).flatMap fun n => allG xs (pre ++ [n])
theorem allG_len : ∀ {xs : List Still} {pre : List Int}, (∀ x ∈ xs, x.most ≤ 8) → (allG xs pre).length ≤ 9 ^ xs.length
  | [], pre, _ => by simp [allG]
  | x :: xs, pre, h => by
    have hm := h x List.mem_cons_self
    have ih : ∀ n : Int, (allG xs (pre ++ [n])).length ≤ 9 ^ xs.length := fun n => allG_len (fun z hz => h z (List.mem_cons_of_mem _ hz))
    have key : ∀ k : Nat, ((nums k).flatMap fun n => allG xs (pre ++ [n])).length ≤ k * 9 ^ xs.length := fun k => by
      induction k with
      | zero => simp [nums]
      | succ k ihk =>
        rw [nums_succ, List.flatMap_append, List.length_append, Nat.succ_mul]
        have := ih (k : Int)
        simp only [List.flatMap_cons, List.flatMap_nil, List.append_nil]
        omega
    have h1 := key (x.most + 1).toNat
    have h2 : (x.most + 1).toNat * 9 ^ xs.length ≤ 9 * 9 ^ xs.length := Nat.mul_le_mul_right _ (by omega)
    show ((nums (x.most + 1).toNat).flatMap fun n => allG xs (pre ++ [n])).length ≤ _
    rw [List.length_cons, Nat.pow_succ]
    omega
theorem allG_mem : ∀ {xs : List Still} {pre p : List Int}, p ∈ allG xs pre → ∃ ts, p = pre ++ ts ∧ ts.length = xs.length ∧ ∀ (j : Nat) (x : Still) (t : Int), xs[j]? = some x → ts[j]? = some t → 0 ≤ t ∧ t ≤ x.most
  | [], pre, p, h => ⟨[], by simpa [allG] using h, rfl, fun j x t hx => by simp at hx⟩
  | x :: xs, pre, p, h => by
    simp only [allG, List.mem_flatMap] at h
    obtain ⟨n, hn, hp⟩ := h
    obtain ⟨ts, h1, h2, h3⟩ := allG_mem hp
    have hm := mem_nums hn
    refine ⟨n :: ts, by rw [h1]; simp, by simp [h2], fun j z t hz ht => ?_⟩
    cases j with
    | zero => simp at hz ht; subst hz; subst ht; omega
    | succ j => exact h3 j z t (by simpa using hz) (by simpa using ht)
def okP (xs : List Still) (d : Nat) (g : Goods) (p : List Int) : Bool := (afterG xs (p.drop d) g).isSome
theorem filter_none {α : Type} {p : α → Bool} {l : List α} (h : ∀ x ∈ l, p x = false) : l.filter p = [] := List.filter_eq_nil_iff.2 (fun x hx => by simp [h x hx])
theorem allG_filter : ∀ {xs : List Still} {pre : List Int} {g : Goods}, (∀ x ∈ xs, 1 ≤ x.takes) → (allG xs pre).filter (okP xs pre.length g) = plansG xs pre g
  | [], pre, g, _ => by
    simp [allG, plansG, okP, afterG]
  | x :: xs, pre, g, h => by
    have hx := h x List.mem_cons_self
    have hone : ∀ n : Int, (allG xs (pre ++ [n])).filter (okP (x :: xs) pre.length g) = if canWork x n g then plansG xs (pre ++ [n]) (workG x n g) else [] := fun n => by
      split
      · rename_i hc
        rw [← allG_filter (pre := pre ++ [n]) (fun z hz => h z (List.mem_cons_of_mem _ hz))]
        refine List.filter_congr fun p hp => ?_
        obtain ⟨ts, rfl, _, _⟩ := allG_mem hp
        unfold okP
        rw [List.drop_left, List.append_assoc, List.drop_left]
        show (if canWork x n g then afterG xs ts (workG x n g) else none).isSome = _
        rw [if_pos hc]
      · rename_i hc
        refine filter_none fun p hp => ?_
        obtain ⟨ts, rfl, _, _⟩ := allG_mem hp
        unfold okP
        rw [List.append_assoc, List.drop_left]
        show (if canWork x n g then afterG xs ts (workG x n g) else none).isSome = _
        rw [if_neg hc]; rfl
    show ((nums (x.most + 1).toNat).flatMap fun n => allG xs (pre ++ [n])).filter (okP (x :: xs) pre.length g) = (ways x g).flatMap fun n => plansG xs (pre ++ [n]) (workG x n g)
    have key : ∀ l : List Int, l.Pairwise (· < ·) → (l.flatMap fun n => allG xs (pre ++ [n])).filter (okP (x :: xs) pre.length g) = (l.takeWhile (fun n => canWork x n g)).flatMap fun n => plansG xs (pre ++ [n]) (workG x n g) := fun l => by
      induction l with
      | nil => intro _; rfl
      | cons n l ih =>
        intro hp
        rw [List.pairwise_cons] at hp
        rw [List.flatMap_cons, List.filter_append, hone n]
        by_cases hc : canWork x n g = true
        · rw [if_pos hc, List.takeWhile_cons, if_pos hc, List.flatMap_cons, ih hp.2]
        · rw [if_neg hc, List.takeWhile_cons, if_neg hc, List.nil_append, List.flatMap_nil]
          refine filter_none fun p hp2 => ?_
          rw [List.mem_flatMap] at hp2
          obtain ⟨m, hm, hp3⟩ := hp2
          have hf : (allG xs (pre ++ [m])).filter (okP (x :: xs) pre.length g) = [] := by
            rw [hone m, if_neg (fun hcm => hc (canWork_le hx (Int.le_of_lt (hp.1 m hm)) hcm))]
          have := List.filter_eq_nil_iff.1 hf p hp3
          simpa using this
    exact key _ (by unfold nums; rw [List.pairwise_map]; exact List.pairwise_lt_range.imp (fun h => by omega))
def allY (y : Yard) : List (List Int) := allG y.stills []
def feas (y : Yard) (p : List Int) : Bool := (afterG y.stills p (newG y)).isSome
theorem allY_filter {y : Yard} (hy : GoodYard y) : (allY y).filter (feas y) = plansY y := allG_filter (pre := []) hy.takes
theorem allY_ok {y : Yard} {p : List Int} (h : p ∈ allY y) : p.length = y.stills.length ∧ PlanOk y p := by
  obtain ⟨ts, h1, h2, h3⟩ := allG_mem h
  rw [List.nil_append] at h1
  subst h1
  exact ⟨h2, h3⟩
def stepC (y : Yard) (acc : Acc) (p : List Int) : Acc := if feas y p then stepB y acc p else acc
def bestC (y : Yard) (l : List (List Int)) : Acc := l.foldl (stepC y) none
theorem bestC_filter {y : Yard} : ∀ (l : List (List Int)) (acc : Acc), l.foldl (stepC y) acc = (l.filter (feas y)).foldl (stepB y) acc
  | [], acc => rfl
  | p :: l, acc => by
    rw [List.foldl_cons, List.filter_cons]
    unfold stepC
    split
    · rw [List.foldl_cons]; exact bestC_filter l _
    · exact bestC_filter l _
theorem bestC_all {y : Yard} (hy : GoodYard y) : bestC y (allY y) = bestY y := by
  unfold bestC
  rw [bestC_filter, allY_filter hy]; rfl
theorem bestC_succ {y : Yard} {l : List (List Int)} {k : Nat} {p : List Int} (h : l[k]? = some p) : bestC y (l.take (k + 1)) = stepC y (bestC y (l.take k)) p := by
  unfold bestC; rw [List.take_add_one, h]; simp
theorem all_snoc {α : Type} {P : α → Prop} {l : List α} {x : α} (h : ∀ p ∈ l, P p) (hx : P x) : ∀ p ∈ l ++ [x], P p := fun p hp => by
  rcases List.mem_append.1 hp with hp | hp
  · exact h p hp
  · simp only [List.mem_singleton] at hp; subst hp; exact hx
/-- A slice of a list of slices. -/
structure PS where
  a : Option Addr
  c : Nat
  xs : List Int
def ePS (p : PS) : List Value := [.slice p.a p.xs.length p.c]
theorem ePS_len (p : PS) : (ePS p).length = 1 := rfl
def subA (y : Yard) (pre : List Int) (n : Int) : List (List Int) := allG (y.stills.drop (pre.length + 1)) (pre ++ [n])
def PlansOk (y : Yard) (m : Nat) : Prop := ∀ {L : Hp} {a : Option Addr} {c n no : Nat} {pre : List Int} {V : Vec} {out : List PS} {R : Ending → Hp → Prop}, pre.length = n → out.length = no → n + m = y.stills.length → YardV L y → SlV L 1 eI a pre → (∀ p ∈ out, SlV L 1 eI p.a p.xs) → V.ok 1 no (out.flatMap ePS) → no + 9 ^ m ≤ 1000000 →
  (∀ (V' : Vec) (q : Hp) (out2 : List PS) (no2 : Nat), out2.length = no2 → out2.map PS.xs = out.map PS.xs ++ allG (y.stills.drop n) pre → (∀ p ∈ out2, SlV (q ++ L) 1 eI p.a p.xs) → V'.ok 1 no2 (out2.flatMap ePS) → no2 ≤ no + 9 ^ m → R (.returned (V'.val no2)) (V'.hp 22 (out2.flatMap ePS) ++ (q ++ L))) →
  ACalls Try.prog 28 ⟨[.agg ⟨eYard y⟩, .slice a n c, V.val no]⟩ (V.hp 22 (out.flatMap ePS) ++ L) R
theorem perm_k {α : Type _} {A B C : List α} {x : α} : List.Perm (B ++ (A ++ x :: C)) (A ++ x :: (B ++ C)) := by
  have h1 : List.Perm (B ++ (A ++ x :: C)) (A ++ (B ++ x :: C)) := by
    rw [← List.append_assoc, ← List.append_assoc]
    exact List.perm_append_comm.append_right _
  exact h1.trans (List.perm_middle.append_left _)
theorem allG_at {y : Yard} {pre : List Int} {x : Still} (h : y.stills[pre.length]? = some x) : allG (y.stills.drop pre.length) pre = (nums (x.most + 1).toNat).flatMap (subA y pre) := by
  obtain ⟨h1, h2⟩ := List.getElem?_eq_some_iff.1 h
  rw [List.drop_eq_getElem_cons h1, h2]; rfl
theorem allG_end {y : Yard} {pre : List Int} (h : pre.length = y.stills.length) : allG (y.stills.drop pre.length) pre = [pre] := by rw [h, List.drop_length]; rfl
section
variable {y : Yard} {h : Hp} {R : Ending → Hp → Prop} {a : Option Addr} {c : Nat} {plan : List Int}
theorem refIncomeO_c {n : Nat} (hv : YardV h y) (hp : SlV h 1 eI a plan) (hn : plan.length = n) (hy : GoodYard y) (hl : plan.length = y.stills.length) (ho : PlanOk y plan) (H3 : afterG y.stills plan (newG y) = none → R (.returned (.tuple ⟨[I 0, .slice none 0 0, I 10]⟩)) h)
    (H4 : ∀ g b, afterG y.stills plan (newG y) = some g → R (.returned (.tuple ⟨[I (incomeY y plan g), .slice (some ⟨b, 0, none⟩) y.sales.length y.sales.length, I 0]⟩)) ((b, .cells ⟨(sellY y g).sold.flatMap eI ++ []⟩ 3) :: h)) :
    ACalls Try.prog 17 ⟨[.agg ⟨eYard y⟩, .slice a n c]⟩ h R := by
  subst hn
  exact refIncome_c hv hp (fun hn => absurd hy hn) (fun _ hn => absurd ⟨hl, ho⟩ hn) (fun _ _ _ hn => H3 hn) (fun _ _ _ g' b hg' => H4 g' b hg')
open Classical in
noncomputable def planR (y : Yard) : List Int × Int × Int := if GoodYard y then (accP (bestY y), accN (bestY y), 0) else ([], 0, 1)
def PlanP (y : Yard) (h : Hp) (R : Ending → Hp → Prop) : Prop := ∀ a c q, SlV (q ++ h) 1 eI a (planR y).1 → R (.returned (.tuple ⟨[.slice a (planR y).1.length c, I (planR y).2.1, I (planR y).2.2]⟩)) (q ++ h)
theorem planP_1 (hn : ¬ GoodYard y) (H : PlanP y h R) : R (.returned (.tuple ⟨[.slice none 0 0, I 0, I 1]⟩)) h := by
  have hq : planR y = ([], 0, 1) := by simp [planR, hn]
  have := H none 0 [] (by rw [hq]; exact .inl rfl)
  rw [hq] at this
  exact this
theorem planP_2 {q : Hp} (hy : GoodYard y) (hs : SlV (q ++ h) 1 eI a (accP (bestY y))) (H : PlanP y h R) : R (.returned (.tuple ⟨[.slice a (accP (bestY y)).length c, I (accN (bestY y)), I 0]⟩)) (q ++ h) := by
  have hq : planR y = (accP (bestY y), accN (bestY y), 0) := by simp [planR, hy]
  have := H a c q (by rw [hq]; exact hs)
  rw [hq] at this
  exact this
theorem PlanU_c (hv : YardV h y) (hs : Small y) (H : PlanP y h R) : ACalls Try.prog 11 ⟨[.agg ⟨eYard y⟩]⟩ h R :=
  Plan_c hv hs (fun hn => planP_1 hn H) (fun hy a c q hsl => planP_2 hy (hsl.sub (fun z hz => List.mem_append_left _ hz)) H)
theorem planR_le (hs : Small y) : (planR y).1.length ≤ 10 := by
  unfold planR
  split
  · rename_i hy
    obtain ⟨q, m, hb, hB⟩ := best_is hy
    rw [hb]
    show q.length ≤ 10
    rw [hB.len]; exact hs.stills
  · simp
end
end Go.Proofs.Ytlailecnbdlknaa
