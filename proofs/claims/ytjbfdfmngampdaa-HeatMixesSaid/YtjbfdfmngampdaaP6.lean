/-
  All right mixtures, one after the other; the first of the cheapest.
-/
import Derived.Test.YtjbfdfmngampdaaP5
set_option linter.all false
namespace Go.Proofs.Ytjbfdfmngampdaa
open Go Go.H
theorem inM_take : ∀ {l : List Supply} {m : List Int} (k : Nat), InM l m → InM l (m.take k)
  | l, m, 0, _ => by rw [List.take_zero]; exact inM_nil l
  | l, [], k + 1, _ => by simp only [List.take_nil]; exact inM_nil l
  | [], n :: m, k + 1, h => h.elim
  | x :: l, n :: m, k + 1, h => ⟨h.1, inM_take k h.2⟩
theorem inM_at : ∀ {l : List Supply} {m : List Int} {k : Nat} {x : Supply} {n : Int}, InM l m → l[k]? = some x → m[k]? = some n → 0 ≤ n ∧ n ≤ x.most
  | [], m, k, x, n, _, hx, _ => by simp at hx
  | y :: l, [], k, x, n, _, _, hn => by simp at hn
  | y :: l, q :: m, 0, x, n, h, hx, hn => by simp at hx hn; subst hx hn; exact h.1
  | y :: l, q :: m, k + 1, x, n, h, hx, hn => inM_at h.2 (by simpa using hx) (by simpa using hn)
theorem sumZ_take (f : Supply → Int) {l : List Supply} {m : List Int} {k : Nat} {x : Supply} {n : Int} (hx : l[k]? = some x) (hn : m[k]? = some n) : sumZ f l (m.take (k + 1)) = sumZ f l (m.take k) + n * f x := by
  have hl := (List.getElem?_eq_some_iff.1 hn).1
  have hk : (m.take k).length = k := by rw [List.length_take]; omega
  rw [List.take_add_one, hn]
  exact sumZ_snoc f (by rw [hk]; exact hx) n
def newR (l : List Supply) (q : Ask) (p : List Int) : List (List Int) := ((allM (l.drop p.length)).map (p ++ ·)).filter fun m => decide (rightP l q m)
def newK (l : List Supply) (q : Ask) (p : List Int) (k : Nat) : List (List Int) := (List.range k).flatMap fun (n : Nat) => newR l q (p ++ [(n : Int)])
theorem newK_succ (l : List Supply) (q : Ask) (p : List Int) (k : Nat) : newK l q p (k + 1) = newK l q p k ++ newR l q (p ++ [(k : Int)]) := by
  unfold newK; rw [List.range_succ, List.flatMap_append]; simp
theorem newR_leaf {l : List Supply} {q : Ask} {p : List Int} (h : p.length = l.length) : newR l q p = if rightP l q p then [p] else [] := by
  unfold newR
  rw [h, List.drop_length]
  by_cases hr : rightP l q p <;> simp [allM, hr]
theorem newR_steps {l : List Supply} {q : Ask} {p : List Int} {x : Supply} (hx : l[p.length]? = some x) : newR l q p = newK l q p (x.most + 1).toNat := by
  obtain ⟨hl, e⟩ := List.getElem?_eq_some_iff.1 hx
  unfold newR newK
  rw [List.drop_eq_getElem_cons hl, e, allM, List.map_flatMap, List.filter_flatMap]
  congr 1
  funext n
  unfold newR
  rw [List.length_append, List.length_singleton, List.map_map]
  congr 2
  funext t
  simp
theorem allM_len : ∀ {l : List Supply}, SupsOk l → (allM l).length ≤ 21 ^ l.length
  | [], _ => by simp [allM]
  | x :: l, h => by
    have ih := allM_len (l := l) fun y hy => h y (List.mem_cons_of_mem _ hy)
    have hx := (h x List.mem_cons_self).2.2.1
    have : ∀ n, ((List.range n).flatMap fun (n : Nat) => (allM l).map ((n : Int) :: ·)).length = n * (allM l).length := by
      intro n
      induction n with
      | zero => simp
      | succ n ih => rw [List.range_succ, List.flatMap_append, List.length_append, ih]; simp [Nat.add_mul]
    rw [allM, this, List.length_cons, Nat.pow_succ, Nat.mul_comm]
    exact Nat.mul_le_mul ih (by omega)
theorem newR_len {l : List Supply} {q : Ask} {p : List Int} (h : SupsOk l) : (newR l q p).length ≤ 21 ^ (l.length - p.length) := by
  have h1 := allM_len (h.drop p.length)
  rw [List.length_drop] at h1
  refine Nat.le_trans (List.length_filter_le _ _) ?_
  rw [List.length_map]; exact h1
theorem newK_len {l : List Supply} {q : Ask} {p : List Int} (h : SupsOk l) (k : Nat) : (newK l q p k).length ≤ k * 21 ^ (l.length - p.length - 1) := by
  induction k with
  | zero => simp [newK]
  | succ k ih =>
    rw [newK_succ, List.length_append, Nat.add_mul, Nat.one_mul]
    have := newR_len (q := q) (p := p ++ [(k : Int)]) h
    rw [List.length_append, List.length_singleton, Nat.sub_add_eq] at this
    omega
/-- A list's head, as it lies in a list of lists. -/
structure Hd where
  a : Option Addr
  c : Nat
  m : List Int
def eHd (z : Hd) : List Value := [.slice z.a z.m.length z.c]
theorem eHd_len (z : Hd) : (eHd z).length = 1 := rfl
/-! ### The cheapest -/
def foldR (l : List Supply) (ms : List (List Int)) : Best := ms.foldl (fun b m => if lessB (costM l m) b then some (m, costM l m) else b) none
theorem mixF_fold (l : List Supply) (q : Ask) : mixF l q = foldR l (newR l q []) := by
  unfold mixF foldR newR
  rw [List.foldl_filter]
  simp only [List.length_nil, List.drop_zero, List.nil_append, List.map_id']
  congr 1
  funext b m
  unfold updB
  by_cases h : rightP l q m
  · simp [h]
  · simp [h]
theorem foldR_take {l : List Supply} {ms : List (List Int)} {k : Nat} {m : List Int} (hk : ms[k]? = some m) : foldR l (ms.take (k + 1)) = if lessB (costM l m) (foldR l (ms.take k)) then some (m, costM l m) else foldR l (ms.take k) := by
  rw [List.take_add_one, hk]
  unfold foldR
  rw [List.foldl_append]; rfl
theorem foldR_one {l : List Supply} {ms : List (List Int)} {m : List Int} (hk : ms[0]? = some m) : foldR l (ms.take 1) = some (m, costM l m) := by
  rw [foldR_take hk]
  exact if_pos trivial
theorem right_of {l : List Supply} {q : Ask} {p m : List Int} (h : m ∈ newR l q p) (hp : p.length ≤ l.length) (hi : InM l p) : m.length = l.length ∧ InM l m := by
  unfold newR at h
  rw [List.mem_filter, List.mem_map] at h
  obtain ⟨⟨t, ht, rfl⟩, _⟩ := h
  obtain ⟨h1, h2⟩ := mem_allM ht
  rw [List.length_drop] at h1
  exact ⟨by rw [List.length_append]; omega, hi.app h2⟩
theorem perm_mid {V W K : Hp} {y : Nat × Obj} : List.Perm (V ++ (W ++ y :: K)) (W ++ (y :: (V ++ K))) :=
  (List.perm_append_comm_assoc V W (y :: K)).trans ((List.perm_middle (l₁ := V) (a := y) (l₂ := K)).append_left W)
end Go.Proofs.Ytjbfdfmngampdaa
