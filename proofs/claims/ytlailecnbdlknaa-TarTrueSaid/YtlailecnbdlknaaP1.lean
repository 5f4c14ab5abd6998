/-
  Plain facts on valid yards.
-/
import Derived.Test.YtlailecnbdlknaaD
set_option linter.all false
namespace Go.Proofs.Ytlailecnbdlknaa
open Go Go.H
def HD (n : Nat) (last : Int) (x : Still) : Prop := (last ≤ x.in_ ∧ x.in_ ≤ n - 1) ∧ (1 ≤ x.takes ∧ x.takes ≤ 1048576) ∧ x.out.length = n ∧ (0 ≤ x.pay ∧ x.pay ≤ 1000000) ∧ (0 ≤ x.most ∧ x.most ≤ 8)
def OU (x : Still) (k : Nat) : Prop := ∀ j s, j < k → x.out[j]? = some s → outOk x j s
theorem OU.zero {x : Still} : OU x 0 := fun _ _ h _ => absurd h (Nat.not_lt_zero _)
theorem OU.succ {x : Still} {k : Nat} {s : Span} (hs : x.out[k]? = some s) : OU x (k + 1) ↔ OU x k ∧ outOk x k s := by
  refine ⟨fun h => ⟨fun j t hj ht => h j t (Nat.lt_succ_of_lt hj) ht, h k s (Nat.lt_succ_self k) hs⟩, fun ⟨h1, h2⟩ j t hj ht => ?_⟩
  rcases Nat.lt_succ_iff_lt_or_eq.1 hj with hj | rfl
  · exact h1 j t hj ht
  · rw [hs] at ht; cases ht; exact h2
theorem still_end {n : Nat} {last : Int} {x : Still} {gd : Bool} (h : gd = true ↔ HD n last x ∧ OU x x.out.length) : (!gd) = nay (stillOk n last x) := by
  have hq : stillOk n last x ↔ HD n last x ∧ OU x x.out.length := by
    unfold stillOk HD OU
    constructor
    · rintro ⟨h1, h2, h3, h4, h5, h6⟩; exact ⟨⟨h1, h2, h3, h4, h5⟩, fun j s _ hs => h6 j s hs⟩
    · rintro ⟨⟨h1, h2, h3, h4, h5⟩, h6⟩; exact ⟨h1, h2, h3, h4, h5, fun j s hs => h6 j s (List.getElem?_eq_some_iff.1 hs).1 hs⟩
  cases gd with
  | true => exact (nay_F (hq.2 (h.1 rfl))).symm
  | false => exact (nay_T (fun hh => by have := h.2 (hq.1 hh); cases this)).symm
theorem eqc_zero (s : Span) : eqc [I s.lo, I s.hi] [I 0, I 0] = decide (s = ⟨0, 0⟩) := by
  obtain ⟨a, b⟩ := s
  simp only [eqc, Span.mk.injEq]
  by_cases ha : a = 0 <;> by_cases hb : b = 0 <;> simp [ha, hb]
noncomputable def pS (n : Nat) (l : List Still) (k : Nat) : Bool := match l[k]? with
  | some x => nay (stillOk n (lastAt l k) x)
  | none => false
theorem pst {n : Nat} {l : List Still} {k : Nat} {x : Still} (h : l[k]? = some x) : pS n l k = nay (stillOk n (lastAt l k) x) := by unfold pS; rw [h]
theorem lastAt_succ {l : List Still} {k : Nat} {x : Still} (h : l[k]? = some x) : lastAt l (k + 1) = x.in_ := by simp [lastAt, h]
theorem lastAt_nn {n : Nat} {l : List Still} (h : ∀ k x, l[k]? = some x → stillOk n (lastAt l k) x) : ∀ k, k ≤ l.length → 0 ≤ lastAt l k
  | 0, _ => Int.le_refl _
  | k + 1, hk => by
    have hx := h k _ (List.getElem?_eq_getElem hk)
    have := lastAt_nn h k (by omega)
    rw [lastAt_succ (List.getElem?_eq_getElem hk)]
    have := hx.1.1
    omega
theorem GoodYard.inb {y : Yard} (hy : GoodYard y) {k : Nat} {x : Still} (hx : y.stills[k]? = some x) : 0 ≤ x.in_ ∧ x.in_ ≤ 5 ∧ x.in_.toNat < 6 := by
  have h1 := hy.stills k x hx
  have h2 := lastAt_nn hy.stills k (Nat.le_of_lt (List.getElem?_eq_some_iff.1 hx).1)
  have h3 := h1.1
  have h4 := hy.n6
  omega
theorem g_getu {g : Goods} {i j : Nat} {s : Span} {v : Value} (h : i < 6) (hj : (eSpan s)[j]? = some v) : (eGoods (upd g i s))[0 + i * 2 + j]? = some v := g_get h (by rw [upd_same]; exact hj)
theorem g_set0u {g : Goods} {i : Nat} {n : Int} {s : Span} (h : i < 6) : (eGoods (upd g i s)).set (0 + i * 2 + 0) (I n) = eGoods (upd g i ⟨n, s.hi⟩) := by rw [g_set0 h, upd_same, upd_upd]
theorem g_set1u {g : Goods} {i : Nat} {n : Int} {s : Span} (h : i < 6) : (eGoods (upd g i s)).set (0 + i * 2 + 1) (I n) = eGoods (upd g i ⟨s.lo, n⟩) := by rw [g_set1 h, upd_same, upd_upd]
def PlanOk (y : Yard) (plan : List Int) : Prop := ∀ (k : Nat) (x : Still) (t : Int), y.stills[k]? = some x → plan[k]? = some t → 0 ≤ t ∧ t ≤ x.most
def newK (y : Yard) (k : Nat) : Goods := fun j => if j < k then newG y j else ⟨0, 0⟩
theorem newK_succ {y : Yard} {k : Nat} {t : Int} (h : y.stock[k]? = some t) : newK y (k + 1) = upd (newK y k) k ⟨t, t⟩ := by
  funext j
  by_cases hj : j = k
  · subst hj; simp [newK, newG, upd, h]
  · have : (j < k + 1) ↔ (j < k) := by omega
    simp only [newK, upd, if_neg hj, this]
theorem newK_all {y : Yard} : newK y y.stock.length = newG y := by
  funext j
  unfold newK
  split
  · rfl
  · rename_i h
    simp [newG, List.getElem?_eq_none (Nat.le_of_not_lt h)]
theorem mul_bd {a b A B : Int} (h1 : 0 ≤ a) (h2 : a ≤ A) (h3 : 0 ≤ b) (h4 : b ≤ B) : 0 ≤ a * b ∧ a * b ≤ A * B := ⟨Int.mul_nonneg h1 h3, Int.mul_le_mul h2 h4 h3 (by omega)⟩
theorem after_step {xs : List Still} {ts : List Int} {g : Goods} {k : Nat} {x : Still} {t : Int} (h1 : xs[k]? = some x) (h2 : ts[k]? = some t) : afterG (xs.drop k) (ts.drop k) g = if canWork x t g then afterG (xs.drop (k + 1)) (ts.drop (k + 1)) (workG x t g) else none := by
  obtain ⟨q1, e1⟩ := List.getElem?_eq_some_iff.1 h1
  obtain ⟨q2, e2⟩ := List.getElem?_eq_some_iff.1 h2
  rw [List.drop_eq_getElem_cons q1, List.drop_eq_getElem_cons q2, e1, e2]; rfl
theorem after_end {xs : List Still} {ts : List Int} {g : Goods} : afterG (xs.drop xs.length) ts g = some g := by rw [List.drop_length]; cases ts <;> rfl
def gl (g : Goods) (n : Nat) : List Span := (List.range n).map g
theorem gl_len (g : Goods) (n : Nat) : (gl g n).length = n := by simp [gl]
theorem gl_get {g : Goods} {n i : Nat} {x : Span} (h : (gl g n)[i]? = some x) : i < n ∧ x = g i := by
  have h1 := (List.getElem?_eq_some_iff.1 h).1
  rw [gl_len] at h1
  simp [gl, h1] at h
  exact ⟨h1, h.symm⟩
theorem slv_goods {h : Hp} {b : Nat} {t : TypeId} {fz : Nat × Nat} {g : Goods} {n : Nat} (hm : (b, .cells ⟨eGoods g⟩ t fz) ∈ h) (hn : n ≤ 6) : SlV h 2 eSpan (some ⟨b, 0, none⟩) (gl g n) :=
  .inr ⟨b, 0, _, t, fz, rfl, hm, fun i x hx => by obtain ⟨h1, rfl⟩ := gl_get hx; exact g_getA (by omega)⟩
theorem eSpan_len (x : Span) : (eSpan x).length = 2 := rfl
theorem eSpan_1 (x : Span) : (eSpan x).all Value.oneCell' = true := rfl
theorem eI_len (x : Int) : (eI x).length = 1 := rfl
theorem eI_1 (x : Int) : (eI x).all Value.oneCell' = true := rfl
theorem eWeigh_len (x : Weigh) : (eWeigh x).length = 4 := rfl
/-! sums -/
theorem sum_bd {B : Int} : ∀ {xs : List Int}, (∀ x ∈ xs, -B ≤ x ∧ x ≤ B) → -(xs.length * B) ≤ xs.sum ∧ xs.sum ≤ xs.length * B
  | [], _ => by simp
  | x :: xs, h => by
    have h1 := h x List.mem_cons_self
    have h2 := sum_bd (xs := xs) fun y hy => h y (List.mem_cons_of_mem _ hy)
    have h3 : ((x :: xs).length : Int) * B = xs.length * B + B := by rw [List.length_cons, Int.natCast_add, Int.add_mul]; simp
    rw [h3, List.sum_cons]; omega
theorem sum_take {xs : List Int} {k : Nat} {x : Int} (h : xs[k]? = some x) : (xs.take (k + 1)).sum = (xs.take k).sum + x := by
  rw [List.take_add_one, h]; simp
def sumS (l : List Span) : Span := ⟨(l.map Span.lo).sum, (l.map Span.hi).sum⟩
theorem sumS_snoc (l : List Span) (s : Span) : sumS (l ++ [s]) = ⟨(sumS l).lo + s.lo, (sumS l).hi + s.hi⟩ := by simp [sumS]
/-! carts -/
def weighOk (x : Weigh) : Prop := spanOk x.empty 100000 ∧ spanOk x.full 100000 ∧ x.empty.lo ≤ x.full.hi
def cart (x : Weigh) : Span := ⟨max 0 (x.full.lo - x.empty.hi), x.full.hi - x.empty.lo⟩
theorem cart_bd {x : Weigh} (h : weighOk x) : 0 ≤ (cart x).lo ∧ (cart x).lo ≤ (cart x).hi ∧ (cart x).hi ≤ 100000 := by
  obtain ⟨⟨⟨h1, h2⟩, h3, h4⟩, ⟨⟨h5, h6⟩, h7, h8⟩, h9⟩ := h
  simp only [cart]; omega
theorem carts_take {l : List Weigh} {k : Nat} {x : Weigh} (h : l[k]? = some x) : (l.take (k + 1)).map cart = (l.take k).map cart ++ [cart x] := by
  rw [List.take_add_one, h]; simp
theorem carts_bd {l : List Weigh} (h : ∀ x ∈ l, weighOk x) : 0 ≤ (sumS (l.map cart)).lo ∧ (sumS (l.map cart)).lo ≤ l.length * 100000 ∧ 0 ≤ (sumS (l.map cart)).hi ∧ (sumS (l.map cart)).hi ≤ l.length * 100000 := by
  induction l with
  | nil => simp [sumS]
  | cons x l ih =>
    have h1 := ih fun y hy => h y (List.mem_cons_of_mem _ hy)
    have h2 := cart_bd (h x List.mem_cons_self)
    simp only [sumS, List.map_cons, List.sum_cons, List.length_cons] at h1 ⊢
    push_cast; omega
end Go.Proofs.Ytlailecnbdlknaa
