/-
  Mixtures: all of them in order, the best one; what a search that prunes finds.
-/
import Derived.Test.YtjbfdfmngampdaaP2
set_option linter.all false
namespace Go.Proofs.Ytjbfdfmngampdaa
open Go Go.H
def sumZ (f : Supply → Int) (l : List Supply) (m : List Int) : Int := ((l.zip m).map fun z => z.2 * f z.1).sum
theorem sumZ_nil (f : Supply → Int) (l : List Supply) : sumZ f l [] = 0 := by simp [sumZ]
theorem sumZ_cons (f : Supply → Int) (x : Supply) (l : List Supply) (n : Int) (m : List Int) : sumZ f (x :: l) (n :: m) = n * f x + sumZ f l m := by simp [sumZ]
theorem sumZ_app (f : Supply → Int) : ∀ (l : List Supply) (p t : List Int), p.length ≤ l.length → sumZ f l (p ++ t) = sumZ f l p + sumZ f (l.drop p.length) t
  | l, [], t, _ => by simp [sumZ_nil]
  | [], n :: p, t, h => by simp at h
  | x :: l, n :: p, t, h => by
    have ih := sumZ_app f l p t (by simpa using h)
    rw [List.cons_append, sumZ_cons, sumZ_cons, ih, List.length_cons, List.drop_succ_cons]
    omega
theorem sumZ_snoc (f : Supply → Int) {l : List Supply} {p : List Int} {x : Supply} (hx : l[p.length]? = some x) (n : Int) : sumZ f l (p ++ [n]) = sumZ f l p + n * f x := by
  obtain ⟨hl, e⟩ := List.getElem?_eq_some_iff.1 hx
  rw [sumZ_app f l p [n] (by omega), List.drop_eq_getElem_cons hl, e, sumZ_cons, sumZ_nil]
  omega
/-- Within what there is. -/
def InM : List Supply → List Int → Prop
  | _, [] => True
  | [], _ :: _ => False
  | x :: l, n :: m => (0 ≤ n ∧ n ≤ x.most) ∧ InM l m
theorem inM_nil : ∀ l : List Supply, InM l []
  | [] => trivial
  | _ :: _ => trivial
theorem InM.snoc : ∀ {l : List Supply} {p : List Int} {x : Supply} {n : Int}, InM l p → l[p.length]? = some x → 0 ≤ n → n ≤ x.most → InM l (p ++ [n])
  | [], [], x, n, _, hx, _, _ => by simp at hx
  | y :: l, [], x, n, _, hx, h0, h1 => by
    simp at hx; subst hx; exact ⟨⟨h0, h1⟩, inM_nil _⟩
  | [], q :: p, x, n, h, hx, _, _ => by simp at hx
  | y :: l, q :: p, x, n, h, hx, h0, h1 => ⟨h.1, InM.snoc h.2 (by simpa using hx) h0 h1⟩
theorem sumZ_bd {f : Supply → Int} {B : Int} (hB : 0 ≤ B) : ∀ {l : List Supply} {m : List Int}, (∀ x ∈ l, 0 ≤ f x ∧ f x ≤ B) → (∀ x ∈ l, x.most ≤ 20) → InM l m → 0 ≤ sumZ f l m ∧ sumZ f l m ≤ m.length * (20 * B)
  | l, [], _, _, _ => by rw [sumZ_nil]; simp
  | [], n :: m, _, _, h => h.elim
  | x :: l, n :: m, hf, hm, h => by
    obtain ⟨i1, i2⟩ := sumZ_bd hB (l := l) (m := m) (fun y hy => hf y (List.mem_cons_of_mem _ hy)) (fun y hy => hm y (List.mem_cons_of_mem _ hy)) h.2
    obtain ⟨f0, f1⟩ := hf x List.mem_cons_self
    have m1 := hm x List.mem_cons_self
    obtain ⟨n0, n1⟩ := h.1
    rw [sumZ_cons]
    have e0 : 0 ≤ n * f x := Int.mul_nonneg n0 f0
    have e1 : n * f x ≤ 20 * B := Int.mul_le_mul (by omega) f1 f0 (by omega)
    have e2 : (((n :: m).length : Nat) : Int) * (20 * B) = m.length * (20 * B) + 20 * B := by rw [List.length_cons, Int.natCast_add, Int.add_mul]; simp
    rw [e2]
    omega
def restS (f : Supply → Int) (l : List Supply) : Int := (l.map fun x => f x * x.most).sum
theorem restS_cons (f : Supply → Int) (x : Supply) (l : List Supply) : restS f (x :: l) = f x * x.most + restS f l := by simp [restS]
theorem sumZ_rest {f : Supply → Int} : ∀ {l : List Supply} {m : List Int}, (∀ x ∈ l, 0 ≤ f x ∧ 0 ≤ x.most) → InM l m → sumZ f l m ≤ restS f l
  | [], [], _, _ => by simp [sumZ, restS]
  | x :: l, [], hf, _ => by
    have ih := sumZ_rest (l := l) (m := []) (fun y hy => hf y (List.mem_cons_of_mem _ hy)) (inM_nil _)
    have h := hf x List.mem_cons_self
    rw [sumZ_nil] at *
    rw [restS_cons]
    have := Int.mul_nonneg h.1 h.2
    omega
  | [], n :: m, _, h => h.elim
  | x :: l, n :: m, hf, h => by
    have ih := sumZ_rest (l := l) (m := m) (fun y hy => hf y (List.mem_cons_of_mem _ hy)) h.2
    have hx := (hf x List.mem_cons_self).1
    rw [sumZ_cons, restS_cons, Int.mul_comm n]
    have := Int.mul_le_mul_of_nonneg_left h.1.2 hx
    omega
theorem restS_bd {f : Supply → Int} {B : Int} (hB : 0 ≤ B) : ∀ {l : List Supply}, (∀ x ∈ l, 0 ≤ f x ∧ f x ≤ B) → (∀ x ∈ l, 0 ≤ x.most ∧ x.most ≤ 20) → 0 ≤ restS f l ∧ restS f l ≤ l.length * (20 * B)
  | [], _, _ => by simp [restS]
  | x :: l, hf, hm => by
    obtain ⟨i1, i2⟩ := restS_bd hB (l := l) (fun y hy => hf y (List.mem_cons_of_mem _ hy)) (fun y hy => hm y (List.mem_cons_of_mem _ hy))
    obtain ⟨f0, f1⟩ := hf x List.mem_cons_self
    obtain ⟨m0, m1⟩ := hm x List.mem_cons_self
    rw [restS_cons]
    have e0 : 0 ≤ f x * x.most := Int.mul_nonneg f0 m0
    have e1 : f x * x.most ≤ B * 20 := Int.mul_le_mul f1 m1 m0 (by omega)
    have e2 : (((x :: l).length : Nat) : Int) * (20 * B) = l.length * (20 * B) + 20 * B := by rw [List.length_cons, Int.natCast_add, Int.add_mul]; simp
    rw [e2]
    omega
/-! ### All mixtures, in order -/
def allM : List Supply → List (List Int)
  | [] => [[]]
  | x :: l => (List.range (x.most + 1).toNat).flatMap fun (n : Nat) => (allM l).map ((n : Int) :: ·)
theorem mem_allM : ∀ {l : List Supply} {m : List Int}, m ∈ allM l → m.length = l.length ∧ InM l m
  | [], m, h => by simp [allM] at h; subst h; exact ⟨rfl, trivial⟩
  | x :: l, m, h => by
    simp only [allM, List.mem_flatMap, List.mem_range, List.mem_map] at h
    obtain ⟨n, hn, t, ht, rfl⟩ := h
    obtain ⟨h1, h2⟩ := mem_allM ht
    exact ⟨by simp [h1], ⟨by omega, by omega⟩, h2⟩
structure Ask where
  vol : Int
  least : Int
  most : Int
def rightP (l : List Supply) (q : Ask) (m : List Int) : Prop := sumZ (·.volume) l m = q.vol ∧ q.least * q.vol ≤ sumZ (·.heat.lo) l m ∧ sumZ (·.heat.hi) l m ≤ q.most * q.vol
instance (l : List Supply) (q : Ask) (m : List Int) : Decidable (rightP l q m) := by unfold rightP; infer_instance
def costM (l : List Supply) (m : List Int) : Int := sumZ (·.pay) l m
abbrev Best := Option (List Int × Int)
def lessB (c : Int) : Best → Prop
  | none => True
  | some (_, bc) => c < bc
instance (c : Int) : (b : Best) → Decidable (lessB c b)
  | none => .isTrue trivial
  | some (_, bc) => inferInstanceAs (Decidable (c < bc))
def updB (l : List Supply) (q : Ask) (b : Best) (m : List Int) : Best := if rightP l q m ∧ lessB (costM l m) b then some (m, costM l m) else b
def takeF (l : List Supply) (q : Ask) (b : Best) (p : List Int) : Best := (allM (l.drop p.length)).foldl (fun b t => updB l q b (p ++ t)) b
def stepsF (l : List Supply) (q : Ask) (b : Best) (p : List Int) (n : Nat) : Best := (List.range n).foldl (fun b (k : Nat) => takeF l q b (p ++ [(k : Int)])) b
theorem steps_succ (l : List Supply) (q : Ask) (b : Best) (p : List Int) (n : Nat) : stepsF l q b p (n + 1) = takeF l q (stepsF l q b p n) (p ++ [(n : Int)]) := by
  unfold stepsF; rw [List.range_succ, List.foldl_append]; rfl
theorem take_leaf {l : List Supply} {q : Ask} {b : Best} {p : List Int} (h : p.length = l.length) : takeF l q b p = updB l q b p := by
  unfold takeF
  rw [h, List.drop_length]
  simp [allM]
theorem take_steps {l : List Supply} {q : Ask} {b : Best} {p : List Int} {x : Supply} (hx : l[p.length]? = some x) : takeF l q b p = stepsF l q b p (x.most + 1).toNat := by
  obtain ⟨hl, e⟩ := List.getElem?_eq_some_iff.1 hx
  unfold takeF stepsF
  rw [List.drop_eq_getElem_cons hl, e, allM, List.foldl_flatMap]
  congr 1
  funext b n
  rw [List.foldl_map]
  unfold takeF
  rw [List.length_append, List.length_singleton]
  congr 1
  funext b t
  rw [List.append_assoc]; rfl
theorem fold_none {l : List Supply} {q : Ask} {b : Best} {p : List Int} : ∀ {ts : List (List Int)}, (∀ t ∈ ts, ¬ (rightP l q (p ++ t) ∧ lessB (costM l (p ++ t)) b)) → ts.foldl (fun b t => updB l q b (p ++ t)) b = b
  | [], _ => rfl
  | t :: ts, h => by
    rw [List.foldl_cons]
    have : updB l q b (p ++ t) = b := if_neg (h t List.mem_cons_self)
    rw [this]
    exact fold_none fun u hu => h u (List.mem_cons_of_mem _ hu)
theorem take_none {l : List Supply} {q : Ask} {b : Best} {p : List Int} (h : ∀ t, t.length = (l.drop p.length).length → InM (l.drop p.length) t → ¬ (rightP l q (p ++ t) ∧ lessB (costM l (p ++ t)) b)) : takeF l q b p = b :=
  fold_none fun t ht => h t (mem_allM ht).1 (mem_allM ht).2
theorem steps_none {l : List Supply} {q : Ask} {b : Best} {p : List Int} {n : Nat} : ∀ (k : Nat), (∀ (m : Nat), n ≤ m → m < n + k → takeF l q (stepsF l q b p n) (p ++ [(m : Int)]) = stepsF l q b p n) → stepsF l q b p (n + k) = stepsF l q b p n
  | 0, _ => rfl
  | k + 1, h => by
    have ih := steps_none k fun m h1 h2 => h m h1 (by omega)
    rw [← Nat.add_assoc, steps_succ, ih]
    exact h (n + k) (by omega) (by omega)
/-- What is valid. -/
def SupsOk (l : List Supply) : Prop := ∀ x ∈ l, supOk x
instance (l : List Supply) : Decidable (SupsOk l) := by unfold SupsOk; infer_instance
section
variable {l : List Supply} {q : Ask} {b : Best} {p : List Int}
theorem SupsOk.f (h : SupsOk l) : (∀ x ∈ l, 0 ≤ x.volume ∧ x.volume ≤ 1) ∧ (∀ x ∈ l, 0 ≤ x.heat.lo ∧ x.heat.lo ≤ 10000) ∧ (∀ x ∈ l, 0 ≤ x.heat.hi ∧ x.heat.hi ≤ 10000) ∧ (∀ x ∈ l, 0 ≤ x.pay ∧ x.pay ≤ 1000000) ∧ (∀ x ∈ l, 0 ≤ x.most ∧ x.most ≤ 20) :=
  ⟨fun x hx => (h x hx).2.1, fun x hx => by obtain ⟨⟨a, b, c⟩, _⟩ := h x hx; omega, fun x hx => by obtain ⟨⟨a, b, c⟩, _⟩ := h x hx; omega, fun x hx => (h x hx).2.2.2, fun x hx => (h x hx).2.2.1⟩
theorem SupsOk.drop (h : SupsOk l) (k : Nat) : SupsOk (l.drop k) := fun x hx => h x (List.mem_of_mem_drop hx)
structure MixBd (l : List Supply) (p : List Int) : Prop where
  v0 : 0 ≤ sumZ (·.volume) l p
  v1 : sumZ (·.volume) l p ≤ p.length * 20
  l0 : 0 ≤ sumZ (·.heat.lo) l p
  l1 : sumZ (·.heat.lo) l p ≤ p.length * 200000
  h0 : 0 ≤ sumZ (·.heat.hi) l p
  h1 : sumZ (·.heat.hi) l p ≤ p.length * 200000
  c0 : 0 ≤ costM l p
  c1 : costM l p ≤ p.length * 20000000
theorem mix_bd (h : SupsOk l) (hp : InM l p) : MixBd l p := by
  obtain ⟨a, b, c, d, e⟩ := h.f
  have e2 : ∀ x ∈ l, x.most ≤ 20 := fun x hx => (e x hx).2
  have h1 := sumZ_bd (f := (·.volume)) (B := 1) (by omega) a e2 hp
  have h2 := sumZ_bd (f := (·.heat.lo)) (B := 10000) (by omega) b e2 hp
  have h3 := sumZ_bd (f := (·.heat.hi)) (B := 10000) (by omega) c e2 hp
  have h4 := sumZ_bd (f := (·.pay)) (B := 1000000) (by omega) d e2 hp
  exact ⟨h1.1, by omega, h2.1, by omega, h3.1, by omega, h4.1, by unfold costM; omega⟩
/-- Of a number that is too great already. -/
theorem break_none {x : Supply} {n : Nat} (h : SupsOk l) (hp : InM l p) (hx : l[p.length]? = some x)
    (hb : sumZ (·.volume) l p + n * x.volume > q.vol ∨ sumZ (·.heat.hi) l p + n * x.heat.hi > q.most * q.vol ∨ ∃ m c, stepsF l q b p n = some (m, c) ∧ costM l p + n * x.pay ≥ c) :
    stepsF l q b p (x.most + 1).toNat = stepsF l q b p n ∨ (x.most + 1).toNat < n := by
  by_cases hn : (x.most + 1).toNat < n
  · exact .inr hn
  · refine .inl ?_
    have hx2 := h x (List.mem_of_getElem? hx)
    obtain ⟨⟨q1, q2, q3⟩, ⟨q4, q5⟩, ⟨q6, q7⟩, q8, q9⟩ := hx2
    have := steps_none (l := l) (q := q) (b := b) (p := p) (n := n) ((x.most + 1).toNat - n) fun m h1 h2 => by
      refine take_none fun t ht hi hq => ?_
      have hm : ((m : Nat) : Int) ≤ x.most := by omega
      have hps := hp.snoc hx (show (0 : Int) ≤ (m : Int) by omega) hm
      have hl := (List.getElem?_eq_some_iff.1 hx).1
      have bd := mix_bd (h.drop (p ++ [(m : Int)]).length) hi
      have hle : (p ++ [(m : Int)]).length ≤ l.length := by rw [List.length_append]; simp; omega
      obtain ⟨⟨r1, r2, r3⟩, r4⟩ := hq
      rw [sumZ_app _ l _ t hle, sumZ_snoc _ hx] at r1 r3
      have b1 := bd.v0; have b2 := bd.h0; have b3 := bd.c0
      have w1 := Int.mul_le_mul_of_nonneg_right (show (n : Int) ≤ m by omega) q4
      have w2 := Int.mul_le_mul_of_nonneg_right (show (n : Int) ≤ m by omega) (show 0 ≤ x.heat.hi by omega)
      have w3 := Int.mul_le_mul_of_nonneg_right (show (n : Int) ≤ m by omega) q8
      rcases hb with hb | hb | ⟨bm, bc, hb, hc⟩
      · omega
      · omega
      · rw [hb] at r4
        have r5 : costM l (p ++ [(m : Int)] ++ t) < bc := r4
        unfold costM at r5 hc b3
        rw [sumZ_app _ l _ t hle, sumZ_snoc _ hx] at r5
        omega
    rwa [show n + ((x.most + 1).toNat - n) = (x.most + 1).toNat by omega] at this
/-- Of a number that is too small. -/
theorem skip_none {x : Supply} {n : Nat} {b : Best} (h : SupsOk l) (hp : InM l p) (hx : l[p.length]? = some x) (hn : (n : Int) ≤ x.most)
    (hb : sumZ (·.volume) l p + n * x.volume + restS (·.volume) (l.drop (p.length + 1)) < q.vol ∨ sumZ (·.heat.lo) l p + n * x.heat.lo + restS (·.heat.lo) (l.drop (p.length + 1)) < q.least * q.vol) :
    takeF l q b (p ++ [(n : Int)]) = b := by
  refine take_none fun t ht hi hq => ?_
  have hl := (List.getElem?_eq_some_iff.1 hx).1
  have hle : (p ++ [(n : Int)]).length ≤ l.length := by rw [List.length_append]; simp; omega
  obtain ⟨⟨r1, r2, r3⟩, r4⟩ := hq
  rw [sumZ_app _ l _ t hle, sumZ_snoc _ hx] at r1 r2
  rw [List.length_append, List.length_singleton] at hi r1 r2
  obtain ⟨a, b', c, d, e⟩ := (h.drop (p.length + 1)).f
  have s1 := sumZ_rest (f := (·.volume)) (fun y hy => ⟨(a y hy).1, (e y hy).1⟩) hi
  have s2 := sumZ_rest (f := (·.heat.lo)) (fun y hy => ⟨(b' y hy).1, (e y hy).1⟩) hi
  rcases hb with hb | hb
  · omega
  · omega
theorem leaf_upd (hh : sumZ (·.heat.hi) l p ≤ q.most * q.vol) : updB l q b p = if (sumZ (·.volume) l p = q.vol ∧ q.least * q.vol ≤ sumZ (·.heat.lo) l p) ∧ lessB (costM l p) b then some (p, costM l p) else b := by
  unfold updB rightP
  by_cases h1 : (sumZ (·.volume) l p = q.vol ∧ q.least * q.vol ≤ sumZ (·.heat.lo) l p) ∧ lessB (costM l p) b
  · rw [if_pos h1, if_pos ⟨⟨h1.1.1, h1.1.2, hh⟩, h1.2⟩]
  · rw [if_neg h1, if_neg (fun hq => h1 ⟨⟨hq.1.1, hq.1.2.1⟩, hq.2⟩)]
end
/-! ### What is answered -/
def MixB (q : Ask) : Prop := (1 ≤ q.vol ∧ q.vol ≤ 80) ∧ (0 ≤ q.most ∧ q.most ≤ 10000) ∧ 0 ≤ q.least ∧ q.least ≤ q.most
instance (q : Ask) : Decidable (MixB q) := by unfold MixB; infer_instance
def mixF (l : List Supply) (q : Ask) : Best := (allM l).foldl (updB l q) none
def mixA (l : List Supply) (q : Ask) : List Int × Int × Int :=
  if l.length > 4 then ([], 0, 3) else if SupsOk l then (if MixB q then (match mixF l q with | none => ([], 0, 4) | some (m, c) => (m, c, 0)) else ([], 0, 2)) else ([], 0, 1)
end Go.Proofs.Ytjbfdfmngampdaa
