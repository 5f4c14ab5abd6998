/-
  Selling in the order of prices is best; more goods, better prices, less pay: no less income.
-/
import Derived.Test.YtlailecnbdlknaaP9
import Derived.Test.YtlailecnbdlknaaP11
set_option linter.all false
namespace Go.Proofs.Ytlailecnbdlknaa
open Go Go.H
abbrev Lo := Nat → Int
def gd (ss : List Sale) (i : Int) : Nat := (sale ss i.toNat).good.toNat
def pr (ss : List Sale) (i : Int) : Int := (sale ss i.toNat).price
def mo (ss : List Sale) (i : Int) : Int := (sale ss i.toNat).most
def revF (ss : List Sale) : List Int → Lo → Int
  | [], _ => 0
  | i :: is, L => min (mo ss i) (L (gd ss i)) * pr ss i + revF ss is (upd L (gd ss i) (L (gd ss i) - min (mo ss i) (L (gd ss i))))
def loOf (g : Goods) : Lo := fun j => (g j).lo
theorem loOf_upd {g : Goods} {k : Nat} {s : Span} : loOf (upd g k s) = upd (loOf g) k s.lo := by
  funext j; simp only [loOf, upd]; split <;> rfl
theorem sells_rev (ss : List Sale) : ∀ (is : List Int) (st : Sell), (sells ss is st).rev.sum = st.rev.sum + revF ss is (loOf st.g)
  | [], st => by simp [sells, revF]
  | i :: is, st => by
    show (sells ss is (sell1 ss st i)).rev.sum = _
    rw [sells_rev ss is]
    have h1 : (sell1 ss st i).rev.sum = st.rev.sum + sellN ss st i * pr ss i := by simp [sell1, pr]
    have h2 : loOf (sell1 ss st i).g = upd (loOf st.g) (gd ss i) (loOf st.g (gd ss i) - sellN ss st i) := loOf_upd
    have h3 : sellN ss st i = min (mo ss i) (loOf st.g (gd ss i)) := rfl
    rw [h1, h2, h3]
    show _ = st.rev.sum + (min (mo ss i) (loOf st.g (gd ss i)) * pr ss i + revF ss is _)
    omega
theorem income_eq (y : Yard) (plan : List Int) (g : Goods) : incomeY y plan g = (pays y.stills plan).sum + revF y.sales (ord y.sales) (loOf g) := by
  unfold incomeY sellY
  rw [List.sum_append, sells_rev]
  simp [st0]
theorem upd_comm {α : Type} (f : Nat → α) {i j : Nat} (u v : α) (h : i ≠ j) : upd (upd f i u) j v = upd (upd f j v) i u := by
  funext k; simp only [upd]; split <;> split <;> first | rfl | omega
/-- Of the sales of a list: what is asked of them. -/
structure OkS (ss : List Sale) (is : List Int) (P : Int) : Prop where
  p0 : 0 ≤ P
  pr : ∀ i ∈ is, 0 ≤ pr ss i ∧ pr ss i ≤ P
  mo : ∀ i ∈ is, 0 ≤ mo ss i
theorem OkS.tail {ss : List Sale} {i : Int} {is : List Int} {P : Int} (h : OkS ss (i :: is) P) : OkS ss is P := ⟨h.p0, fun j hj => h.pr j (List.mem_cons_of_mem _ hj), fun j hj => h.mo j (List.mem_cons_of_mem _ hj)⟩
theorem upd_nn {L : Lo} {k : Nat} {v : Int} (h : ∀ j, 0 ≤ L j) (hv : 0 ≤ v) : ∀ j, 0 ≤ upd L k v j := fun j => by
  simp only [upd]; split
  · exact hv
  · exact h j
theorem revF_more {ss : List Sale} {P : Int} : ∀ {is : List Int} {L : Lo} {e : Nat} {d : Int}, OkS ss is P → (∀ j, 0 ≤ L j) → 0 ≤ d → revF ss is (upd L e (L e + d)) ≤ revF ss is L + P * d
  | [], L, e, d, h, hL, hd => by
    simp only [revF]
    have := Int.mul_nonneg h.p0 hd
    omega
  | i :: is, L, e, d, h, hL, hd => by
    have hp := h.pr i List.mem_cons_self
    have hm := h.mo i List.mem_cons_self
    have hLe := hL (gd ss i)
    simp only [revF]
    by_cases he : gd ss i = e
    · subst he
      simp only [upd_same, upd_upd]
      generalize hu : min (mo ss i) (L (gd ss i) + d) - min (mo ss i) (L (gd ss i)) = u
      have hu0 : 0 ≤ u ∧ u ≤ d := by omega
      have ih := revF_more (is := is) (L := upd L (gd ss i) (L (gd ss i) - min (mo ss i) (L (gd ss i)))) (e := gd ss i) (d := d - u) h.tail (upd_nn hL (by omega)) (by omega)
      simp only [upd_same, upd_upd] at ih
      rw [show L (gd ss i) - min (mo ss i) (L (gd ss i)) + (d - u) = L (gd ss i) + d - min (mo ss i) (L (gd ss i) + d) by omega] at ih
      have e1 : min (mo ss i) (L (gd ss i) + d) * pr ss i = min (mo ss i) (L (gd ss i)) * pr ss i + u * pr ss i := by rw [← Int.add_mul]; congr 1; omega
      have e2 : u * pr ss i ≤ u * P := Int.mul_le_mul_of_nonneg_left hp.2 hu0.1
      have e3 : P * (d - u) = P * d - u * P := by rw [Int.mul_sub, Int.mul_comm P u]
      omega
    · rw [upd_other _ _ he]
      have hc := upd_comm L (L e + d) (L (gd ss i) - min (mo ss i) (L (gd ss i))) (Ne.symm he)
      rw [hc]
      have ih := revF_more (is := is) (L := upd L (gd ss i) (L (gd ss i) - min (mo ss i) (L (gd ss i)))) (e := e) (d := d) h.tail (upd_nn hL (by omega)) hd
      rw [upd_other _ _ (Ne.symm he)] at ih
      omega
theorem revF_mono {ss : List Sale} {P : Int} : ∀ {is : List Int} {L L' : Lo}, OkS ss is P → (∀ j, L j ≤ L' j) → revF ss is L ≤ revF ss is L'
  | [], _, _, _, _ => Int.le_refl _
  | i :: is, L, L', h, hL => by
    have hp := h.pr i List.mem_cons_self
    have hLe := hL (gd ss i)
    simp only [revF]
    have h1 : min (mo ss i) (L (gd ss i)) * pr ss i ≤ min (mo ss i) (L' (gd ss i)) * pr ss i := Int.mul_le_mul_of_nonneg_right (by omega) hp.1
    have h2 := revF_mono (is := is) (L := upd L (gd ss i) (L (gd ss i) - min (mo ss i) (L (gd ss i)))) (L' := upd L' (gd ss i) (L' (gd ss i) - min (mo ss i) (L' (gd ss i)))) h.tail (fun j => by
      simp only [upd]; split
      · omega
      · exact hL j)
    omega
def useF (ss : List Sale) (s : Int → Int) : List Int → Nat → Int
  | [], _ => 0
  | i :: is, d => (if gd ss i = d then s i else 0) + useF ss s is d
def valF (ss : List Sale) (s : Int → Int) : List Int → Int
  | [] => 0
  | i :: is => s i * pr ss i + valF ss s is
theorem useF_nn {ss : List Sale} {s : Int → Int} : ∀ {is : List Int} {d : Nat}, (∀ i ∈ is, 0 ≤ s i) → 0 ≤ useF ss s is d
  | [], _, _ => Int.le_refl _
  | i :: is, d, h => by
    have h1 := useF_nn (ss := ss) (is := is) (d := d) (fun j hj => h j (List.mem_cons_of_mem _ hj))
    have h2 := h i List.mem_cons_self
    simp only [useF]
    split <;> omega
theorem greedy_best {ss : List Sale} {s : Int → Int} {P : Int} : ∀ {is : List Int} {L : Lo}, OkS ss is P → is.Pairwise (fun a b => pr ss b ≤ pr ss a) → (∀ j, 0 ≤ L j) → (∀ i ∈ is, 0 ≤ s i ∧ s i ≤ mo ss i) → (∀ d, useF ss s is d ≤ L d) → valF ss s is ≤ revF ss is L
  | [], _, _, _, _, _, _ => Int.le_refl _
  | i :: is, L, h, hs, hL, hsi, hu => by
    rw [List.pairwise_cons] at hs
    have hp := h.pr i List.mem_cons_self
    have hm := h.mo i List.mem_cons_self
    have hi := hsi i List.mem_cons_self
    have hsi' : ∀ j ∈ is, 0 ≤ s j ∧ s j ≤ mo ss j := fun j hj => hsi j (List.mem_cons_of_mem _ hj)
    have hun := useF_nn (ss := ss) (is := is) (d := gd ss i) (fun j hj => (hsi' j hj).1)
    have hue := hu (gd ss i)
    simp only [useF, if_true] at hue
    have ih := greedy_best (is := is) (L := upd L (gd ss i) (L (gd ss i) - s i)) h.tail hs.2 (upd_nn hL (by omega)) hsi' (fun d => by
      have := hu d
      simp only [useF] at this
      simp only [upd]
      by_cases hd : gd ss i = d
      · subst hd; simp only [if_true] at this ⊢; omega
      · rw [if_neg hd] at this; rw [if_neg (Ne.symm hd)]; omega)
    have hmore := revF_more (ss := ss) (P := pr ss i) (is := is) (L := upd L (gd ss i) (L (gd ss i) - min (mo ss i) (L (gd ss i)))) (e := gd ss i) (d := min (mo ss i) (L (gd ss i)) - s i) ⟨hp.1, fun j hj => ⟨(h.pr j (List.mem_cons_of_mem _ hj)).1, hs.1 j hj⟩, fun j hj => h.mo j (List.mem_cons_of_mem _ hj)⟩ (upd_nn hL (by omega)) (by omega)
    simp only [upd_same, upd_upd] at hmore
    rw [show L (gd ss i) - min (mo ss i) (L (gd ss i)) + (min (mo ss i) (L (gd ss i)) - s i) = L (gd ss i) - s i by omega] at hmore
    simp only [valF, revF]
    have e1 : pr ss i * (min (mo ss i) (L (gd ss i)) - s i) = min (mo ss i) (L (gd ss i)) * pr ss i - s i * pr ss i := by rw [Int.mul_sub, Int.mul_comm, Int.mul_comm (pr ss i)]
    omega
theorem valF_congr {ss : List Sale} {s t : Int → Int} : ∀ {is : List Int}, (∀ i ∈ is, s i = t i) → valF ss s is = valF ss t is
  | [], _ => rfl
  | i :: is, h => by simp only [valF]; rw [h i List.mem_cons_self, valF_congr (fun j hj => h j (List.mem_cons_of_mem _ hj))]
theorem useF_congr {ss : List Sale} {s t : Int → Int} {d : Nat} : ∀ {is : List Int}, (∀ i ∈ is, s i = t i) → useF ss s is d = useF ss t is d
  | [], _ => rfl
  | i :: is, h => by simp only [useF]; rw [h i List.mem_cons_self, useF_congr (fun j hj => h j (List.mem_cons_of_mem _ hj))]
theorem greedy_is {ss : List Sale} {P : Int} : ∀ {is : List Int} {L : Lo}, OkS ss is P → is.Nodup → (∀ j, 0 ≤ L j) → ∃ s : Int → Int, (∀ i ∈ is, 0 ≤ s i ∧ s i ≤ mo ss i) ∧ (∀ d, useF ss s is d ≤ L d) ∧ valF ss s is = revF ss is L
  | [], L, _, _, hL => ⟨fun _ => 0, fun i h => absurd h List.not_mem_nil, fun d => hL d, rfl⟩
  | i :: is, L, h, hn, hL => by
    rw [List.nodup_cons] at hn
    have hm := h.mo i List.mem_cons_self
    have hLe := hL (gd ss i)
    obtain ⟨s, h1, h2, h3⟩ := greedy_is (is := is) (L := upd L (gd ss i) (L (gd ss i) - min (mo ss i) (L (gd ss i)))) h.tail hn.2 (upd_nn hL (by omega))
    have hc : ∀ j ∈ is, (fun k => if k = i then min (mo ss i) (L (gd ss i)) else s k) j = s j := fun j hj => if_neg (fun (e : j = i) => hn.1 (e ▸ hj))
    refine ⟨fun k => if k = i then min (mo ss i) (L (gd ss i)) else s k, fun j hj => ?_, fun d => ?_, ?_⟩
    · by_cases hji : j = i
      · subst hji; simp only [if_true]; omega
      · rcases List.mem_cons.1 hj with hj | hj
        · exact absurd hj hji
        · simp only [if_neg hji]; exact h1 j hj
    · simp only [useF]
      rw [useF_congr hc]
      have := h2 d
      simp only [upd] at this
      by_cases hd : gd ss i = d
      · subst hd; simp only [if_true] at this ⊢; omega
      · rw [if_neg (Ne.symm hd)] at this; rw [if_neg hd]; omega
    · simp only [valF, revF, if_true]
      rw [valF_congr hc, h3]
theorem valF_perm {ss : List Sale} {s : Int → Int} {a b : List Int} (h : a.Perm b) : valF ss s a = valF ss s b := by
  induction h with
  | nil => rfl
  | cons x _ ih => simp only [valF, ih]
  | swap x y l => simp only [valF]; omega
  | trans _ _ h1 h2 => exact h1.trans h2
theorem useF_perm {ss : List Sale} {s : Int → Int} {d : Nat} {a b : List Int} (h : a.Perm b) : useF ss s a d = useF ss s b d := by
  induction h with
  | nil => rfl
  | cons x _ ih => simp only [useF, ih]
  | swap x y l => simp only [useF]; omega
  | trans _ _ h1 h2 => exact h1.trans h2
theorem ord_price (ss : List Sale) : (ord ss).Pairwise (fun a b => pr ss b ≤ pr ss a) := (ord_sorted ss).imp (fun {a b} h => by
  rw [cmpS_neg] at h
  simp only [pr]
  omega)
theorem ord_perm (ss : List Sale) : (ord ss).Perm (nums ss.length) := isortI_perm _ _
/-- Sales that are no worse. -/
structure Better (ss ss' : List Sale) : Prop where
  len : ss'.length = ss.length
  gd : ∀ i, gd ss' i = gd ss i
  mo : ∀ i, mo ss i ≤ mo ss' i
  pr : ∀ i, pr ss i ≤ pr ss' i
theorem rev_better {ss ss' : List Sale} {P : Int} {L : Lo} (H : Better ss ss') (h : OkS ss (ord ss) P) (h' : OkS ss' (ord ss') P) (hL : ∀ j, 0 ≤ L j) : revF ss (ord ss) L ≤ revF ss' (ord ss') L := by
  obtain ⟨s, h1, h2, h3⟩ := greedy_is h (ord_nodup ss) hL
  have hp : (ord ss').Perm (ord ss) := (ord_perm ss').trans (by rw [H.len]; exact (ord_perm ss).symm)
  have hg := greedy_best (s := s) h' (ord_price ss') hL (fun i hi => by
    have := h1 i (hp.mem_iff.1 hi)
    have := H.mo i
    omega) (fun d => by
    have e1 : ∀ is, useF ss' s is d = useF ss s is d := fun is => by
      induction is with
      | nil => rfl
      | cons i is ih => simp only [useF, ih, H.gd]
    rw [useF_perm hp, e1]
    exact h2 d)
  rw [valF_perm hp] at hg
  have e2 : ∀ is, (∀ i ∈ is, 0 ≤ s i) → valF ss s is ≤ valF ss' s is := fun is => by
    induction is with
    | nil => intro _; exact Int.le_refl _
    | cons i is ih =>
      intro hs
      have := ih (fun j hj => hs j (List.mem_cons_of_mem _ hj))
      have h5 := Int.mul_le_mul_of_nonneg_left (H.pr i) (hs i List.mem_cons_self)
      simp only [valF]
      omega
  have := e2 (ord ss) (fun i hi => (h1 i hi).1)
  omega
theorem after_mono : ∀ {xs : List Still} {ts : List Int} {g g' r : Goods}, (∀ j, (g j).lo ≤ (g' j).lo) → afterG xs ts g = some r → ∃ r', afterG xs ts g' = some r' ∧ ∀ j, (r j).lo ≤ (r' j).lo
  | [], ts, g, g', r, hg, h => by
    have : r = g := by cases ts <;> (simp [afterG] at h; exact h.symm)
    subst this
    exact ⟨g', by cases ts <;> rfl, hg⟩
  | x :: xs, [], g, g', r, hg, h => by
    simp only [afterG, Option.some.injEq] at h
    subst h
    exact ⟨g', rfl, hg⟩
  | x :: xs, t :: ts, g, g', r, hg, h => by
    unfold afterG at h
    split at h
    · rename_i hc
      have hc' : canWork x t g' = true := by
        simp only [canWork, decide_eq_true_eq] at *
        have := hg x.in_.toNat
        omega
      obtain ⟨r', h1, h2⟩ := after_mono (g' := workG x t g') (fun j => by
        have := hg j
        simp only [workG, addG, takeG]
        split <;> split <;> (try dsimp only) <;> omega) h
      exact ⟨r', by unfold afterG; rw [if_pos hc']; exact h1, h2⟩
    · cases h
theorem best_le {y y' : Yard} {q q' : List Int} {m m' : Int} (h : IsBest y q m) (h' : IsBest y' q' m') (hs : y'.stills.length = y.stills.length) (hp : ∀ p, PlanOk y p → PlanOk y' p)
    (H : ∀ p g, PlanOk y p → p.length = y.stills.length → afterG y.stills p (newG y) = some g → GB y.stills.length g → ∃ g', afterG y'.stills p (newG y') = some g' ∧ incomeY y p g ≤ incomeY y' p g') : m ≤ m' := by
  obtain ⟨g, h1, h2, h3⟩ := h.after
  obtain ⟨g', h4, h5⟩ := H q g h.ok h.len h1 h2
  have := (h'.top q g' (by rw [hs]; exact h.len) (hp q h.ok) h4).1
  omega
theorem GoodYard.okS {y : Yard} (hy : GoodYard y) : OkS y.sales (ord y.sales) 1000000 := by
  have key : ∀ i ∈ ord y.sales, saleOk y.stock.length (sale y.sales i.toNat) := fun i hi => by
    have h1 := (mem_ord hi).2.2
    have h2 : y.sales[i.toNat]? = some y.sales[i.toNat] := List.getElem?_eq_getElem h1
    rw [sale_at h2]
    exact hy.sales _ (List.getElem_mem h1)
  exact ⟨by decide, fun i hi => (key i hi).2.2, fun i hi => (key i hi).2.1.1⟩
theorem GB.lo {k : Nat} {g : Goods} (h : GB k g) : ∀ j, 0 ≤ loOf g j := fun j => (h j).1
/-- More stock. -/
theorem more_stock {y y' : Yard} {q q' : List Int} {m m' : Int} (hy : GoodYard y) (h : IsBest y q m) (h' : IsBest y' q' m') (h1 : y'.stills = y.stills) (h2 : y'.sales = y.sales) (h3 : ∀ j, (newG y j).lo ≤ (newG y' j).lo) : m ≤ m' := by
  refine best_le h h' (by rw [h1]) (fun p hp => by unfold PlanOk; rw [h1]; exact hp) (fun p g _ _ ha hb => ?_)
  obtain ⟨g', h4, h5⟩ := after_mono h3 ha
  refine ⟨g', by rw [h1]; exact h4, ?_⟩
  rw [income_eq, income_eq, h1, h2]
  have := revF_mono (ss := y.sales) (is := ord y.sales) (L := loOf g) (L' := loOf g') hy.okS h5
  omega
/-- Better sales. -/
theorem more_sales {y y' : Yard} {q q' : List Int} {m m' : Int} (hy : GoodYard y) (hy' : GoodYard y') (h : IsBest y q m) (h' : IsBest y' q' m') (h1 : y'.stills = y.stills) (h2 : y'.stock = y.stock) (h3 : Better y.sales y'.sales) : m ≤ m' := by
  refine best_le h h' (by rw [h1]) (fun p hp => by unfold PlanOk; rw [h1]; exact hp) (fun p g _ _ ha hb => ?_)
  have hn : newG y' = newG y := by unfold newG; rw [h2]
  refine ⟨g, by rw [h1, hn]; exact ha, ?_⟩
  rw [income_eq, income_eq, h1]
  have := rev_better h3 hy.okS hy'.okS hb.lo
  omega
/-- Stills that cost no more. -/
def Cheap (x x' : Still) : Prop := x'.in_ = x.in_ ∧ x'.takes = x.takes ∧ x'.out = x.out ∧ x'.most = x.most ∧ x'.pay ≤ x.pay
inductive Cheaps : List Still → List Still → Prop where
  | nil : Cheaps [] []
  | cons {x x' : Still} {xs xs' : List Still} : Cheap x x' → Cheaps xs xs' → Cheaps (x :: xs) (x' :: xs')
theorem Cheaps.len : ∀ {xs xs' : List Still}, Cheaps xs xs' → xs.length = xs'.length
  | _, _, .nil => rfl
  | _, _, .cons _ h => by simp [h.len]
theorem Cheaps.at : ∀ {xs xs' : List Still} {k : Nat} {x' : Still}, Cheaps xs xs' → xs'[k]? = some x' → ∃ x, xs[k]? = some x ∧ Cheap x x'
  | _, _, k, x', .nil, h => by simp at h
  | x :: xs, _, 0, x', .cons hc h, hk => by
    simp at hk
    subst hk
    exact ⟨x, rfl, hc⟩
  | x :: xs, _, k + 1, x', .cons hc h, hk => by
    obtain ⟨z, h1, h2⟩ := h.at (k := k) (by simpa using hk)
    exact ⟨z, by simpa using h1, h2⟩
theorem Cheap.refl (x : Still) : Cheap x x := ⟨rfl, rfl, rfl, rfl, Int.le_refl _⟩
theorem Cheaps.refl : ∀ xs : List Still, Cheaps xs xs
  | [] => .nil
  | x :: xs => .cons (Cheap.refl x) (Cheaps.refl xs)
theorem Cheaps.set : ∀ {xs : List Still} {k : Nat} {x x' : Still}, xs[k]? = some x → Cheap x x' → Cheaps xs (xs.set k x')
  | [], k, x, x', h, _ => by simp at h
  | z :: xs, 0, x, x', h, hc => by
    simp at h
    subst h
    exact .cons hc (Cheaps.refl xs)
  | z :: xs, k + 1, x, x', h, hc => .cons (Cheap.refl z) (Cheaps.set (by simpa using h) hc)
theorem cheap_after : ∀ {xs xs' : List Still} {ts : List Int} {g : Goods}, Cheaps xs xs' → afterG xs' ts g = afterG xs ts g
  | _, _, ts, g, .nil => rfl
  | _, _, [], g, .cons _ _ => rfl
  | x :: xs, x' :: xs', t :: ts, g, .cons hc hr => by
    obtain ⟨h1, h2, h3, h4, h5⟩ := hc
    have e1 : canWork x' t g = canWork x t g := by simp only [canWork, h1, h2]
    have e2 : workG x' t g = workG x t g := by funext j; simp only [workG, addG, takeG, h1, h2, h3]
    unfold afterG
    rw [e1, e2, cheap_after hr]
theorem cheap_pays : ∀ {xs xs' : List Still} {ts : List Int}, Cheaps xs xs' → (∀ t ∈ ts, 0 ≤ t) → (pays xs ts).sum ≤ (pays xs' ts).sum
  | _, _, ts, .nil, _ => Int.le_refl _
  | _, _, [], .cons _ _, _ => by simp [pays]
  | x :: xs, x' :: xs', t :: ts, .cons hc hr, h => by
    have ih := cheap_pays (ts := ts) hr (fun u hu => h u (List.mem_cons_of_mem _ hu))
    have ht := h t List.mem_cons_self
    have h1 := Int.mul_le_mul_of_nonneg_left hc.2.2.2.2 ht
    simp only [pays, List.zipWith_cons_cons, List.sum_cons, Int.zero_sub, Int.neg_mul] at ih ⊢
    omega
theorem more_stills {y y' : Yard} {q q' : List Int} {m m' : Int} (h : IsBest y q m) (h' : IsBest y' q' m') (h1 : y'.sales = y.sales) (h2 : y'.stock = y.stock) (h3 : Cheaps y.stills y'.stills) : m ≤ m' := by
  have hlen := h3.len
  refine best_le h h' hlen.symm (fun p hp k x t hx ht => ?_) (fun p g ho hl ha hb => ?_)
  · obtain ⟨z, hz, hc⟩ := h3.at hx
    rw [hc.2.2.2.1]
    exact hp k z t hz ht
  · have hn : newG y' = newG y := by unfold newG; rw [h2]
    refine ⟨g, by rw [cheap_after h3, hn]; exact ha, ?_⟩
    rw [income_eq, income_eq, h1]
    have := cheap_pays (ts := p) h3 (fun t ht => by
      obtain ⟨k, hk⟩ := List.getElem?_of_mem ht
      have hkl := (List.getElem?_eq_some_iff.1 hk).1
      have hks : k < y.stills.length := by omega
      exact (ho k y.stills[k] t (List.getElem?_eq_getElem hks) hk).1)
    omega
/-- A still that is never worked. -/
def idle (oa : Option Addr) (oc n : Nat) : Still := ⟨0, 1, oa, oc, List.replicate n ⟨0, 0⟩, 0, 0⟩
theorem idle_work {oa : Option Addr} {oc n : Nat} {g : Goods} : workG (idle oa oc n) 0 g = g := by
  funext j
  simp only [workG, addG, takeG, Int.mul_zero, Int.zero_mul, Int.sub_zero, Int.add_zero]
  split <;> (try split) <;> rfl
theorem idle_after {oa : Option Addr} {oc n : Nat} {xs : List Still} {ts : List Int} {g : Goods} (h : 0 ≤ (g 0).lo) : afterG (idle oa oc n :: xs) (0 :: ts) g = afterG xs ts g := by
  have hc : canWork (idle oa oc n) 0 g = true := by simp [canWork, idle, h]
  show (if canWork (idle oa oc n) 0 g then afterG xs ts (workG (idle oa oc n) 0 g) else none) = _
  rw [if_pos hc, idle_work]
theorem idle_best {y y' : Yard} {q q' : List Int} {m m' : Int} {oa : Option Addr} {oc : Nat} (hy : GoodYard y) (h : IsBest y q m) (h' : IsBest y' q' m') (h1 : y'.sales = y.sales) (h2 : y'.stock = y.stock) (h3 : y'.stills = idle oa oc y.stock.length :: y.stills) : m' = m ∧ q'[0]? = some 0 ∧ q'.length = y.stills.length + 1 := by
  have hn : newG y' = newG y := by unfold newG; rw [h2]
  have h0 : 0 ≤ (newG y 0).lo := (GB.new hy 0).1
  have hq : ∃ ts, q' = 0 :: ts ∧ ts.length = y.stills.length ∧ PlanOk y ts := by
    have hl := h'.len
    rw [h3] at hl
    cases hqq : q' with
    | nil => rw [hqq] at hl; simp at hl
    | cons t ts =>
      rw [hqq] at hl
      have ho := h'.ok
      rw [hqq] at ho
      have ht := ho 0 (idle oa oc y.stock.length) t (by rw [h3]; rfl) rfl
      have : t = 0 := by simp [idle] at ht; omega
      subst this
      exact ⟨ts, rfl, by simpa using hl, fun k x t hx ht2 => ho (k + 1) x t (by rw [h3]; simpa using hx) (by simpa using ht2)⟩
  obtain ⟨ts, rfl, hl, ho⟩ := hq
  have hinc : ∀ p g, incomeY y' (0 :: p) g = incomeY y p g := fun p g => by
    rw [income_eq, income_eq, h1, h3]
    simp [pays]
  obtain ⟨g, a1, a2, a3⟩ := h.after
  obtain ⟨g', b1, b2, b3⟩ := h'.after
  rw [h3, hn, idle_after h0] at b1
  have t1 := (h.top ts g' hl ho b1).1
  have t2 := (h'.top (0 :: q) g (by rw [h3]; simp [h.len]) (fun k x t hx ht => by
    cases k with
    | zero => rw [h3] at hx; simp at hx ht; subst hx; subst ht; simp [idle]
    | succ k => rw [h3] at hx; exact h.ok k x t (by simpa using hx) (by simpa using ht)) (by rw [h3, hn, idle_after h0]; exact a1)).1
  rw [hinc] at b3 t2
  exact ⟨by omega, rfl, by simp [hl]⟩
end Go.Proofs.Ytlailecnbdlknaa
