/-
  The order of sales; sorting by insertion, in plain lists.
-/
import Derived.Test.YtmaldhbjhomdkaaTarW4
import Derived.Test.YtmaldhbjhomdkaaHT
set_option linter.all false
namespace Go.Proofs.Ytmaldhbjhomdkaa.Tar
open Go Go.H
def sale (ss : List Sale) (i : Nat) : Sale := ss.getD i ⟨0, 0, 0⟩
theorem sale_at {ss : List Sale} {i : Nat} {x : Sale} (h : ss[i]? = some x) : sale ss i = x := by simp [sale, List.getD, h]
def cmpS (ss : List Sale) (i k : Int) : Int := if (sale ss k.toNat).price - (sale ss i.toNat).price ≠ 0 then (sale ss k.toNat).price - (sale ss i.toNat).price else i - k
structure Cmp (cm : Int → Int → Int) : Prop where
  asy : ∀ {a b : Int}, cm a b < 0 → ¬ cm b a < 0
  tra : ∀ {a b c : Int}, ¬ cm b a < 0 → ¬ cm c b < 0 → ¬ cm c a < 0
theorem cmpS_neg (ss : List Sale) (i k : Int) : cmpS ss i k < 0 ↔ (sale ss k.toNat).price < (sale ss i.toNat).price ∨ ((sale ss k.toNat).price = (sale ss i.toNat).price ∧ i < k) := by
  unfold cmpS; split <;> omega
theorem cmpS_ok (ss : List Sale) : Cmp (cmpS ss) where
  asy := by intro a b; rw [cmpS_neg, cmpS_neg]; omega
  tra := by intro a b c; rw [cmpS_neg, cmpS_neg, cmpS_neg]; omega
def nat (zs : List Int) (p : Nat) : Int := zs.getD p 0
theorem nat_eq {zs : List Int} {p : Nat} (h : p < zs.length) : nat zs p = zs[p] := by simp [nat, List.getD, h]
structure Ins (cm : Int → Int → Int) (xs zs : List Int) (i j : Nat) : Prop where
  perm : zs.Perm xs
  ji : j ≤ i
  ord : ∀ p q, p < q → q ≤ i → p ≠ j → q ≠ j → ¬ cm (nat zs q) (nat zs p) < 0
  aft : ∀ q, j < q → q ≤ i → ¬ cm (nat zs q) (nat zs j) < 0
def Srt (cm : Int → Int → Int) (xs zs : List Int) (i : Nat) : Prop := zs.Perm xs ∧ ∀ p q, p < q → q < i → ¬ cm (nat zs q) (nat zs p) < 0
theorem Srt.one {cm : Int → Int → Int} {xs : List Int} : Srt cm xs xs 1 := ⟨List.Perm.refl _, fun p q h1 h2 => by omega⟩
theorem Srt.ins {cm : Int → Int → Int} {xs zs : List Int} {i : Nat} (H : Srt cm xs zs i) : Ins cm xs zs i i :=
  ⟨H.1, Nat.le_refl _, fun p q h1 h2 h3 h4 => H.2 p q h1 (by omega), fun q h1 h2 => by omega⟩
theorem Ins.done0 {cm : Int → Int → Int} {xs zs : List Int} {i : Nat} (H : Ins cm xs zs i 0) : Srt cm xs zs (i + 1) :=
  ⟨H.perm, fun p q h1 h2 => by
    by_cases hp : p = 0
    · subst hp; exact H.aft q h1 (by omega)
    · exact H.ord p q h1 (by omega) hp (by omega)⟩
theorem Ins.done {cm : Int → Int → Int} (hc : Cmp cm) {xs zs : List Int} {i j : Nat} (H : Ins cm xs zs i j) (hj : 0 < j) (hl : ¬ cm (nat zs j) (nat zs (j - 1)) < 0) : Srt cm xs zs (i + 1) :=
  ⟨H.perm, fun p q h1 h2 => by
    by_cases hp : p = j
    · subst hp; exact H.aft q h1 (by omega)
    · by_cases hq : q = j
      · subst hq
        by_cases hp1 : p = q - 1
        · subst hp1; exact hl
        · exact hc.tra (H.ord p (q - 1) (by omega) (by have := H.ji; omega) hp (by omega)) hl
      · exact H.ord p q h1 (by omega) hp hq⟩
def swp (zs : List Int) (j : Nat) : List Int := (zs.set j (nat zs (j - 1))).set (j - 1) (nat zs j)
theorem swp_perm {zs : List Int} {j : Nat} (hj : j < zs.length) : (swp zs j).Perm zs := by
  unfold swp
  rw [nat_eq hj, nat_eq (show j - 1 < zs.length by omega)]
  exact List.set_set_perm hj (by omega)
theorem swp_nat {zs : List Int} {j p : Nat} (h0 : 0 < j) (hj : j < zs.length) : nat (swp zs j) p = if p = j then nat zs (j - 1) else if p = j - 1 then nat zs j else nat zs p := by
  simp only [swp, nat, List.getD, List.getElem?_set, List.length_set]
  by_cases h1 : p = j
  · subst h1
    rw [if_neg (by omega), if_pos rfl, if_pos hj, if_pos rfl]; rfl
  · rw [if_neg h1]
    by_cases h2 : p = j - 1
    · subst h2
      rw [if_pos rfl, if_pos (by omega), if_pos rfl]; rfl
    · rw [if_neg (by omega), if_neg (by omega), if_neg h2]
theorem Ins.step {cm : Int → Int → Int} (hc : Cmp cm) {xs zs : List Int} {i j : Nat} (H : Ins cm xs zs i j) (hi : i < zs.length) (hj : 0 < j) (hl : cm (nat zs j) (nat zs (j - 1)) < 0) : Ins cm xs (swp zs j) i (j - 1) := by
  have hji := H.ji
  have hjl : j < zs.length := by omega
  refine ⟨(swp_perm hjl).trans H.perm, by omega, fun p q h1 h2 h3 h4 => ?_, fun q h1 h2 => ?_⟩
  · rw [swp_nat hj hjl, swp_nat hj hjl]
    by_cases hq : q = j
    · subst hq
      rw [if_pos rfl, if_neg (by omega), if_neg h3]
      exact H.ord p (q - 1) (by omega) (by omega) (by omega) (by omega)
    · rw [if_neg hq, if_neg h4]
      by_cases hp : p = j
      · subst hp
        rw [if_pos rfl]
        exact H.ord (p - 1) q (by omega) h2 (by omega) hq
      · rw [if_neg hp, if_neg h3]
        exact H.ord p q h1 h2 hp hq
  · rw [swp_nat hj hjl, swp_nat hj hjl, if_neg (show ¬ j - 1 = j by omega), if_pos rfl]
    by_cases hq : q = j
    · subst hq; rw [if_pos rfl]; exact hc.asy hl
    · rw [if_neg hq, if_neg (by omega)]; exact H.aft q (by omega) h2
theorem Srt.sorted {cm : Int → Int → Int} {xs zs : List Int} {n : Nat} (H : Srt cm xs zs n) (hn : xs.length ≤ n) : zs.Pairwise (fun a b => ¬ cm b a < 0) := by
  rw [List.pairwise_iff_getElem]
  intro i j hi hj hij
  have hl := H.1.length_eq
  have := H.2 i j hij (by omega)
  rwa [nat_eq hi, nat_eq hj] at this
theorem ints_at {zs sp : List Value} {l : List Int} {k : Nat} {x : Int} (h : l[k]? = some x) : (l.flatMap eI ++ sp)[0 + k * 1]? = some (I x) := take_get (flat_at eI_len sp l k h) (j := 0) rfl
theorem ints_set {l : List Int} {k : Nat} {v : Int} {sp : List Value} (h : k < l.length) : (l.flatMap eI ++ sp).set (0 + k * 1) (I v) = (l.set k v).flatMap eI ++ sp :=
  set_flat eI_len (x := l[k]) sp (j := 0) (by omega) rfl l k (List.getElem?_eq_getElem h)
theorem ints_len (l : List Int) : (l.flatMap eI).length = l.length := by rw [flat_lenM eI_len]; omega
end Go.Proofs.Ytmaldhbjhomdkaa.Tar

/-
  The sure income, in plain lists.
-/
set_option linter.all false
namespace Go.Proofs.Ytmaldhbjhomdkaa.Tar
open Go Go.H
def insI (cm : Int → Int → Int) (x : Int) : List Int → List Int
  | [] => [x]
  | y :: ys => if cm x y < 0 then x :: y :: ys else y :: insI cm x ys
def isortI (cm : Int → Int → Int) : List Int → List Int
  | [] => []
  | x :: xs => insI cm x (isortI cm xs)
theorem insI_perm (cm : Int → Int → Int) (x : Int) : ∀ ys, (insI cm x ys).Perm (x :: ys)
  | [] => .refl _
  | y :: ys => by
    unfold insI; split
    · exact .refl _
    · exact ((insI_perm cm x ys).cons y).trans (.swap _ _ _)
theorem isortI_perm (cm : Int → Int → Int) : ∀ xs, (isortI cm xs).Perm xs
  | [] => .refl _
  | x :: xs => (insI_perm cm x _).trans ((isortI_perm cm xs).cons x)
theorem insI_sorted {cm : Int → Int → Int} (hc : Cmp cm) (x : Int) : ∀ {ys : List Int}, ys.Pairwise (fun a b => ¬ cm b a < 0) → (insI cm x ys).Pairwise (fun a b => ¬ cm b a < 0)
  | [], _ => List.pairwise_singleton _ _
  | y :: ys, h => by
    obtain ⟨h1, h2⟩ := List.pairwise_cons.1 h
    unfold insI; split
    · rename_i hxy
      refine List.pairwise_cons.2 ⟨fun b hb => ?_, h⟩
      rcases List.mem_cons.1 hb with rfl | hb
      · exact hc.asy hxy
      · exact hc.tra (hc.asy hxy) (h1 b hb)
    · rename_i hxy
      refine List.pairwise_cons.2 ⟨fun b hb => ?_, insI_sorted hc x h2⟩
      rcases List.mem_cons.1 ((insI_perm cm x ys).mem_iff.1 hb) with rfl | hb
      · exact hxy
      · exact h1 b hb
theorem isortI_sorted {cm : Int → Int → Int} (hc : Cmp cm) : ∀ xs : List Int, (isortI cm xs).Pairwise (fun a b => ¬ cm b a < 0)
  | [] => List.Pairwise.nil
  | x :: xs => insI_sorted hc x (isortI_sorted hc xs)
def nums (n : Nat) : List Int := (List.range n).map fun (i : Nat) => (i : Int)
theorem nums_len (n : Nat) : (nums n).length = n := by simp [nums]
theorem nums_succ (n : Nat) : nums (n + 1) = nums n ++ [(n : Int)] := by simp [nums, List.range_succ]
theorem mem_nums {n : Nat} {i : Int} (h : i ∈ nums n) : 0 ≤ i ∧ i < n ∧ i.toNat < n := by
  simp only [nums, List.mem_map, List.mem_range] at h
  obtain ⟨a, h1, rfl⟩ := h
  omega
def ord (ss : List Sale) : List Int := isortI (cmpS ss) (nums ss.length)
theorem ord_uniq {ss : List Sale} {zs : List Int} (h1 : zs.Perm (nums ss.length)) (h2 : zs.Pairwise (fun a b => ¬ cmpS ss b a < 0)) : zs = ord ss := by
  refine List.Perm.eq_of_pairwise (le := fun a b => ¬ cmpS ss b a < 0) ?_ h2 (isortI_sorted (cmpS_ok ss) _) (h1.trans (isortI_perm _ _).symm)
  intro a b _ _ h3 h4
  rw [cmpS_neg] at h3 h4
  omega
theorem mem_ord {ss : List Sale} {i : Int} (h : i ∈ ord ss) : 0 ≤ i ∧ i < ss.length ∧ i.toNat < ss.length := mem_nums ((isortI_perm _ _).mem_iff.1 h)
theorem ord_len (ss : List Sale) : (ord ss).length = ss.length := by unfold ord; rw [(isortI_perm _ _).length_eq, nums_len]
structure Sell where
  g : Goods
  sold : List Int
  rev : List Int
def sellN (ss : List Sale) (st : Sell) (i : Int) : Int := min (sale ss i.toNat).most (st.g (sale ss i.toNat).good.toNat).lo
def sell1 (ss : List Sale) (st : Sell) (i : Int) : Sell :=
  ⟨upd st.g (sale ss i.toNat).good.toNat ⟨(st.g (sale ss i.toNat).good.toNat).lo - sellN ss st i, (st.g (sale ss i.toNat).good.toNat).hi⟩, st.sold.set i.toNat (sellN ss st i), st.rev ++ [sellN ss st i * (sale ss i.toNat).price]⟩
def sells (ss : List Sale) (is : List Int) (st : Sell) : Sell := is.foldl (sell1 ss) st
theorem sells_take {ss : List Sale} {is : List Int} {st : Sell} {k : Nat} {i : Int} (h : is[k]? = some i) : sells ss (is.take (k + 1)) st = sell1 ss (sells ss (is.take k) st) i := by
  unfold sells; rw [List.take_add_one, h]; simp
def pays (xs : List Still) (ts : List Int) : List Int := List.zipWith (fun x t => (0 - t) * x.pay) xs ts
theorem pays_take {xs : List Still} {ts : List Int} {k : Nat} {x : Still} {t : Int} (h1 : xs[k]? = some x) (h2 : ts[k]? = some t) : (pays xs ts).take (k + 1) = (pays xs ts).take k ++ [(0 - t) * x.pay] := by
  rw [List.take_add_one]; simp [pays, List.getElem?_zipWith, h1, h2]
theorem pays_len {xs : List Still} {ts : List Int} (h : ts.length = xs.length) : (pays xs ts).length = xs.length := by simp [pays, h]
def st0 (y : Yard) (g : Goods) : Sell := ⟨g, List.replicate y.sales.length 0, []⟩
def sellY (y : Yard) (g : Goods) : Sell := sells y.sales (ord y.sales) (st0 y g)
def incomeY (y : Yard) (plan : List Int) (g : Goods) : Int := (pays y.stills plan ++ (sellY y g).rev).sum
structure SellI (ss : List Sale) (n : Nat) (st : Sell) : Prop where
  g : ∀ j, 0 ≤ (st.g j).lo ∧ (st.g j).lo ≤ 100000000
  sold : st.sold.length = ss.length
  rev : ∀ x ∈ st.rev, -10000000000000 ≤ x ∧ x ≤ 10000000000000
  len : st.rev.length = n
theorem SellI.zero {y : Yard} {g : Goods} {k : Nat} (hg : GB k g) (hk : k ≤ 4) : SellI y.sales 0 (st0 y g) :=
  ⟨fun j => by have := hg j; simp only [st0]; omega, by simp [st0], fun x hx => by simp [st0] at hx, rfl⟩
theorem sellN_bd {m : Nat} {ss : List Sale} {n : Nat} {st : Sell} (H : SellI ss n st) (hs : ∀ x ∈ ss, saleOk m x) {i : Int} (hi : i.toNat < ss.length) : 0 ≤ sellN ss st i ∧ sellN ss st i ≤ 1048576 ∧ sellN ss st i ≤ (st.g (sale ss i.toNat).good.toNat).lo ∧ saleOk m (sale ss i.toNat) := by
  have hx : ss[i.toNat]? = some (sale ss i.toNat) := by rw [sale_at (List.getElem?_eq_getElem hi)]; exact List.getElem?_eq_getElem hi
  have h1 := hs _ (List.mem_of_getElem? hx)
  have h2 := H.g (sale ss i.toNat).good.toNat
  obtain ⟨⟨a1, a2⟩, ⟨b1, b2⟩, c1, c2⟩ := h1
  refine ⟨?_, ?_, ?_, ⟨a1, a2⟩, ⟨b1, b2⟩, c1, c2⟩ <;> unfold sellN <;> omega
theorem SellI.step {m : Nat} {ss : List Sale} {n : Nat} {st : Sell} (H : SellI ss n st) (hs : ∀ x ∈ ss, saleOk m x) {i : Int} (hi : i.toNat < ss.length) : SellI ss (n + 1) (sell1 ss st i) := by
  obtain ⟨h1, h2, h3, hok⟩ := sellN_bd H hs hi
  have hp := hok.2.2
  have hm := mul_bd h1 h2 hp.1 hp.2
  refine ⟨fun j => ?_, by simp [sell1, H.sold], fun x hx => ?_, by simp [sell1, H.len]⟩
  · have := H.g j
    simp only [sell1, upd]; split
    · rename_i hj; subst hj; dsimp only; omega
    · exact this
  · simp only [sell1, List.mem_append, List.mem_singleton] at hx
    rcases hx with hx | rfl
    · exact H.rev x hx
    · omega
theorem sells_inv {y : Yard} {g : Goods} (hy : GoodYard y) (hg : GB y.stills.length g) (hs : y.stills.length ≤ 4) : ∀ k, k ≤ y.sales.length → SellI y.sales k (sells y.sales ((ord y.sales).take k) (st0 y g))
  | 0, _ => SellI.zero hg hs
  | k + 1, hk => by
    have hl := ord_len y.sales
    have hi : (ord y.sales)[k]? = some (ord y.sales)[k] := List.getElem?_eq_getElem (by omega)
    rw [sells_take hi]
    exact (sells_inv hy hg hs k (by omega)).step hy.sales (mem_ord (List.mem_of_getElem? hi)).2.2
theorem pays_bd {y : Yard} {plan : List Int} (hy : GoodYard y) (hp : PlanOk y plan) {x : Int} (hx : x ∈ pays y.stills plan) : -10000000000000 ≤ x ∧ x ≤ 10000000000000 := by
  obtain ⟨k, hk⟩ := List.getElem?_of_mem hx
  simp only [pays, List.getElem?_zipWith] at hk
  cases h1 : y.stills[k]? with
  | none => rw [h1] at hk; simp at hk
  | some q =>
    cases h2 : plan[k]? with
    | none => rw [h1, h2] at hk; simp at hk
    | some t =>
      rw [h1, h2] at hk
      simp at hk
      have h3 := hp k q t h1 h2
      obtain ⟨_, _, _, h4, h5, _⟩ := hy.stills k q h1
      have h6 := mul_bd (a := t) (b := q.pay) (A := 8) (B := 1000000) (by omega) (by omega) h4.1 h4.2
      subst hk
      rw [Int.neg_mul]; omega
theorem perm_front {α : Type _} {V W K : List α} {a : α} : List.Perm (V ++ a :: (W ++ K)) (a :: (W ++ (V ++ K))) :=
  List.perm_middle.trans (List.Perm.cons _ (by rw [← List.append_assoc, ← List.append_assoc]; exact List.perm_append_comm.append_right _))
theorem len_ints {l : List Int} {k : Nat} {sp : List Value} (h : k < l.length) : 0 + k * 1 < (l.flatMap eI ++ sp).length := by rw [List.length_append, ints_len]; omega
theorem gset {l : List Int} {i : Nat} {v : Int} (h : i < l.length) : (l.set i v)[i]? = some v := List.getElem?_set_self h
theorem make_ints (n : Nat) : (madeCells (Value.int .i64 0).cells (n * 1)).toList = (List.replicate n 0).flatMap eI ++ [] := by
  have h1 : (madeCells (Value.int .i64 0).cells (n * 1)).toList = List.replicate n (I 0) := by
    refine List.eq_replicate_iff.2 ⟨by simp [madeCells], fun b hb => ?_⟩
    simp only [madeCells, Value.cells, Array.toList_map, List.mem_map] at hb
    obtain ⟨a, _, rfl⟩ := hb
    simp [Nat.mod_one]
  have h2 : ∀ m : Nat, List.replicate m (I 0) = (List.replicate m (0 : Int)).flatMap eI := fun m => by
    induction m with
    | zero => rfl
    | succ m ih => rw [List.replicate_succ, List.replicate_succ, List.flatMap_cons, ih]; rfl
  rw [h1, List.append_nil, h2]
end Go.Proofs.Ytmaldhbjhomdkaa.Tar

/-
  All plans that can be, in plain lists.
-/
set_option linter.all false
namespace Go.Proofs.Ytmaldhbjhomdkaa.Tar
open Go Go.H
def ways (x : Still) (g : Goods) : List Int := (nums (x.most + 1).toNat).takeWhile (fun n => canWork x n g)
def plansG : List Still → List Int → Goods → List (List Int)
  | [], pre, _ => [pre]
  | x :: xs, pre, g => (ways x g).flatMap fun n => plansG xs (pre ++ [n]) (workG x n g)
def plansY (y : Yard) : List (List Int) := plansG y.stills [] (newG y)
theorem nums_split {k : Nat} : ∀ {n : Nat}, k < n → ∃ r, nums n = nums k ++ (k : Int) :: r
  | 0, h => absurd h (Nat.not_lt_zero _)
  | n + 1, h => by
    rw [nums_succ]
    by_cases hk : k = n
    · subst hk; exact ⟨[], rfl⟩
    · obtain ⟨r, hr⟩ := nums_split (show k < n by omega)
      exact ⟨r ++ [(n : Int)], by rw [hr]; simp⟩
theorem mem_nums2 {n : Nat} {i : Int} (h : i ∈ nums n) : ∃ j : Nat, j < n ∧ i = j := by
  simp only [nums, List.mem_map, List.mem_range] at h
  obtain ⟨a, h1, rfl⟩ := h
  exact ⟨a, h1, rfl⟩
theorem ways_stop {x : Still} {g : Goods} {k : Nat} (hk : (k : Int) ≤ x.most) (h1 : ∀ j : Nat, j < k → canWork x j g = true) (h2 : canWork x k g = false) : ways x g = nums k := by
  obtain ⟨r, hr⟩ := nums_split (show k < (x.most + 1).toNat by omega)
  unfold ways
  rw [hr, List.takeWhile_append_of_pos (fun a ha => by obtain ⟨j, hj, rfl⟩ := mem_nums2 ha; exact h1 j hj), List.takeWhile_cons_of_neg (by simp [h2]), List.append_nil]
theorem ways_full {x : Still} {g : Goods} {k : Nat} (hk : (k : Int) = x.most + 1) (h1 : ∀ j : Nat, j < k → canWork x j g = true) : ways x g = nums k := by
  unfold ways
  rw [show (x.most + 1).toNat = k by omega]
  have := List.takeWhile_append_of_pos (p := fun n => canWork x n g) (l₁ := nums k) (l₂ := []) (fun a ha => by obtain ⟨j, hj, rfl⟩ := mem_nums2 ha; exact h1 j hj)
  simpa using this
theorem ways_take {x : Still} {g : Goods} {k : Nat} (hk : (k : Int) ≤ x.most) (h1 : ∀ j : Nat, j < k + 1 → canWork x j g = true) : ∃ r, ways x g = nums (k + 1) ++ r := by
  by_cases h : (k : Int) + 1 = x.most + 1
  · exact ⟨[], by rw [ways_full (k := k + 1) (by push_cast; omega) h1, List.append_nil]⟩
  · obtain ⟨r, hr⟩ := nums_split (show k + 1 < (x.most + 1).toNat by omega)
    unfold ways
    rw [hr, List.takeWhile_append_of_pos (fun a ha => by obtain ⟨j, hj, rfl⟩ := mem_nums2 ha; exact h1 j hj)]
    exact ⟨_, rfl⟩
def EncP (x : List Int) (vs : List Value) (p : Hp) : Prop := ∃ a c, vs = [.slice a x.length c] ∧ SlV p 1 eI a x
theorem perm3 {α : Type _} {p h : List α} {x u v : α} : List.Perm ([x, u, v] ++ (p ++ h)) (x :: (p ++ u :: v :: h)) := by
  show List.Perm (x :: u :: v :: (p ++ h)) _
  exact List.Perm.cons _ ((List.perm_middle.trans (List.perm_middle.cons _)).symm)
def subP (y : Yard) (plan : List Int) (x : Still) (g : Goods) (n : Int) : List (List Int) := plansG (y.stills.drop (plan.length + 1)) (plan ++ [n]) (workG x n g)
theorem plans_at {y : Yard} {plan : List Int} {x : Still} {g : Goods} (h : y.stills[plan.length]? = some x) : plansG (y.stills.drop plan.length) plan g = (ways x g).flatMap (subP y plan x g) := by
  obtain ⟨h1, h2⟩ := List.getElem?_eq_some_iff.1 h
  rw [List.drop_eq_getElem_cons h1, h2]; rfl
theorem plans_end {y : Yard} {plan : List Int} {g : Goods} (h : plan.length = y.stills.length) : plansG (y.stills.drop plan.length) plan g = [plan] := by
  rw [h, List.drop_length]; rfl
def subs (y : Yard) (plan : List Int) (x : Still) (g : Goods) (k : Nat) : List (List Int) := (nums k).flatMap (subP y plan x g)
theorem subs_succ {y : Yard} {plan : List Int} {x : Still} {g : Goods} {k : Nat} : subs y plan x g (k + 1) = subs y plan x g k ++ subP y plan x g k := by
  unfold subs; rw [nums_succ, List.flatMap_append, List.flatMap_cons, List.flatMap_nil, List.append_nil]
theorem subs_at {y : Yard} {plan : List Int} {x : Still} {g : Goods} {k : Nat} {all : List (List Int)} {idx : Nat} (hx : y.stills[plan.length]? = some x) (hall : ∀ j z, (plansG (y.stills.drop plan.length) plan g)[j]? = some z → all[idx + j]? = some z)
    (hk : (k : Int) ≤ x.most) (h1 : ∀ j : Nat, j < k + 1 → canWork x j g = true) : ∀ j z, (plansG (y.stills.drop (plan ++ [(k : Int)]).length) (plan ++ [(k : Int)]) (workG x k g))[j]? = some z → all[(idx + (subs y plan x g k).length) + j]? = some z := by
  intro j z hz
  obtain ⟨r, hr⟩ := ways_take hk h1
  have hz' : (subP y plan x g k)[j]? = some z := by
    unfold subP; rwa [List.length_append, List.length_singleton] at hz
  have hlt := (List.getElem?_eq_some_iff.1 hz').1
  rw [Nat.add_assoc]
  refine hall _ _ ?_
  rw [plans_at hx, hr, List.flatMap_append, show (nums (k + 1)).flatMap (subP y plan x g) = subs y plan x g (k + 1) from rfl, subs_succ, List.append_assoc, List.getElem?_append_right (by omega), Nat.add_sub_cancel_left, List.getElem?_append_left hlt]
  exact hz'
theorem holds2 {h : Hp} {b1 b2 : Nat} {o1 o2 : Obj} {p1 p2 : Obj → Prop} (m1 : (b1, o1) ∈ h) (q1 : p1 o1) (m2 : (b2, o2) ∈ h) (q2 : p2 o2) : Holds [(b1, p1), (b2, p2)] h := fun b' p' hb => by
  simp only [List.mem_cons, List.not_mem_nil, or_false, Prod.mk.injEq] at hb
  rcases hb with ⟨rfl, rfl⟩ | ⟨rfl, rfl⟩
  · exact ⟨o1, m1, q1⟩
  · exact ⟨o2, m2, q2⟩
end Go.Proofs.Ytmaldhbjhomdkaa.Tar

/-
  Walks.
-/
namespace Go.Proofs.Ytmaldhbjhomdkaa.Tar
open Go Go.H
set_option maxRecDepth 100000
set_option maxHeartbeats 8000000
set_option linter.all false
theorem plans_c {y : Yard} {h : Hp} {R : Ending → Hp → Prop} (H : ∀ bx, bx ∉ keys h → R (.returned (.func (.func 51) ⟨[]⟩ ⟨[.pointer (some ⟨bx, 0, none⟩)]⟩)) ((bx, .cells ⟨eYard y⟩ 30) :: h)) :
    ACalls Try.prog 30 ⟨[.agg ⟨eYard y⟩]⟩ h R := by
  refine calls_of_xc (N := 4) Try.func30 rfl (by rfl) ?_
  refine xc_seq (xc_region ?_)
  refine xr_op rfl rfl (xv_box rfl (fun bx hbx => ?_))
  refine xr_op rfl rfl (xv_assign rfl ?_)
  refine xr_end rfl ?_
  refine th_n ?_
  refine xc_seq (xc_region ?_)
  refine xr_op rfl rfl (xv_func rfl rfl ?_)
  refine xr_op rfl rfl (xv_assign rfl ?_)
  refine xr_end rfl ?_
  refine th_n ?_
  refine xc_ret ?_
  refine body_ret (h' := _) rfl (ro_tmp rfl ro_nil) Su_ ?_
  exact H bx hbx

def FromOk (core : Hp) (y : Yard) (bx b2 b3 : Nat) (yv : Value) (all : List (List Int)) (J Jx : Nat → Hp → Prop) (m : Nat) : Prop :=
  ∀ {a : Option Addr} {c : Nat} {plan : List Int} {g : Goods} {p h : Hp} {idx : Nat} {R : Ending → Hp → Prop}, y.stills.length = plan.length + m → SlV p 1 eI a plan → plan.length ≤ c → GB plan.length g →
    (∀ j z, (plansG (y.stills.drop plan.length) plan g)[j]? = some z → all[idx + j]? = some z) → J idx h →
    (∀ h2, J (idx + (plansG (y.stills.drop plan.length) plan g).length) h2 → R (.returned (.bool true)) ((b2, .cells ⟨[yv]⟩ 114) :: (b3, .cells ⟨[.func (.func 52) ⟨[]⟩ ⟨[.pointer (some ⟨bx, 0, none⟩), .pointer (some ⟨b2, 0, none⟩), .pointer (some ⟨b3, 0, none⟩)]⟩]⟩ 115) :: h2)) → (∀ k h2, k ≤ all.length → Jx k h2 → R (.returned (.bool false)) ((b2, .cells ⟨[yv]⟩ 114) :: (b3, .cells ⟨[.func (.func 52) ⟨[]⟩ ⟨[.pointer (some ⟨bx, 0, none⟩), .pointer (some ⟨b2, 0, none⟩), .pointer (some ⟨b3, 0, none⟩)]⟩]⟩ 115) :: h2)) →
    ACalls Try.prog 52 ⟨[.slice a plan.length c, .agg ⟨eGoods g⟩, .pointer (some ⟨bx, 0, none⟩), .pointer (some ⟨b2, 0, none⟩), .pointer (some ⟨b3, 0, none⟩)]⟩ (p ++ (b2, .cells ⟨[yv]⟩ 114) :: (b3, .cells ⟨[.func (.func 52) ⟨[]⟩ ⟨[.pointer (some ⟨bx, 0, none⟩), .pointer (some ⟨b2, 0, none⟩), .pointer (some ⟨b3, 0, none⟩)]⟩]⟩ 115) :: h) R

theorem from_step {core : Hp} {y : Yard} {bx b2 b3 : Nat} {yv : Value} {all : List (List Int)} {J Jx : Nat → Hp → Prop} {m : Nat} (hbx : (bx, .cells ⟨eYard y⟩ 30 (0, 0)) ∈ core) (hv : YardV core y) (hy : GoodYard y)
    (hRd : ∀ k h', J k h' → core ⊆ h') (hyv : ∀ k x, all[k]? = some x → ∀ vs p, EncP x vs p → ∀ h', J k h' → AFn Try.prog yv vs (p ++ h') (fun e h2 => (e = .returned (.bool true) ∧ J (k + 1) h2) ∨ (e = .returned (.bool false) ∧ Jx (k + 1) h2)))
    (ih : ∀ m', m' < m → FromOk core y bx b2 b3 yv all J Jx m') : FromOk core y bx b2 b3 yv all J Jx m := by
  intro a c plan g p h idx R hm hsl hcap hgb hall hJ H1 H2
  refine calls_of_xc (N := 50) Try.func52 rfl (by rfl) ?_
  have hn6 := hy.n6
  have hs4 := hy.s4
  have hc0 := hRd _ _ hJ
  have m1 := hc0 hbx
  refine xc_seq (xc_region ?_)
  refine xr_op rfl rfl (xv_box rfl (fun b6 hb6 => ?_))
  refine xr_op rfl rfl (xv_assign rfl ?_)
  refine xr_end rfl ?_
  refine th_n ?_
  refine xc_seq (xc_region ?_)
  refine xr_op rfl rfl (xv_move rfl ?_)
  refine xr_op rfl rfl (xv_len sl22 rfl ?_)
  refine xr_op rfl rfl (xv_assign rfl ?_)
  refine xr_end rfl ?_
  refine th_n ?_
  refine xc_seq ?_
  refine xc_seq (xc_region ?_)
  refine xr_op rfl rfl (xv_move rfl ?_)
  refine xr_op rfl rfl (xv_faddr fl26_1 rfl ?_)
  refine xr_op rfl rfl (xv_load1 ty23 rfl rfl Me_ (by rfl) ?_)
  refine xr_op rfl rfl (xv_len sl23 rfl ?_)
  refine xr_op rfl rfl (xv_eql2 rfl rfl (fun q1 => ?_) (fun q1 => ?_))
  · refine xr_end rfl ?_
    refine th_n ?_
    refine xc_true rfl ?_
    refine xc_seq (xc_region ?_)
    have hple : plan.length = y.stills.length := by (first|omega|(dsimp only at *;omega)|(simp at *;omega))
    refine xr_op rfl rfl (xv_load1 ty93 rfl rfl Me_ (by rfl) ?_)
    refine xr_op rfl rfl (xv_move rfl ?_)
    refine xr_op rfl rfl (xv_fn rfl rfl (AFn.perm perm3 (yieldTo (g := [_, _, _]) (hyv idx plan (hall 0 plan (by rw [plans_end hple]; rfl)) _ _ ⟨a, c, rfl, hsl⟩ _ hJ) (fun h3 hJ3 => up_ret ?_) (fun h3 hJ3 => up_ret ?_))))
    · refine xr_op rfl rfl (xv_assign rfl ?_)
      refine xr_end rfl ?_
      refine th_n ?_
      refine xc_ret ?_
      refine th_r ?_
      refine body_ret (h' := ((b2, .cells ⟨[yv]⟩ 114) :: (b3, .cells ⟨[.func (.func 52) ⟨[]⟩ ⟨[.pointer (some ⟨bx, 0, none⟩), .pointer (some ⟨b2, 0, none⟩), .pointer (some ⟨b3, 0, none⟩)]⟩]⟩ 115) :: h3)) rfl (ro_tmp rfl ro_nil) (by first | (first|((repeat first|exact s_0|exact s_1|exact s_3|refine s_4 ?_|refine s_5 ?_|refine s_6 ?_|refine s_7 ?_);done)|((repeat first|exact s_0|exact s_1|exact s_3|refine s_4 ?_|refine s_5 ?_|refine s_6 ?_|refine s_8 ?_);done)) | (exact List.Sublist.refl _)) ?_
      first | exact H1 h3 (by rw [plans_end hple]; exact hJ3) | exact H2 _ h3 (by have := (List.getElem?_eq_some_iff.1 (hall 0 plan (by rw [plans_end hple]; rfl))).1; omega) hJ3
    · refine xr_op rfl rfl (xv_assign rfl ?_)
      refine xr_end rfl ?_
      refine th_n ?_
      refine xc_ret ?_
      refine th_r ?_
      refine body_ret (h' := ((b2, .cells ⟨[yv]⟩ 114) :: (b3, .cells ⟨[.func (.func 52) ⟨[]⟩ ⟨[.pointer (some ⟨bx, 0, none⟩), .pointer (some ⟨b2, 0, none⟩), .pointer (some ⟨b3, 0, none⟩)]⟩]⟩ 115) :: h3)) rfl (ro_tmp rfl ro_nil) (by first | (first|((repeat first|exact s_0|exact s_1|exact s_3|refine s_4 ?_|refine s_5 ?_|refine s_6 ?_|refine s_7 ?_);done)|((repeat first|exact s_0|exact s_1|exact s_3|refine s_4 ?_|refine s_5 ?_|refine s_6 ?_|refine s_8 ?_);done)) | (exact List.Sublist.refl _)) ?_
      first | exact H1 h3 (by rw [plans_end hple]; exact hJ3) | exact H2 _ h3 (by have := (List.getElem?_eq_some_iff.1 (hall 0 plan (by rw [plans_end hple]; rfl))).1; omega) hJ3
  · refine xr_end rfl ?_
    refine th_n ?_
    refine xc_false rfl ?_
    refine xc_skip ?_
    refine th_n ?_
    refine xc_seq (xc_region ?_)
    have hv0 := hv.sub hc0
    have hlto : plan.length < y.stills.length := by (first|omega|(dsimp only at *;omega)|(simp at *;omega))
    obtain ⟨bo, oo, lo, to, fzo, hao, hmo, hxo⟩ := (hv0.stills).at hlto
    obtain ⟨xo, hko⟩ : ∃ qq_, y.stills[plan.length]? = some qq_ := ⟨_, List.getElem?_eq_getElem hlto⟩
    have hso := hy.stills _ xo hko
    have hib := hy.inb hko
    have hmo := hso.2.2.2.2.1
    refine xr_op rfl rfl (xv_faddr fl26_1 rfl ?_)
    refine xr_op rfl rfl (xv_load1 ty23 rfl rfl Me_ (by rfl) ?_)
    refine xr_op rfl rfl (xv_move rfl ?_)
    refine xr_op rfl rfl (xv_ia (sz := 5) (j := plan.length) sl23 ty48 rfl (by rw [hao]; rfl) rfl Ix_ Om_ Om_ ?_)
    refine xr_op rfl rfl (xv_loadA ty48 rfl rfl Me_ (hxo (plan.length) xo hko) rfl ?_)
    refine xr_op rfl rfl (xv_alloc ty48 (fun b9 hb9 => ?_))
    refine xr_op rfl rfl (xv_s ty48 rfl rfl Up_ Ev_ (by rfl) (by rfl) (by rfl) Ev_ ?_)
    refine xr_end rfl ?_
    refine th_n ?_
    refine xc_seq ?_
    refine xc_seq (xc_region ?_)
    refine xr_op rfl rfl (xv_faddr fl48_4 rfl ?_)
    refine xr_op rfl rfl (xv_load1 ty3 rfl rfl Me_ (by rfl) ?_)
    refine xr_op rfl rfl (xv_add rfl rfl (wrap_i64 Om_ Om_) ?_)
    refine xr_op rfl rfl (xv_move rfl ?_)
    refine xr_end rfl ?_
    refine th_n ?_
    refine xc_block ?_
    refine xc_loop (σ := Nat × Hp) (fun z => z.1 ≤ (xo.most + 1).toNat ∧ (∀ j : Nat, j < z.1 → canWork xo j g = true) ∧ J (idx + (subs y plan xo g z.1).length) z.2) (fun z => (((((((((emp.put (some 0) (.slice a plan.length c)).put (some 2) (.pointer (some ⟨bx, 0, none⟩))).put (some 3) (.pointer (some ⟨b2, 0, none⟩))).put (some 4) (.pointer (some ⟨b3, 0, none⟩))).put (some 6) (.pointer (some ⟨b6, 0, none⟩))).put (some 8) (I plan.length)).put (some 9) (.pointer (some ⟨b9, 0, none⟩))).put (some 29) (I (xo.most + 1))).put (some 30) (I z.1))) (fun z => ((b9, .cells ⟨eStill xo⟩ 37) :: (b6, .cells ⟨eGoods g⟩ 117) :: (p ++ (b2, .cells ⟨[yv]⟩ 114) :: (b3, .cells ⟨[.func (.func 52) ⟨[]⟩ ⟨[.pointer (some ⟨bx, 0, none⟩), .pointer (some ⟨b2, 0, none⟩), .pointer (some ⟨b3, 0, none⟩)]⟩]⟩ 115) :: z.2))) (fun z => (xo.most + 1).toNat - z.1) ((0, h) : Nat × Hp) ⟨Nat.zero_le _, fun _ hq => absurd hq (Nat.not_lt_zero _), hJ⟩ (le_put (le_put (le_put (le_put (le_put (le_put (le_put (le_put (le_put (le_emp _) rfl) rfl) rfl) rfl) rfl) rfl) rfl) rfl) rfl) Su_ ?_
    rintro ⟨k, h2⟩ ⟨hk, hcan, hJ2⟩
    dsimp only at hk hcan hJ2
    have hc2 := hRd _ _ hJ2
    have m2 := hc2 hbx
    have hv2 := hv.sub hc2
    refine xc_seq (xc_region ?_)
    refine xr_op rfl rfl (xv_lss2 rfl rfl (fun q2 => ?_) (fun q2 => ?_))
    · refine xr_end rfl ?_
      refine th_n ?_
      refine xc_seq ?_
      refine xc_true rfl ?_
      refine xc_skip ?_
      refine th_n ?_
      refine xc_seq ?_
      refine xc_block ?_
      refine xc_seq (xc_region ?_)
      refine xr_op rfl rfl (xv_move rfl ?_)
      refine xr_op rfl rfl (xv_assign rfl ?_)
      refine xr_end rfl ?_
      refine th_n ?_
      refine xc_seq (xc_region ?_)
      refine xr_op rfl rfl (xv_loadA ty75 rfl rfl Me_ Ev_ (by rfl) ?_)
      refine xr_op rfl rfl (xv_alloc ty75 (fun b11 hb11 => ?_))
      refine xr_op rfl rfl (xv_s ty75 rfl rfl Up_ Ev_ (by rfl) (by rfl) (by rfl) Ev_ ?_)
      refine xr_end rfl ?_
      refine th_n ?_
      refine xc_seq ?_
      refine xc_seq (xc_region ?_)
      refine xr_op rfl rfl (xv_loadA ty48 rfl rfl Me_ Ev_ (by rfl) ?_)
      refine xr_op rfl rfl (xv_move rfl ?_)
      refine xr_op rfl rfl (xv_calls rfl hb50 (work_c (st := plan.length) hso (by omega) hib.1 hib.2.2 ((hv2.out xo (List.mem_of_getElem? hko)).sub (by intro z hz; ((repeat first|exact z_0|assumption|refine z_1 ?_|(refine z_l ?_;(repeat first|exact z_0|assumption|refine z_1 ?_);done)|refine z_r ?_);done))) hgb (by omega) ⟨by omega, by omega⟩ (fun hcw => up_ret ?_) (fun hcw => up_ret ?_)))
      · refine xr_op rfl rfl (xv_not rfl ?_)
        refine xr_end rfl ?_
        refine th_n ?_
        refine xc_false rfl ?_
        refine xc_skip ?_
        refine th_n ?_
        refine xc_seq ?_
        refine xc_drawL (L := [(b3, fun o => o = .cells ⟨[.func (.func 52) ⟨[]⟩ ⟨[.pointer (some ⟨bx, 0, none⟩), .pointer (some ⟨b2, 0, none⟩), .pointer (some ⟨b3, 0, none⟩)]⟩]⟩ 115 (0, 0)), (b11, fun o => o = .cells ⟨eGoods (workG xo k g)⟩ 117 (0, 0))]) [(0, .S), (1, .S), (2, .S), (3, .S), (4, .S), (5, .S), (6, .P), (8, .S), (6, .A), (7, .O), (9, .O), (10, .S)] [] _ mixed (by kernel_rfl) (by rw [List.append_nil]) ((holds2 Me_ rfl Me_ rfl)) ?_
        have hcan2 : ∀ j : Nat, j < k + 1 → canWork xo j g = true := fun j hj => by
          rcases Nat.lt_succ_iff_lt_or_eq.1 hj with hj | rfl
          · exact hcan j hj
          · exact hcw
        have hgb2 : GB (plan.length + 1) (workG xo k g) := hgb.work hso hcw (by omega) (by omega)
        have hsub := subs_at hko hall (by omega) hcan2
        refine js_I rfl rfl (.inl rfl) (fun hh hv => by obtain ⟨o, hm, rfl⟩ := hv b3 _ List.mem_cons_self; exact xv_load1 ty94 rfl rfl (List.mem_append_left _ hm) rfl ⟨rfl, rfl⟩) ?_
        refine js_S rfl rfl (.inl rfl) (xv_move rfl ⟨rfl, rfl⟩) ?_
        refine js_S rfl rfl (.inl rfl) (xv_move rfl ⟨rfl, rfl⟩) ?_
        refine js_S rfl rfl (.inl rfl) (xv_move rfl ⟨rfl, rfl⟩) ?_
        refine js_S rfl rfl (.inl rfl) (xv_slice3 (m := plan.length) sl22 ty3 rfl rfl rfl (by omega) (by omega) (Int.toNat_natCast _) ⟨rfl, rfl⟩) ?_
        refine js_S rfl rfl (.inl rfl) (xv_move rfl ⟨rfl, rfl⟩) ?_
        refine js_P rfl rfl rfl (al_buildSlice sl22 ty3 rfl rfl rfl rfl rfl Ev_) ?_
        refine js_I rfl rfl (.inl rfl) (fun hh hv => by obtain ⟨o, hm, rfl⟩ := hv b11 _ (List.mem_cons_of_mem _ List.mem_cons_self); exact xv_loadA ty75 rfl rfl (List.mem_append_left _ hm) Ev_ (by rfl) ⟨rfl, rfl⟩) ?_
        refine js_A0 rfl rfl rfl rfl rfl ⟨rfl, trivial⟩ (fun b44 hb44 => ?_)
        refine js_OL0 rfl rfl (.inl rfl) (xv_appendN (enc := eI) (l := plan) sl22 ty3 rfl rfl rfl rfl (hsl.sub (by intro q hq; ((repeat first|exact z_0|assumption|refine z_1 ?_|(refine z_l ?_;(repeat first|exact z_0|assumption|refine z_1 ?_);done)|refine z_r ?_);done))) eI_len Me_ Ev_ rfl rfl (by omega) (by simp only []; omega) (by omega) (fun bp cap sp hVp => ?_))
        refine ⟨(holds2 Me_ rfl Me_ rfl), ?_⟩
        have hpl2 : plan.length + 1 = (plan ++ [(k : Int)]).length := by simp
        have hfl2 : (plan ++ [(k : Int)]).flatMap eI = plan.flatMap eI ++ [I k] := by rw [List.flatMap_append]; rfl
        have hslp : SlV [(bp, .cells ⟨(plan.flatMap eI ++ [I k]) ++ sp⟩ 3)] 1 eI (some ⟨bp, 0, none⟩) (plan ++ [(k : Int)]) := .inr ⟨bp, 0, _, 3, (0, 0), rfl, List.mem_cons_self, fun i q hq => by rw [← hfl2]; exact flat_at eI_len sp _ i hq⟩
        have hcp : plan.length + 1 ≤ cap := hVp.2.1
        rw [← hpl2] at hsub
        have hih := @ih (m - 1) (by omega) (some ⟨bp, 0, none⟩) cap (plan ++ [(k : Int)]) (workG xo k g) [(bp, .cells ⟨(plan.flatMap eI ++ [I k]) ++ sp⟩ 3)] h2 (idx + (subs y plan xo g k).length)
        rw [← hpl2] at hih
        refine js_OL0 rfl rfl (.inl rfl) (xv_fn rfl rfl (afn_func (fi := []) (lb := [.pointer (some ⟨bx, 0, none⟩), .pointer (some ⟨b2, 0, none⟩), .pointer (some ⟨b3, 0, none⟩)]) hb49 (ACalls.framedP ((b44, _) :: (b11, _) :: (b9, _) :: (b6, _) :: p) List.perm_middle (hih (by omega) hslp hcp hgb2 hsub hJ2 (fun h3 hJ3 => up_ret ?_) (fun kx h3 hkx hJ3 => up_ret ?_)))))
        · refine ⟨(holds2 Me_ rfl Me_ rfl), ?_⟩
          refine js_S rfl rfl (.inl rfl) (xv_not rfl ⟨rfl, rfl⟩) ?_
          refine j_end0 ?_
          refine th_n ?_
          refine xc_false rfl ?_
          refine xc_skip ?_
          refine bk_n ?_
          refine th_n ?_
          refine xc_region ?_
          refine xr_op rfl rfl (xv_add rfl rfl (wrap_i64 Om_ Om_) ?_)
          refine xr_op rfl rfl (xv_move rfl ?_)
          refine xr_end rfl ?_
          exact rnd ((k + 1, h3) : Nat × Hp) ⟨by (first|omega|(dsimp only at *;omega)|(simp at *;omega)), hcan2, by dsimp only; rw [subs_succ, List.length_append, ← Nat.add_assoc]; exact hJ3⟩ Om_ (le_put (le_put (le_put (le_put (le_put (le_put (le_put (le_put (le_put (le_emp _) rfl) rfl) rfl) rfl) rfl) rfl) rfl) rfl) rfl) Su_
        · refine ⟨(holds2 Me_ rfl Me_ rfl), ?_⟩
          refine js_S rfl rfl (.inl rfl) (xv_not rfl ⟨rfl, rfl⟩) ?_
          refine j_end0 ?_
          refine th_n ?_
          refine xc_true rfl ?_
          refine xc_seq (xc_region ?_)
          refine xr_op rfl rfl (xv_assign rfl ?_)
          refine xr_end rfl ?_
          refine th_n ?_
          refine xc_ret ?_
          refine bk_r ?_
          refine th_r ?_
          refine th_r ?_
          refine bk_r ?_
          refine th_r ?_
          refine body_ret (h' := ((b2, .cells ⟨[yv]⟩ 114) :: (b3, .cells ⟨[.func (.func 52) ⟨[]⟩ ⟨[.pointer (some ⟨bx, 0, none⟩), .pointer (some ⟨b2, 0, none⟩), .pointer (some ⟨b3, 0, none⟩)]⟩]⟩ 115) :: h3)) rfl (ro_tmp rfl ro_nil) (by first | (first|((repeat first|exact s_0|exact s_1|exact s_3|refine s_4 ?_|refine s_5 ?_|refine s_6 ?_|refine s_7 ?_);done)|((repeat first|exact s_0|exact s_1|exact s_3|refine s_4 ?_|refine s_5 ?_|refine s_6 ?_|refine s_8 ?_);done)) | (exact List.Sublist.refl _)) ?_
          exact H2 kx h3 hkx hJ3
      · refine xr_op rfl rfl (xv_not rfl ?_)
        refine xr_end rfl ?_
        refine th_n ?_
        refine xc_true rfl ?_
        refine xc_seq (xc_region ?_)
        have hway : ways xo g = nums k := ways_stop (by omega) hcan hcw
        refine xr_op rfl rfl (xv_assign rfl ?_)
        refine xr_end rfl ?_
        refine th_n ?_
        refine xc_ret ?_
        refine th_r ?_
        refine bk_r ?_
        refine th_r ?_
        refine th_r ?_
        refine bk_r ?_
        refine th_r ?_
        refine body_ret (h' := ((b2, .cells ⟨[yv]⟩ 114) :: (b3, .cells ⟨[.func (.func 52) ⟨[]⟩ ⟨[.pointer (some ⟨bx, 0, none⟩), .pointer (some ⟨b2, 0, none⟩), .pointer (some ⟨b3, 0, none⟩)]⟩]⟩ 115) :: h2)) rfl (ro_tmp rfl ro_nil) (by first | (first|((repeat first|exact s_0|exact s_1|exact s_3|refine s_4 ?_|refine s_5 ?_|refine s_6 ?_|refine s_7 ?_);done)|((repeat first|exact s_0|exact s_1|exact s_3|refine s_4 ?_|refine s_5 ?_|refine s_6 ?_|refine s_8 ?_);done)) | (exact List.Sublist.refl _)) ?_
        exact H1 h2 (by rw [plans_at hko, hway]; exact hJ2)
    · refine xr_end rfl ?_
      refine th_n ?_
      refine xc_seq ?_
      refine xc_false rfl ?_
      refine xc_exit ?_
      refine th_x ?_
      refine th_x ?_
      refine bk_same ?_
      refine th_n ?_
      refine xc_seq (xc_region ?_)
      have hway : ways xo g = nums k := ways_full Om_ hcan
      refine xr_op rfl rfl (xv_assign rfl ?_)
      refine xr_end rfl ?_
      refine th_n ?_
      refine xc_ret ?_
      refine body_ret (h' := ((b2, .cells ⟨[yv]⟩ 114) :: (b3, .cells ⟨[.func (.func 52) ⟨[]⟩ ⟨[.pointer (some ⟨bx, 0, none⟩), .pointer (some ⟨b2, 0, none⟩), .pointer (some ⟨b3, 0, none⟩)]⟩]⟩ 115) :: h2)) rfl (ro_tmp rfl ro_nil) (by first | (first|((repeat first|exact s_0|exact s_1|exact s_3|refine s_4 ?_|refine s_5 ?_|refine s_6 ?_|refine s_7 ?_);done)|((repeat first|exact s_0|exact s_1|exact s_3|refine s_4 ?_|refine s_5 ?_|refine s_6 ?_|refine s_8 ?_);done)) | (exact List.Sublist.refl _)) ?_
      exact H1 h2 (by rw [plans_at hko, hway]; exact hJ2)

end Go.Proofs.Ytmaldhbjhomdkaa.Tar

/-
  Walks.
-/
namespace Go.Proofs.Ytmaldhbjhomdkaa.Tar
open Go Go.H
set_option maxRecDepth 100000
set_option maxHeartbeats 8000000
set_option linter.all false
theorem sum_c {a : Option Addr} {c : Nat} {xs : List Int} {B : Int} {h : Hp} {R : Ending → Hp → Prop} (hs : SlV h 1 eI a xs) (hB : 0 ≤ B) (hlen : xs.length * B ≤ 4611686018427387904) (hlen2 : xs.length ≤ 4611686018427387904) (hb : ∀ x ∈ xs, -B ≤ x ∧ x ≤ B)
    (H : R (.returned (I xs.sum)) h) :
    ACalls Try.prog 58 ⟨[.slice a xs.length c]⟩ h R := by
  refine calls_of_xc (N := 16) Try.func58 rfl (by rfl) ?_
  refine xc_seq (xc_region ?_)
  refine xr_op rfl rfl (xv_assign rfl ?_)
  refine xr_end rfl ?_
  refine th_n ?_
  refine xc_seq ?_
  refine xc_seq (xc_region ?_)
  refine xr_op rfl rfl (xv_move rfl ?_)
  refine xr_op rfl rfl (xv_len sl22 rfl ?_)
  refine xr_op rfl rfl (xv_move rfl ?_)
  refine xr_end rfl ?_
  refine th_n ?_
  refine xc_block ?_
  refine xc_loop (σ := Nat) (fun k => k ≤ xs.length) (fun k => ((((emp.put (some 2) (I (xs.take k).sum)).put (some 5) (.slice a xs.length c)).put (some 6) (I xs.length)).put (some 7) (I k))) (fun k => h) (fun k => xs.length - k) 0 (Nat.zero_le _) (le_put (le_put (le_put (le_put (le_emp _) rfl) rfl) rfl) rfl) Su_ ?_
  rintro k hk
  refine xc_seq (xc_region ?_)
  refine xr_op rfl rfl (xv_lss2 rfl rfl (fun q1 => ?_) (fun q1 => ?_))
  · refine xr_end rfl ?_
    refine th_n ?_
    refine xc_seq ?_
    refine xc_true rfl ?_
    refine xc_skip ?_
    refine th_n ?_
    refine xc_seq ?_
    refine xc_block ?_
    refine xc_seq (xc_region ?_)
    have hlto : k < xs.length := by (first|omega|(dsimp only at *;omega)|(simp at *;omega))
    obtain ⟨bo, oo, lo, to, fzo, hao, hmo, hxo⟩ := (hs).at hlto
    obtain ⟨xo, hko⟩ : ∃ qq_, xs[k]? = some qq_ := ⟨_, List.getElem?_eq_getElem hlto⟩
    have hbk := sum_bd (xs := xs.take k) (fun y hy => hb y (List.mem_of_mem_take hy))
    have hbx := hb xo (List.mem_of_getElem? hko)
    rw [List.length_take, Nat.min_eq_left hk] at hbk
    have hkB : (k : Int) * B ≤ xs.length * B := Int.mul_le_mul_of_nonneg_right (by omega) hB
    have hkB2 : ((k + 1 : Nat) : Int) * B ≤ xs.length * B := Int.mul_le_mul_of_nonneg_right (by omega) hB
    have hkB3 : ((k + 1 : Nat) : Int) * B = k * B + B := by rw [Int.natCast_add, Int.add_mul]; simp
    refine xr_op rfl rfl (xv_ia (sz := 1) sl22 ty3 rfl (by rw [hao]; rfl) rfl Ix_ Om_ Om_ ?_)
    refine xr_op rfl rfl (xv_load1 ty3 rfl rfl Me_ (take_get (hxo (k) xo hko) (j := 0) rfl) ?_)
    refine xr_op rfl rfl (xv_assign rfl ?_)
    refine xr_end rfl ?_
    refine th_n ?_
    refine xc_region ?_
    refine xr_op rfl rfl (xv_move rfl ?_)
    refine xr_op rfl rfl (xv_move rfl ?_)
    refine xr_op rfl rfl (xv_add rfl rfl (wrap_i64 Om_ Om_) ?_)
    refine xr_op rfl rfl (xv_assign rfl ?_)
    refine xr_end rfl ?_
    refine bk_n ?_
    refine th_n ?_
    refine xc_region ?_
    refine xr_op rfl rfl (xv_add rfl rfl (wrap_i64 Om_ Om_) ?_)
    refine xr_op rfl rfl (xv_move rfl ?_)
    refine xr_end rfl ?_
    exact rnd (k + 1) Om_ Om_ (le_put (le_put (le_put (le_put (le_emp _) (by rw [sum_take hko]; rfl)) rfl) rfl) rfl) Su_
  · refine xr_end rfl ?_
    refine th_n ?_
    refine xc_seq ?_
    refine xc_false rfl ?_
    refine xc_exit ?_
    refine th_x ?_
    refine th_x ?_
    refine bk_same ?_
    refine th_n ?_
    refine xc_seq (xc_region ?_)
    obtain rfl : k = xs.length := by (first|omega|(dsimp only at *;omega)|(simp at *;omega))
    rw [List.take_length]
    refine xr_op rfl rfl (xv_move rfl ?_)
    refine xr_op rfl rfl (xv_assign rfl ?_)
    refine xr_end rfl ?_
    refine th_n ?_
    refine xc_ret ?_
    refine body_ret (h' := h) rfl (ro_tmp rfl ro_nil) Su_ ?_
    exact H

end Go.Proofs.Ytmaldhbjhomdkaa.Tar

/-
  Walks.
-/
namespace Go.Proofs.Ytmaldhbjhomdkaa.Tar
open Go Go.H
set_option maxRecDepth 100000
set_option maxHeartbeats 8000000
set_option linter.all false
theorem first_c {a : Option Addr} {c : Nat} {ss : List Sale} {i k : Int} {h : Hp} {R : Ending → Hp → Prop} (hs : SlV h 3 eSale a ss) (hsm : ∀ x ∈ ss, 0 ≤ x.price ∧ x.price ≤ 1000000) (hi : 0 ≤ i ∧ i < ss.length) (hk : 0 ≤ k ∧ k < ss.length) (hl : ss.length ≤ 1000)
    (H : R (.returned (I (cmpS ss i k))) h) :
    ACalls Try.prog 56 ⟨[.slice a ss.length c, I i, I k]⟩ h R := by
  refine calls_of_xc (N := 25) Try.func56 rfl (by rfl) ?_
  obtain ⟨b, o, l, t, fz, ha, hm, hx⟩ := hs.at (i := i.toNat) (by omega)
  obtain ⟨xi, hxi⟩ : ∃ q, ss[i.toNat]? = some q := ⟨_, List.getElem?_eq_getElem (by omega)⟩
  obtain ⟨xk, hxk⟩ : ∃ q, ss[k.toNat]? = some q := ⟨_, List.getElem?_eq_getElem (by omega)⟩
  have hpi := hsm xi (List.mem_of_getElem? hxi)
  have hpk := hsm xk (List.mem_of_getElem? hxk)
  have hci : cmpS ss i k = if xk.price - xi.price ≠ 0 then xk.price - xi.price else i - k := by unfold cmpS; rw [sale_at hxi, sale_at hxk]
  refine xc_seq (xc_region ?_)
  refine xr_op rfl rfl (xv_assign rfl ?_)
  refine xr_end rfl ?_
  refine th_n ?_
  refine xc_seq ?_
  refine xc_seq ?_
  refine xc_draw0 [(0, .S), (1, .S), (2, .S), (3, .S), (4, .R), (5, .S), (6, .S), (7, .S), (8, .S), (9, .R), (10, .S), (11, .S)] mixed (by kernel_rfl) ?_
  refine js_S rfl rfl (.inl rfl) (xv_move rfl ⟨rfl, rfl⟩) ?_
  refine js_S rfl rfl (.inl rfl) (xv_move rfl ⟨rfl, rfl⟩) ?_
  refine js_S rfl rfl (.inl rfl) (xv_ia (sz := 3) (j := k.toNat) sl98 ty51 rfl (by rw [ha]; rfl) rfl rfl (by omega) (by omega) ⟨rfl, rfl⟩) ?_
  refine js_S rfl rfl (.inl rfl) (xv_faddr fl51_2 rfl ⟨rfl, rfl⟩) ?_
  refine js_R0 rfl rfl (.inl rfl) (xv_load1 ty3 rfl rfl Me_ (take_get (hx k.toNat xk hxk) (j := 2) rfl) ⟨rfl, rfl⟩) ?_
  refine js_S rfl rfl (.inl rfl) (xv_move rfl ⟨rfl, rfl⟩) ?_
  refine js_S rfl rfl (.inl rfl) (xv_move rfl ⟨rfl, rfl⟩) ?_
  refine js_S rfl rfl (.inl rfl) (xv_ia (sz := 3) (j := i.toNat) sl98 ty51 rfl (by rw [ha]; rfl) rfl rfl (by omega) (by omega) ⟨rfl, rfl⟩) ?_
  refine js_S rfl rfl (.inl rfl) (xv_faddr fl51_2 rfl ⟨rfl, rfl⟩) ?_
  refine js_R0 rfl rfl (.inl rfl) (xv_load1 ty3 rfl rfl Me_ (take_get (hx i.toNat xi hxi) (j := 2) rfl) ⟨rfl, rfl⟩) ?_
  refine js_S rfl rfl (.inl rfl) (xv_sub rfl rfl (wrap_i64 Om_ Om_) ⟨rfl, rfl⟩) ?_
  refine js_S rfl rfl (.inl rfl) (xv_assign rfl ⟨rfl, rfl⟩) ?_
  refine j_end0 ?_
  refine th_n ?_
  refine xc_seq (xc_region ?_)
  refine xr_op rfl rfl (xv_move rfl ?_)
  refine xr_op rfl rfl (xv_neq2 rfl rfl (fun q1 => ?_) (fun q1 => ?_))
  · refine xr_end rfl ?_
    refine th_n ?_
    refine xc_true rfl ?_
    refine xc_seq (xc_region ?_)
    refine xr_op rfl rfl (xv_move rfl ?_)
    refine xr_op rfl rfl (xv_assign rfl ?_)
    refine xr_end rfl ?_
    refine th_n ?_
    refine xc_ret ?_
    refine th_r ?_
    refine body_ret (h' := h) rfl (ro_tmp rfl ro_nil) Su_ ?_
    first | (rw [hci, if_pos Om_] at H; exact H) | (rw [hci, if_neg Om_] at H; exact H)
  · refine xr_end rfl ?_
    refine th_n ?_
    refine xc_false rfl ?_
    refine xc_skip ?_
    refine th_n ?_
    refine xc_seq (xc_region ?_)
    refine xr_op rfl rfl (xv_move rfl ?_)
    refine xr_op rfl rfl (xv_move rfl ?_)
    refine xr_op rfl rfl (xv_sub rfl rfl (wrap_i64 Om_ Om_) ?_)
    refine xr_op rfl rfl (xv_assign rfl ?_)
    refine xr_end rfl ?_
    refine th_n ?_
    refine xc_ret ?_
    refine body_ret (h' := h) rfl (ro_tmp rfl ro_nil) Su_ ?_
    first | (rw [hci, if_pos Om_] at H; exact H) | (rw [hci, if_neg Om_] at H; exact H)

end Go.Proofs.Ytmaldhbjhomdkaa.Tar

/-
  Walks.
-/
namespace Go.Proofs.Ytmaldhbjhomdkaa.Tar
open Go Go.H
set_option maxRecDepth 100000
set_option maxHeartbeats 8000000
set_option linter.all false
theorem insertion_c {b cap : Nat} {sp : List Value} {xs : List Int} {f : Value} {cm : Int → Int → Int} {L : Hp} {R : Ending → Hp → Prop} (hc : Cmp cm) (hn : xs.length ≤ 12)
    (hf : ∀ i k, i ∈ xs → k ∈ xs → ∀ H R', L ⊆ H → R' (.returned (I (cm i k))) H → AFn Try.prog f [I i, I k] H R')
    (H : ∀ zs : List Int, zs.Perm xs → zs.Pairwise (fun a b => ¬ cm b a < 0) → R (.returned (.tuple #[])) ((b, .cells ⟨zs.flatMap eI ++ sp⟩ 3) :: L)) :
    ACalls Try.prog 81 ⟨[.slice (some ⟨b, 0, none⟩) xs.length cap, I 0, I xs.length, f]⟩ ((b, .cells ⟨xs.flatMap eI ++ sp⟩ 3) :: L) R := by
  refine calls_of_xc (N := 53) Try.func81 rfl (by rfl) ?_
  refine xc_seq (xc_region ?_)
  refine xr_op rfl rfl (xv_move rfl ?_)
  refine xr_op rfl rfl (xv_add rfl rfl (wrap_i64 Om_ Om_) ?_)
  refine xr_op rfl rfl (xv_assign rfl ?_)
  refine xr_end rfl ?_
  refine th_n ?_
  refine xc_block ?_
  refine xc_loop (σ := Nat × List Int) (fun z => 1 ≤ z.1 ∧ z.1 ≤ xs.length + 1 ∧ Srt cm xs z.2 z.1) (fun z => (((((emp.put (some 0) (.slice (some ⟨b, 0, none⟩) xs.length cap)).put (some 1) (I 0)).put (some 2) (I xs.length)).put (some 3) (f)).put (some 8) (I z.1))) (fun z => ((b, .cells ⟨z.2.flatMap eI ++ sp⟩ 3) :: L)) (fun z => xs.length + 1 - z.1) ((1, xs) : Nat × List Int) ⟨Nat.le_refl _, by dsimp only; omega, Srt.one⟩ (le_put (le_put (le_put (le_put (le_put (le_emp _) rfl) rfl) rfl) rfl) rfl) Su_ ?_
  rintro ⟨i, ws⟩ ⟨hi1, hi2, hsr⟩
  dsimp only at hi1 hi2 hsr
  refine xc_seq ?_
  refine xc_seq (xc_region ?_)
  refine xr_op rfl rfl (xv_move rfl ?_)
  refine xr_op rfl rfl (xv_move rfl ?_)
  refine xr_op rfl rfl (xv_lss2 rfl rfl (fun q1 => ?_) (fun q1 => ?_))
  · refine xr_end rfl ?_
    refine th_n ?_
    refine xc_true rfl ?_
    refine xc_skip ?_
    refine th_n ?_
    refine xc_seq ?_
    refine xc_block ?_
    refine xc_seq (xc_region ?_)
    refine xr_op rfl rfl (xv_move rfl ?_)
    refine xr_op rfl rfl (xv_assign rfl ?_)
    refine xr_end rfl ?_
    refine th_n ?_
    refine xc_block ?_
    refine xc_loop (σ := Nat × List Int) (fun z => Ins cm xs z.2 i z.1) (fun z => ((((((emp.put (some 0) (.slice (some ⟨b, 0, none⟩) xs.length cap)).put (some 1) (I 0)).put (some 2) (I xs.length)).put (some 3) (f)).put (some 8) (I i)).put (some 9) (I z.1))) (fun z => ((b, .cells ⟨z.2.flatMap eI ++ sp⟩ 3) :: L)) (fun z => z.1) ((i, ws) : Nat × List Int) hsr.ins (le_put (le_put (le_put (le_put (le_put (le_put (le_emp _) rfl) rfl) rfl) rfl) rfl) rfl) Su_ ?_
    rintro ⟨j, zs⟩ hin
    dsimp only at hin
    have hji := hin.ji
    have hpl := hin.perm.length_eq
    have hilt : i < xs.length := by (first|omega|(dsimp only at *;omega)|(simp at *;omega))
    have hjlt : j < zs.length := by omega
    refine xc_seq ?_
    refine xc_seq ?_
    rcases Nat.eq_zero_or_pos j with hj0 | hj0
    · refine xc_draw0 [(0, .S), (1, .S), (2, .S), (3, .S), (4, .S), (5, .S), (6, .S), (7, .S), (8, .R), (9, .S), (10, .S), (11, .S), (12, .S), (13, .R), (14, .R), (15, .S), (16, .S)] mixed (by kernel_rfl) ?_
      have hej : zs[j]? = some (nat zs j) := by rw [nat_eq hjlt]; exact List.getElem?_eq_getElem hjlt
      have hek : zs[j - 1]? = some (nat zs (j - 1)) := by rw [nat_eq (show j - 1 < zs.length by omega)]; exact List.getElem?_eq_getElem (by omega)
      have hmj : nat zs j ∈ xs := hin.perm.mem_iff.1 (List.mem_of_getElem? hej)
      have hmk : nat zs (j - 1) ∈ xs := hin.perm.mem_iff.1 (List.mem_of_getElem? hek)
      refine js_S rfl rfl (.inl rfl) (xv_move rfl ⟨rfl, rfl⟩) ?_
      refine js_S rfl rfl (.inl rfl) (xv_move rfl ⟨rfl, rfl⟩) ?_
      refine js_S rfl rfl (.inl rfl) (xv_cmpK rfl rfl (cmpF rfl (by simp only [cmpP]; omega)) ⟨rfl, rfl⟩) ?_
      refine js_S rfl rfl (.inl rfl) (xv_move rfl ⟨rfl, rfl⟩) ?_
      refine js_Ss rfl rfl ⟨_, _, _, rfl, rfl, rfl⟩ ?_
      refine js_Ss rfl rfl ⟨_, _, _, rfl, rfl, rfl⟩ ?_
      refine js_Ss rfl rfl ⟨_, _, _, rfl, rfl, rfl⟩ ?_
      refine js_Ss rfl rfl ⟨_, _, _, rfl, rfl, rfl⟩ ?_
      refine js_Rs rfl rfl ⟨_, _, _, rfl, rfl, rfl⟩ ?_
      refine js_Ss rfl rfl ⟨_, _, _, rfl, rfl, rfl⟩ ?_
      refine js_Ss rfl rfl ⟨_, _, _, rfl, rfl, rfl⟩ ?_
      refine js_Ss rfl rfl ⟨_, _, _, rfl, rfl, rfl⟩ ?_
      refine js_Ss rfl rfl ⟨_, _, _, rfl, rfl, rfl⟩ ?_
      refine js_Rs rfl rfl ⟨_, _, _, rfl, rfl, rfl⟩ ?_
      refine js_Rs rfl rfl ⟨_, _, _, rfl, rfl, rfl⟩ ?_
      refine js_Ss rfl rfl ⟨_, _, _, rfl, rfl, rfl⟩ ?_
      refine js_S rfl rfl (.inl rfl) (xv_pick rfl rfl ⟨rfl, rfl⟩) ?_
      refine j_end0 ?_
      refine th_n ?_
      refine xc_false rfl ?_
      refine xc_exit ?_
      refine th_x ?_
      refine th_x ?_
      refine bk_same ?_
      refine bk_n ?_
      refine th_n ?_
      refine xc_region ?_
      refine xr_op rfl rfl (xv_move rfl ?_)
      refine xr_op rfl rfl (xv_add rfl rfl (wrap_i64 Om_ Om_) ?_)
      refine xr_op rfl rfl (xv_assign rfl ?_)
      refine xr_end rfl ?_
      have hdone : Srt cm xs zs (i + 1) := by first | exact hin.done hc hj0 Om_ | (subst hj0; exact hin.done0)
      exact rnd ((i + 1, zs) : Nat × List Int) ⟨by (first|omega|(dsimp only at *;omega)|(simp at *;omega)), by (first|omega|(dsimp only at *;omega)|(simp at *;omega)), hdone⟩ Om_ (le_put (le_put (le_put (le_put (le_put (le_emp _) rfl) rfl) rfl) rfl) rfl) Su_
    · refine xc_draw0 [(0, .S), (1, .S), (2, .S), (3, .S), (4, .S), (5, .S), (6, .S), (7, .S), (8, .R), (9, .S), (10, .S), (11, .S), (12, .S), (13, .R), (14, .R), (15, .S), (16, .S)] mixed (by kernel_rfl) ?_
      have hej : zs[j]? = some (nat zs j) := by rw [nat_eq hjlt]; exact List.getElem?_eq_getElem hjlt
      have hek : zs[j - 1]? = some (nat zs (j - 1)) := by rw [nat_eq (show j - 1 < zs.length by omega)]; exact List.getElem?_eq_getElem (by omega)
      have hmj : nat zs j ∈ xs := hin.perm.mem_iff.1 (List.mem_of_getElem? hej)
      have hmk : nat zs (j - 1) ∈ xs := hin.perm.mem_iff.1 (List.mem_of_getElem? hek)
      refine js_S rfl rfl (.inl rfl) (xv_move rfl ⟨rfl, rfl⟩) ?_
      refine js_S rfl rfl (.inl rfl) (xv_move rfl ⟨rfl, rfl⟩) ?_
      refine js_S rfl rfl (.inl rfl) (xv_cmpK rfl rfl (cmpT (show (0 : Int) < j by omega)) ⟨rfl, rfl⟩) ?_
      refine js_S rfl rfl (.inl rfl) (xv_move rfl ⟨rfl, rfl⟩) ?_
      refine js_S rfl rfl (.inr ⟨_, _, rfl, rfl⟩) (xv_move rfl ⟨rfl, rfl⟩) ?_
      refine js_S rfl rfl (.inr ⟨_, _, rfl, rfl⟩) (xv_move rfl ⟨rfl, rfl⟩) ?_
      refine js_S rfl rfl (.inr ⟨_, _, rfl, rfl⟩) (xv_move rfl ⟨rfl, rfl⟩) ?_
      refine js_S rfl rfl (.inr ⟨_, _, rfl, rfl⟩) (xv_ia (sz := 1) (j := j) sl22 ty3 rfl rfl rfl (Int.toNat_natCast j) (by omega) (by omega) ⟨rfl, rfl⟩) ?_
      refine js_R0 rfl rfl (.inr ⟨_, _, rfl, rfl⟩) (xv_load1 ty3 rfl rfl Me_ (ints_at (zs := []) hej) ⟨rfl, rfl⟩) ?_
      refine js_S rfl rfl (.inr ⟨_, _, rfl, rfl⟩) (xv_move rfl ⟨rfl, rfl⟩) ?_
      refine js_S rfl rfl (.inr ⟨_, _, rfl, rfl⟩) (xv_move rfl ⟨rfl, rfl⟩) ?_
      refine js_S rfl rfl (.inr ⟨_, _, rfl, rfl⟩) (xv_sub rfl rfl (wrap_i64 Om_ Om_) ⟨rfl, rfl⟩) ?_
      refine js_S rfl rfl (.inr ⟨_, _, rfl, rfl⟩) (xv_ia (sz := 1) (j := j - 1) sl22 ty3 rfl rfl rfl (by omega) (by omega) (by omega) ⟨rfl, rfl⟩) ?_
      refine js_R0 rfl rfl (.inr ⟨_, _, rfl, rfl⟩) (xv_load1 ty3 rfl rfl Me_ (ints_at (zs := []) hek) ⟨rfl, rfl⟩) ?_
      refine js_R0 rfl rfl (.inr ⟨_, _, rfl, rfl⟩) (xv_fn rfl rfl (hf _ _ hmj hmk _ _ (by intro z hz; ((repeat first|exact z_0|assumption|refine z_1 ?_|(refine z_l ?_;(repeat first|exact z_0|assumption|refine z_1 ?_);done)|refine z_r ?_);done)) (up_ret ⟨rfl, rfl⟩))) ?_
      refine js_S rfl rfl (.inr ⟨_, _, rfl, rfl⟩) (xv_cmp rfl rfl rfl ⟨rfl, rfl⟩) ?_
      refine js_S rfl rfl (.inl rfl) (xv_pick rfl rfl ⟨rfl, rfl⟩) ?_
      refine j_end0 ?_
      refine th_n ?_
      refine xc_bool rfl (fun q2 => ?_) (fun q2 => ?_)
      · refine xc_skip ?_
        refine th_n ?_
        refine xc_seq ?_
        refine xc_block ?_
        refine xc_draw0 [(0, .S), (1, .S), (2, .S), (3, .S), (4, .S), (5, .S), (6, .S), (7, .S), (8, .S), (9, .R), (10, .S), (11, .S), (12, .S), (13, .R), (14, .S), (15, .O), (16, .S), (17, .O)] mixed (by kernel_rfl) ?_
        refine js_S rfl rfl (.inl rfl) (xv_move rfl ⟨rfl, rfl⟩) ?_
        refine js_S rfl rfl (.inl rfl) (xv_move rfl ⟨rfl, rfl⟩) ?_
        refine js_S rfl rfl (.inl rfl) (xv_move rfl ⟨rfl, rfl⟩) ?_
        refine js_S rfl rfl (.inl rfl) (xv_move rfl ⟨rfl, rfl⟩) ?_
        refine js_S rfl rfl (.inl rfl) (xv_sub rfl rfl (wrap_i64 Om_ Om_) ⟨rfl, rfl⟩) ?_
        refine js_S rfl rfl (.inl rfl) (xv_move rfl ⟨rfl, rfl⟩) ?_
        refine js_S rfl rfl (.inl rfl) (xv_move rfl ⟨rfl, rfl⟩) ?_
        refine js_S rfl rfl (.inl rfl) (xv_sub rfl rfl (wrap_i64 Om_ Om_) ⟨rfl, rfl⟩) ?_
        refine js_S rfl rfl (.inl rfl) (xv_ia (sz := 1) (j := j - 1) sl22 ty3 rfl rfl rfl (by omega) (by omega) (by omega) ⟨rfl, rfl⟩) ?_
        refine js_R0 rfl rfl (.inl rfl) (xv_load1 ty3 rfl rfl Me_ (ints_at (zs := []) hek) ⟨rfl, rfl⟩) ?_
        refine js_S rfl rfl (.inl rfl) (xv_move rfl ⟨rfl, rfl⟩) ?_
        refine js_S rfl rfl (.inl rfl) (xv_move rfl ⟨rfl, rfl⟩) ?_
        refine js_S rfl rfl (.inl rfl) (xv_ia (sz := 1) (j := j) sl22 ty3 rfl rfl rfl (Int.toNat_natCast j) (by omega) (by omega) ⟨rfl, rfl⟩) ?_
        refine js_R0 rfl rfl (.inl rfl) (xv_load1 ty3 rfl rfl Me_ (ints_at (zs := []) hej) ⟨rfl, rfl⟩) ?_
        refine js_S rfl rfl (.inl rfl) (xv_ia (sz := 1) (j := j) sl22 ty3 rfl rfl rfl (Int.toNat_natCast j) (by omega) (by omega) ⟨rfl, rfl⟩) ?_
        refine js_O0 rfl rfl (.inl rfl) (xv_s1 ty3 rfl rfl rfl Up_ rfl (by rw [List.length_append, ints_len]; omega) (ints_set hjlt) ?_)
        refine js_S rfl rfl (.inl rfl) (xv_ia (sz := 1) (j := j - 1) sl22 ty3 rfl rfl rfl (by omega) (by omega) (by omega) ⟨rfl, rfl⟩) ?_
        refine js_O0 rfl rfl (.inl rfl) (xv_s1 ty3 rfl rfl rfl Up_ rfl (by rw [List.length_append, ints_len, List.length_set]; omega) (ints_set (by rw [List.length_set]; omega)) ?_)
        refine j_end0 ?_
        refine bk_n ?_
        refine th_n ?_
        refine xc_region ?_
        refine xr_op rfl rfl (xv_move rfl ?_)
        refine xr_op rfl rfl (xv_sub rfl rfl (wrap_i64 Om_ Om_) ?_)
        refine xr_op rfl rfl (xv_assign rfl ?_)
        refine xr_end rfl ?_
        have hj1 : ((j : Int) - 1) = ((j - 1 : Nat) : Int) := by omega
        exact rnd ((j - 1, swp zs j) : Nat × List Int) (hin.step hc (by omega) hj0 Om_) Om_ (le_put (le_put (le_put (le_put (le_put (le_put (le_emp _) rfl) rfl) rfl) rfl) rfl) (by rw [← hj1]; rfl)) (by unfold swp; (first|((repeat first|exact s_0|exact s_1|exact s_3|refine s_4 ?_|refine s_5 ?_|refine s_6 ?_|refine s_7 ?_);done)|((repeat first|exact s_0|exact s_1|exact s_3|refine s_4 ?_|refine s_5 ?_|refine s_6 ?_|refine s_8 ?_);done)))
      · refine xc_exit ?_
        refine th_x ?_
        refine th_x ?_
        refine bk_same ?_
        refine bk_n ?_
        refine th_n ?_
        refine xc_region ?_
        refine xr_op rfl rfl (xv_move rfl ?_)
        refine xr_op rfl rfl (xv_add rfl rfl (wrap_i64 Om_ Om_) ?_)
        refine xr_op rfl rfl (xv_assign rfl ?_)
        refine xr_end rfl ?_
        have hdone : Srt cm xs zs (i + 1) := by first | exact hin.done hc hj0 Om_ | (subst hj0; exact hin.done0)
        exact rnd ((i + 1, zs) : Nat × List Int) ⟨by (first|omega|(dsimp only at *;omega)|(simp at *;omega)), by (first|omega|(dsimp only at *;omega)|(simp at *;omega)), hdone⟩ Om_ (le_put (le_put (le_put (le_put (le_put (le_emp _) rfl) rfl) rfl) rfl) rfl) Su_
  · refine xr_end rfl ?_
    refine th_n ?_
    refine xc_false rfl ?_
    refine xc_exit ?_
    refine th_x ?_
    refine th_x ?_
    refine bk_same ?_
    refine body_end (h' := ((b, .cells ⟨ws.flatMap eI ++ sp⟩ 3) :: L)) rfl ro_nil Su_ ?_
    exact H ws hsr.1 (hsr.sorted Om_)

theorem insnil_c {f : Value} {h : Hp} {R : Ending → Hp → Prop} (H : R (.returned (.tuple #[])) h) : ACalls Try.prog 81 ⟨[.slice none 0 0, I 0, I 0, f]⟩ h R := by
  refine calls_of_xc (N := 53) Try.func81 rfl (by rfl) ?_
  refine xc_seq (xc_region ?_)
  refine xr_op rfl rfl (xv_move rfl ?_)
  refine xr_op rfl rfl (xv_add rfl rfl (wrap_i64 Om_ Om_) ?_)
  refine xr_op rfl rfl (xv_assign rfl ?_)
  refine xr_end rfl ?_
  refine th_n ?_
  refine xc_block ?_
  refine xc_loop (σ := Unit) (fun _ => True) (fun _ => ((emp.put (some 2) (I 0)).put (some 8) (I 1))) (fun _ => h) (fun _ => 0) () trivial (le_put (le_put (le_emp _) rfl) rfl) Su_ ?_
  rintro ⟨⟩ _
  refine xc_seq ?_
  refine xc_seq (xc_region ?_)
  refine xr_op rfl rfl (xv_move rfl ?_)
  refine xr_op rfl rfl (xv_move rfl ?_)
  refine xr_op rfl rfl (xv_cmpK rfl rfl (cmpF rfl (by simp only [cmpP]; omega)) ?_)
  refine xr_end rfl ?_
  refine th_n ?_
  refine xc_false rfl ?_
  refine xc_exit ?_
  refine th_x ?_
  refine th_x ?_
  refine bk_same ?_
  refine body_end (h' := h) rfl ro_nil Su_ ?_
  exact H

end Go.Proofs.Ytmaldhbjhomdkaa.Tar

/-
  Walks.
-/
namespace Go.Proofs.Ytmaldhbjhomdkaa.Tar
open Go Go.H
set_option maxRecDepth 100000
set_option maxHeartbeats 8000000
set_option linter.all false
theorem pdq_c {b cap : Nat} {sp : List Value} {xs : List Int} {f : Value} {cm : Int → Int → Int} {L : Hp} {R : Ending → Hp → Prop} (hc : Cmp cm) (hn : xs.length ≤ 12)
    (hf : ∀ i k, i ∈ xs → k ∈ xs → ∀ H R', L ⊆ H → R' (.returned (I (cm i k))) H → AFn Try.prog f [I i, I k] H R')
    (H : ∀ zs : List Int, zs.Perm xs → zs.Pairwise (fun a b => ¬ cm b a < 0) → R (.returned (.tuple #[])) ((b, .cells ⟨zs.flatMap eI ++ sp⟩ 3) :: L)) {m : Int} :
    ACalls Try.prog 74 ⟨[.slice (some ⟨b, 0, none⟩) xs.length cap, I 0, I xs.length, I m, f]⟩ ((b, .cells ⟨xs.flatMap eI ++ sp⟩ 3) :: L) R := by
  refine calls_of_xc (N := 148) Try.func74 rfl (by rfl) ?_
  refine xc_seq (xc_region ?_)
  refine xr_op rfl rfl (xv_assign rfl ?_)
  refine xr_end rfl ?_
  refine th_n ?_
  refine xc_seq (xc_region ?_)
  refine xr_op rfl rfl (xv_assign rfl ?_)
  refine xr_end rfl ?_
  refine th_n ?_
  refine xc_block ?_
  refine xc_loop (σ := Unit) (fun _ => True) (fun _ => ((((emp.put (some 0) (.slice (some ⟨b, 0, none⟩) xs.length cap)).put (some 1) (I 0)).put (some 2) (I xs.length)).put (some 4) (f))) (fun _ => ((b, .cells ⟨xs.flatMap eI ++ sp⟩ 3) :: L)) (fun _ => 0) () trivial (le_put (le_put (le_put (le_put (le_emp _) rfl) rfl) rfl) rfl) Su_ ?_
  rintro ⟨⟩ _
  refine xc_block ?_
  refine xc_seq (xc_region ?_)
  refine xr_op rfl rfl (xv_move rfl ?_)
  refine xr_op rfl rfl (xv_move rfl ?_)
  refine xr_op rfl rfl (xv_sub rfl rfl (wrap_i64 Om_ Om_) ?_)
  refine xr_op rfl rfl (xv_assign rfl ?_)
  refine xr_end rfl ?_
  refine th_n ?_
  refine xc_seq ?_
  refine xc_seq (xc_region ?_)
  refine xr_op rfl rfl (xv_move rfl ?_)
  refine xr_op rfl rfl (xv_cmpK rfl rfl (cmpT (show (xs.length : Int) - 0 ≤ 12 by omega)) ?_)
  refine xr_end rfl ?_
  refine th_n ?_
  refine xc_true rfl ?_
  refine xc_seq (xc_region ?_)
  refine xr_op rfl rfl (xv_move rfl ?_)
  refine xr_op rfl rfl (xv_move rfl ?_)
  refine xr_op rfl rfl (xv_move rfl ?_)
  refine xr_op rfl rfl (xv_move rfl ?_)
  refine xr_op rfl rfl (xv_calls rfl hb61 (insertion_c hc hn hf (fun zs hz1 hz2 => up_ret ?_)))
  refine xr_end rfl ?_
  refine th_n ?_
  refine xc_ret ?_
  refine th_r ?_
  refine bk_r ?_
  refine th_r ?_
  refine bk_r ?_
  refine body_ret (h' := ((b, .cells ⟨zs.flatMap eI ++ sp⟩ 3) :: L)) rfl ro_nil Su_ ?_
  exact H zs hz1 hz2

theorem len64_c {n : Int} {h : Hp} {R : Ending → Hp → Prop} (h0 : 0 ≤ n) (h1 : n ≤ 12) (H : ∀ m, R (.returned (I m)) h) : ACalls Try.prog 70 ⟨[.int .u64 n]⟩ h R := by
  refine calls_of_xc (N := 25) Try.func70 rfl (by rfl) ?_
  refine xc_seq (xc_region ?_)
  refine xr_op rfl rfl (xv_assign rfl ?_)
  refine xr_end rfl ?_
  refine th_n ?_
  refine xc_seq ?_
  refine xc_seq (xc_region ?_)
  refine xr_op rfl rfl (xv_move rfl ?_)
  refine xr_op rfl rfl (xv_cmpK rfl rfl (cmpF rfl (by simp only [cmpP]; omega)) ?_)
  refine xr_end rfl ?_
  refine th_n ?_
  refine xc_false rfl ?_
  refine xc_skip ?_
  refine th_n ?_
  refine xc_seq ?_
  refine xc_seq (xc_region ?_)
  refine xr_op rfl rfl (xv_move rfl ?_)
  refine xr_op rfl rfl (xv_cmpK rfl rfl (cmpF rfl (by simp only [cmpP]; omega)) ?_)
  refine xr_end rfl ?_
  refine th_n ?_
  refine xc_false rfl ?_
  refine xc_skip ?_
  refine th_n ?_
  refine xc_seq ?_
  refine xc_seq (xc_region ?_)
  refine xr_op rfl rfl (xv_move rfl ?_)
  refine xr_op rfl rfl (xv_cmpK rfl rfl (cmpF rfl (by simp only [cmpP]; omega)) ?_)
  refine xr_end rfl ?_
  refine th_n ?_
  refine xc_false rfl ?_
  refine xc_skip ?_
  refine th_n ?_
  refine xc_seq (xc_region ?_)
  refine xr_op rfl rfl (xv_move rfl ?_)
  refine xr_op rfl rfl (xv_move rfl ?_)
  refine xr_op rfl rfl (xv_convI (m := n) Try.underlying138 Try.underlying5 rfl (wrap_u8 (by omega) (by omega)) ?_)
  refine xr_op rfl rfl (xv_indexS (m := 13) Try.underlying9 rfl rfl h0 (by omega) (by rfl) (fun b hb => ?_))
  refine xr_op rfl rfl (xv_convI (m := b) Try.underlying5 Try.underlying3 rfl (wrap_i64 (by omega) (by omega)) ?_)
  refine xr_op rfl rfl (xv_add rfl rfl (wrap_i64 Om_ Om_) ?_)
  refine xr_op rfl rfl (xv_assign rfl ?_)
  refine xr_end rfl ?_
  refine th_n ?_
  refine xc_ret ?_
  refine body_ret (h' := h) rfl (ro_tmp rfl ro_nil) Su_ ?_
  exact H _

theorem len_c {n : Int} {h : Hp} {R : Ending → Hp → Prop} (h0 : 0 ≤ n) (h1 : n ≤ 12) (H : ∀ m, R (.returned (I m)) h) : ACalls Try.prog 41 ⟨[.int .u64 n]⟩ h R := by
  refine calls_of_xc (N := 8) Try.func41 rfl (by rfl) ?_
  refine xc_seq (xc_region ?_)
  refine xr_op rfl rfl (xv_assign rfl ?_)
  refine xr_end rfl ?_
  refine th_n ?_
  refine xc_seq ?_
  refine xc_false rfl ?_
  refine xc_skip ?_
  refine th_n ?_
  refine xc_seq (xc_region ?_)
  refine xr_op rfl rfl (xv_move rfl ?_)
  refine xr_op rfl rfl (xv_calls rfl hb70 (len64_c h0 h1 (fun m => up_ret ?_)))
  refine xr_op rfl rfl (xv_assign rfl ?_)
  refine xr_end rfl ?_
  refine th_n ?_
  refine xc_ret ?_
  refine body_ret (h' := h) rfl (ro_tmp rfl ro_nil) Su_ ?_
  exact H _

theorem sort_c {b cap : Nat} {sp : List Value} {xs : List Int} {f : Value} {cm : Int → Int → Int} {L : Hp} {R : Ending → Hp → Prop} (hc : Cmp cm) (hn : xs.length ≤ 12)
    (hf : ∀ i k, i ∈ xs → k ∈ xs → ∀ H R', L ⊆ H → R' (.returned (I (cm i k))) H → AFn Try.prog f [I i, I k] H R')
    (H : ∀ zs : List Int, zs.Perm xs → zs.Pairwise (fun a b => ¬ cm b a < 0) → R (.returned (.tuple #[])) ((b, .cells ⟨zs.flatMap eI ++ sp⟩ 3) :: L)) :
    ACalls Try.prog 57 ⟨[.slice (some ⟨b, 0, none⟩) xs.length cap, f]⟩ ((b, .cells ⟨xs.flatMap eI ++ sp⟩ 3) :: L) R := by
  refine calls_of_xc (N := 14) Try.func57 rfl (by rfl) ?_
  refine xc_seq (xc_region ?_)
  refine xr_op rfl rfl (xv_move rfl ?_)
  refine xr_op rfl rfl (xv_len sl22 rfl ?_)
  refine xr_op rfl rfl (xv_assign rfl ?_)
  refine xr_end rfl ?_
  refine th_n ?_
  refine xc_region ?_
  refine xr_op rfl rfl (xv_move rfl ?_)
  refine xr_op rfl rfl (xv_move rfl ?_)
  refine xr_op rfl rfl (xv_move rfl ?_)
  refine xr_op rfl rfl (xv_convI (m := (xs.length : Int)) Try.underlying3 Try.underlying107 rfl (wrap_u64 (by omega) (by omega)) ?_)
  refine xr_op rfl rfl (xv_calls rfl hb60 (len_c (by omega) (by omega) (fun m => up_ret ?_)))
  refine xr_op rfl rfl (xv_move rfl ?_)
  refine xr_op rfl rfl (xv_calls rfl hb59 (pdq_c hc hn hf (fun zs hz1 hz2 => up_ret ?_)))
  refine xr_end rfl ?_
  refine body_end (h' := ((b, .cells ⟨zs.flatMap eI ++ sp⟩ 3) :: L)) rfl ro_nil Su_ ?_
  exact H zs hz1 hz2

theorem pdqnil_c {f : Value} {h : Hp} {R : Ending → Hp → Prop} (H : R (.returned (.tuple #[])) h) {m : Int} : ACalls Try.prog 74 ⟨[.slice none 0 0, I 0, I 0, I m, f]⟩ h R := by
  refine calls_of_xc (N := 148) Try.func74 rfl (by rfl) ?_
  refine xc_seq (xc_region ?_)
  refine xr_op rfl rfl (xv_assign rfl ?_)
  refine xr_end rfl ?_
  refine th_n ?_
  refine xc_seq (xc_region ?_)
  refine xr_op rfl rfl (xv_assign rfl ?_)
  refine xr_end rfl ?_
  refine th_n ?_
  refine xc_block ?_
  refine xc_loop (σ := Unit) (fun _ => True) (fun _ => ((((emp.put (some 0) (.slice none 0 0)).put (some 1) (I 0)).put (some 2) (I 0)).put (some 4) (f))) (fun _ => h) (fun _ => 0) () trivial (le_put (le_put (le_put (le_put (le_emp _) rfl) rfl) rfl) rfl) Su_ ?_
  rintro ⟨⟩ _
  refine xc_block ?_
  refine xc_seq (xc_region ?_)
  refine xr_op rfl rfl (xv_move rfl ?_)
  refine xr_op rfl rfl (xv_move rfl ?_)
  refine xr_op rfl rfl (xv_sub rfl rfl (wrap_i64 Om_ Om_) ?_)
  refine xr_op rfl rfl (xv_assign rfl ?_)
  refine xr_end rfl ?_
  refine th_n ?_
  refine xc_seq ?_
  refine xc_seq (xc_region ?_)
  refine xr_op rfl rfl (xv_move rfl ?_)
  refine xr_op rfl rfl (xv_cmpK rfl rfl (cmpT (show (0 : Int) - 0 ≤ 12 by omega)) ?_)
  refine xr_end rfl ?_
  refine th_n ?_
  refine xc_true rfl ?_
  refine xc_seq (xc_region ?_)
  refine xr_op rfl rfl (xv_move rfl ?_)
  refine xr_op rfl rfl (xv_move rfl ?_)
  refine xr_op rfl rfl (xv_move rfl ?_)
  refine xr_op rfl rfl (xv_move rfl ?_)
  refine xr_op rfl rfl (xv_calls rfl hb61 (insnil_c (up_ret ?_)))
  refine xr_end rfl ?_
  refine th_n ?_
  refine xc_ret ?_
  refine th_r ?_
  refine bk_r ?_
  refine th_r ?_
  refine bk_r ?_
  refine body_ret (h' := h) rfl ro_nil Su_ ?_
  exact H

theorem sortnil_c {f : Value} {h : Hp} {R : Ending → Hp → Prop} (H : R (.returned (.tuple #[])) h) : ACalls Try.prog 57 ⟨[.slice none 0 0, f]⟩ h R := by
  refine calls_of_xc (N := 14) Try.func57 rfl (by rfl) ?_
  refine xc_seq (xc_region ?_)
  refine xr_op rfl rfl (xv_move rfl ?_)
  refine xr_op rfl rfl (xv_len sl22 rfl ?_)
  refine xr_op rfl rfl (xv_assign rfl ?_)
  refine xr_end rfl ?_
  refine th_n ?_
  refine xc_region ?_
  refine xr_op rfl rfl (xv_move rfl ?_)
  refine xr_op rfl rfl (xv_move rfl ?_)
  refine xr_op rfl rfl (xv_move rfl ?_)
  refine xr_op rfl rfl (xv_convI (m := 0) Try.underlying3 Try.underlying107 rfl (wrap_u64 (by omega) (by omega)) ?_)
  refine xr_op rfl rfl (xv_calls rfl hb60 (len_c (by omega) (by omega) (fun m => up_ret ?_)))
  refine xr_op rfl rfl (xv_move rfl ?_)
  refine xr_op rfl rfl (xv_calls rfl hb59 (pdqnil_c (up_ret ?_)))
  refine xr_end rfl ?_
  refine body_end (h' := h) rfl ro_nil Su_ ?_
  exact H

end Go.Proofs.Ytmaldhbjhomdkaa.Tar
