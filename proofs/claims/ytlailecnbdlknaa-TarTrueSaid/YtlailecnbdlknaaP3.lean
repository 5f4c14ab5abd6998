/-
  The sure income, in plain lists.
-/
import Derived.Test.YtlailecnbdlknaaP2
set_option linter.all false
namespace Go.Proofs.Ytlailecnbdlknaa
open Go Go.H
def insI (cm : Int → Int → Int) (x : Int) : List Int → List Int
  | [] => [x]
  | y :: ys => if cm x y < 0 then x :: y :: ys else y :: insI cm x ys
def isortI (cm : Int → Int → Int) : List Int → List Int
  | [] => []
  | x :: xs => insI cm x (isortI cm xs)
theorem insI_perm (cm : Int → Int → Int) (x : Int) : ∀ ys, (insI cm x ys).Perm (x :: ys)
  | [] => .refl _
  | y :: ys => by
    unfold insI; split
    · exact .refl _
    · exact ((insI_perm cm x ys).cons y).trans (.swap _ _ _)
theorem isortI_perm (cm : Int → Int → Int) : ∀ xs, (isortI cm xs).Perm xs
  | [] => .refl _
  | x :: xs => (insI_perm cm x _).trans ((isortI_perm cm xs).cons x)
theorem insI_sorted {cm : Int → Int → Int} (hc : Cmp cm) (x : Int) : ∀ {ys : List Int}, ys.Pairwise (fun a b => ¬ cm b a < 0) → (insI cm x ys).Pairwise (fun a b => ¬ cm b a < 0)
  | [], _ => List.pairwise_singleton _ _
  | y :: ys, h => by
    obtain ⟨h1, h2⟩ := List.pairwise_cons.1 h
    unfold insI; split
    · rename_i hxy
      refine List.pairwise_cons.2 ⟨fun b hb => ?_, h⟩
      rcases List.mem_cons.1 hb with rfl | hb
      · exact hc.asy hxy
      · exact hc.tra (hc.asy hxy) (h1 b hb)
    · rename_i hxy
      refine List.pairwise_cons.2 ⟨fun b hb => ?_, insI_sorted hc x h2⟩
      rcases List.mem_cons.1 ((insI_perm cm x ys).mem_iff.1 hb) with rfl | hb
      · exact hxy
      · exact h1 b hb
theorem isortI_sorted {cm : Int → Int → Int} (hc : Cmp cm) : ∀ xs : List Int, (isortI cm xs).Pairwise (fun a b => ¬ cm b a < 0)
  | [] => List.Pairwise.nil
  | x :: xs => insI_sorted hc x (isortI_sorted hc xs)
def nums (n : Nat) : List Int := (List.range n).map fun (i : Nat) => (i : Int)
theorem nums_len (n : Nat) : (nums n).length = n := by simp [nums]
theorem nums_succ (n : Nat) : nums (n + 1) = nums n ++ [(n : Int)] := by simp [nums, List.range_succ]
theorem mem_nums {n : Nat} {i : Int} (h : i ∈ nums n) : 0 ≤ i ∧ i < n ∧ i.toNat < n := by
  simp only [nums, List.mem_map, List.mem_range] at h
  obtain ⟨a, h1, rfl⟩ := h
  omega
def ord (ss : List Sale) : List Int := isortI (cmpS ss) (nums ss.length)
theorem ord_uniq {ss : List Sale} {zs : List Int} (h1 : zs.Perm (nums ss.length)) (h2 : zs.Pairwise (fun a b => ¬ cmpS ss b a < 0)) : zs = ord ss := by
  refine List.Perm.eq_of_pairwise (le := fun a b => ¬ cmpS ss b a < 0) ?_ h2 (isortI_sorted (cmpS_ok ss) _) (h1.trans (isortI_perm _ _).symm)
  intro a b _ _ h3 h4
  rw [cmpS_neg] at h3 h4
  omega
theorem mem_ord {ss : List Sale} {i : Int} (h : i ∈ ord ss) : 0 ≤ i ∧ i < ss.length ∧ i.toNat < ss.length := mem_nums ((isortI_perm _ _).mem_iff.1 h)
theorem ord_len (ss : List Sale) : (ord ss).length = ss.length := by unfold ord; rw [(isortI_perm _ _).length_eq, nums_len]
structure Sell where
  g : Goods
  sold : List Int
  rev : List Int
def sellN (ss : List Sale) (st : Sell) (i : Int) : Int := min (sale ss i.toNat).most (st.g (sale ss i.toNat).good.toNat).lo
def sell1 (ss : List Sale) (st : Sell) (i : Int) : Sell :=
  ⟨upd st.g (sale ss i.toNat).good.toNat ⟨(st.g (sale ss i.toNat).good.toNat).lo - sellN ss st i, (st.g (sale ss i.toNat).good.toNat).hi⟩, st.sold.set i.toNat (sellN ss st i), st.rev ++ [sellN ss st i * (sale ss i.toNat).price]⟩
def sells (ss : List Sale) (is : List Int) (st : Sell) : Sell := is.foldl (sell1 ss) st
theorem sells_take {ss : List Sale} {is : List Int} {st : Sell} {k : Nat} {i : Int} (h : is[k]? = some i) : sells ss (is.take (k + 1)) st = sell1 ss (sells ss (is.take k) st) i := by
  unfold sells; rw [List.take_add_one, h]; simp
def pays (xs : List Still) (ts : List Int) : List Int := List.zipWith (fun x t => (0 - t) * x.pay) xs ts
theorem pays_take {xs : List Still} {ts : List Int} {k : Nat} {x : Still} {t : Int} (h1 : xs[k]? = some x) (h2 : ts[k]? = some t) : (pays xs ts).take (k + 1) = (pays xs ts).take k ++ [(0 - t) * x.pay] := by
  rw [List.take_add_one]; simp [pays, List.getElem?_zipWith, h1, h2]
theorem pays_len {xs : List Still} {ts : List Int} (h : ts.length = xs.length) : (pays xs ts).length = xs.length := by simp [pays, h]
def st0 (y : Yard) (g : Goods) : Sell := ⟨g, List.replicate y.sales.length 0, []⟩
def sellY (y : Yard) (g : Goods) : Sell := sells y.sales (ord y.sales) (st0 y g)
def incomeY (y : Yard) (plan : List Int) (g : Goods) : Int := (pays y.stills plan ++ (sellY y g).rev).sum
structure SellI (ss : List Sale) (n : Nat) (st : Sell) : Prop where
  g : ∀ j, 0 ≤ (st.g j).lo ∧ (st.g j).lo ≤ 100000000
  sold : st.sold.length = ss.length
  rev : ∀ x ∈ st.rev, -10000000000000 ≤ x ∧ x ≤ 10000000000000
  len : st.rev.length = n
theorem SellI.zero {y : Yard} {g : Goods} {k : Nat} (hg : GB k g) (hk : k ≤ 4) : SellI y.sales 0 (st0 y g) :=
  ⟨fun j => by have := hg j; simp only [st0]; omega, by simp [st0], fun x hx => by simp [st0] at hx, rfl⟩
theorem sellN_bd {m : Nat} {ss : List Sale} {n : Nat} {st : Sell} (H : SellI ss n st) (hs : ∀ x ∈ ss, saleOk m x) {i : Int} (hi : i.toNat < ss.length) : 0 ≤ sellN ss st i ∧ sellN ss st i ≤ 1048576 ∧ sellN ss st i ≤ (st.g (sale ss i.toNat).good.toNat).lo ∧ saleOk m (sale ss i.toNat) := by
  have hx : ss[i.toNat]? = some (sale ss i.toNat) := by rw [sale_at (List.getElem?_eq_getElem hi)]; exact List.getElem?_eq_getElem hi
  have h1 := hs _ (List.mem_of_getElem? hx)
  have h2 := H.g (sale ss i.toNat).good.toNat
  obtain ⟨⟨a1, a2⟩, ⟨b1, b2⟩, c1, c2⟩ := h1
  refine ⟨?_, ?_, ?_, ⟨a1, a2⟩, ⟨b1, b2⟩, c1, c2⟩ <;> unfold sellN <;> omega
theorem SellI.step {m : Nat} {ss : List Sale} {n : Nat} {st : Sell} (H : SellI ss n st) (hs : ∀ x ∈ ss, saleOk m x) {i : Int} (hi : i.toNat < ss.length) : SellI ss (n + 1) (sell1 ss st i) := by
  obtain ⟨h1, h2, h3, hok⟩ := sellN_bd H hs hi
  have hp := hok.2.2
  have hm := mul_bd h1 h2 hp.1 hp.2
  refine ⟨fun j => ?_, by simp [sell1, H.sold], fun x hx => ?_, by simp [sell1, H.len]⟩
  · have := H.g j
    simp only [sell1, upd]; split
    · rename_i hj; subst hj; dsimp only; omega
    · exact this
  · simp only [sell1, List.mem_append, List.mem_singleton] at hx
    rcases hx with hx | rfl
    · exact H.rev x hx
    · omega
theorem sells_inv {y : Yard} {g : Goods} (hy : GoodYard y) (hg : GB y.stills.length g) (hs : y.stills.length ≤ 4) : ∀ k, k ≤ y.sales.length → SellI y.sales k (sells y.sales ((ord y.sales).take k) (st0 y g))
  | 0, _ => SellI.zero hg hs
  | k + 1, hk => by
    have hl := ord_len y.sales
    have hi : (ord y.sales)[k]? = some (ord y.sales)[k] := List.getElem?_eq_getElem (by omega)
    rw [sells_take hi]
    exact (sells_inv hy hg hs k (by omega)).step hy.sales (mem_ord (List.mem_of_getElem? hi)).2.2
theorem pays_bd {y : Yard} {plan : List Int} (hy : GoodYard y) (hp : PlanOk y plan) {x : Int} (hx : x ∈ pays y.stills plan) : -10000000000000 ≤ x ∧ x ≤ 10000000000000 := by
  obtain ⟨k, hk⟩ := List.getElem?_of_mem hx
  simp only [pays, List.getElem?_zipWith] at hk
  cases h1 : y.stills[k]? with
  | none => rw [h1] at hk; simp at hk
  | some q =>
    cases h2 : plan[k]? with
    | none => rw [h1, h2] at hk; simp at hk
    | some t =>
      rw [h1, h2] at hk
      simp at hk
      have h3 := hp k q t h1 h2
      obtain ⟨_, _, _, h4, h5, _⟩ := hy.stills k q h1
      have h6 := mul_bd (a := t) (b := q.pay) (A := 8) (B := 1000000) (by omega) (by omega) h4.1 h4.2
      subst hk
      rw [Int.neg_mul]; omega
theorem perm_front {α : Type _} {V W K : List α} {a : α} : List.Perm (V ++ a :: (W ++ K)) (a :: (W ++ (V ++ K))) :=
  List.perm_middle.trans (List.Perm.cons _ (by rw [← List.append_assoc, ← List.append_assoc]; exact List.perm_append_comm.append_right _))
theorem len_ints {l : List Int} {k : Nat} {sp : List Value} (h : k < l.length) : 0 + k * 1 < (l.flatMap eI ++ sp).length := by rw [List.length_append, ints_len]; omega
theorem gset {l : List Int} {i : Nat} {v : Int} (h : i < l.length) : (l.set i v)[i]? = some v := List.getElem?_set_self h
theorem make_ints (n : Nat) : (madeCells (Value.int .i64 0).cells (n * 1)).toList = (List.replicate n 0).flatMap eI ++ [] := by
  have h1 : (madeCells (Value.int .i64 0).cells (n * 1)).toList = List.replicate n (I 0) := by
    refine List.eq_replicate_iff.2 ⟨by simp [madeCells], fun b hb => ?_⟩
    simp only [madeCells, Value.cells, Array.toList_map, List.mem_map] at hb
    obtain ⟨a, _, rfl⟩ := hb
    simp [Nat.mod_one]
  have h2 : ∀ m : Nat, List.replicate m (I 0) = (List.replicate m (0 : Int)).flatMap eI := fun m => by
    induction m with
    | zero => rfl
    | succ m ih => rw [List.replicate_succ, List.replicate_succ, List.flatMap_cons, ih]; rfl
  rw [h1, List.append_nil, h2]
end Go.Proofs.Ytlailecnbdlknaa
