/-
  Yards that are changed in place: valid, and what the plan of them is.
-/
import Derived.Test.YtlailecnbdlknaaP15
import Derived.Test.YtlailecnbdlknaaP14
set_option linter.all false
namespace Go.Proofs.Ytlailecnbdlknaa
open Go Go.H
set_option maxRecDepth 100000
theorem eStill_len (x : Still) : (eStill x).length = 5 := rfl
theorem eSale_len (x : Sale) : (eSale x).length = 3 := rfl
theorem eStill_1 (x : Still) : (eStill x).all Value.oneCell' = true := rfl
theorem eSale_1 (x : Sale) : (eSale x).all Value.oneCell' = true := rfl
theorem eIdle {oa : Option Addr} {oc n : Nat} : eStill (idle oa oc n) = [I 0, I 1, .slice oa n oc, I 0, I 0] := by simp [eStill, idle]
theorem good_same {y y' : Yard} (hy : GoodYard y) (h1 : y'.stock = y.stock) (h2 : y'.stills = y.stills) (h3 : y'.sales = y.sales) : GoodYard y' :=
  ⟨by rw [h1]; exact hy.n1, by rw [h1]; exact hy.n6, by rw [h2]; exact hy.s4, by rw [h3]; exact hy.s6, by rw [h1]; exact hy.stock, by rw [h1, h2]; exact hy.stills, by rw [h1, h3]; exact hy.sales⟩
theorem good_stock {y y' : Yard} {i : Nat} {v : Int} (hy : GoodYard y) (hv : tonsOk v) (h1 : y'.stock = y.stock.set i v) (h2 : y'.stills = y.stills) (h3 : y'.sales = y.sales) : GoodYard y' := by
  have hl : y'.stock.length = y.stock.length := by rw [h1, List.length_set]
  refine ⟨by rw [hl]; exact hy.n1, by rw [hl]; exact hy.n6, by rw [h2]; exact hy.s4, by rw [h3]; exact hy.s6, fun t ht => ?_, by rw [hl, h2]; exact hy.stills, by rw [hl, h3]; exact hy.sales⟩
  rw [h1] at ht
  rcases List.mem_or_eq_of_mem_set ht with ht | rfl
  · exact hy.stock t ht
  · exact hv
theorem good_sales {y y' : Yard} (hy : GoodYard y) (h1 : y'.stock = y.stock) (h2 : y'.stills = y.stills) (hl : y'.sales.length = y.sales.length) (h3 : ∀ x ∈ y'.sales, saleOk y.stock.length x) : GoodYard y' :=
  ⟨by rw [h1]; exact hy.n1, by rw [h1]; exact hy.n6, by rw [h2]; exact hy.s4, by rw [hl]; exact hy.s6, by rw [h1]; exact hy.stock, by rw [h1, h2]; exact hy.stills, by rw [h1]; exact h3⟩
theorem cheaps_last : ∀ {xs xs' : List Still}, Cheaps xs xs' → ∀ k, lastAt xs' k = lastAt xs k
  | xs, xs', h, 0 => rfl
  | xs, xs', h, k + 1 => by
    simp only [lastAt]
    cases hk : xs'[k]? with
    | none =>
      have h1 := List.getElem?_eq_none_iff.1 hk
      rw [← h.len] at h1
      rw [List.getElem?_eq_none h1]
    | some x' =>
      obtain ⟨x, h1, h2⟩ := h.at hk
      rw [h1]
      simp [h2.1]
theorem good_stills {y y' : Yard} (hy : GoodYard y) (h1 : y'.stock = y.stock) (h2 : Cheaps y.stills y'.stills) (h3 : y'.sales = y.sales) (hp : ∀ x ∈ y'.stills, 0 ≤ x.pay) : GoodYard y' := by
  refine ⟨by rw [h1]; exact hy.n1, by rw [h1]; exact hy.n6, by rw [← h2.len]; exact hy.s4, by rw [h3]; exact hy.s6, by rw [h1]; exact hy.stock, fun k x' hx' => ?_, by rw [h1, h3]; exact hy.sales⟩
  obtain ⟨x, hx, c1, c2, c3, c4, c5⟩ := h2.at hx'
  obtain ⟨g1, g2, g3, g4, g5, g6⟩ := hy.stills k x hx
  have := hp x' (List.mem_of_getElem? hx')
  rw [h1, cheaps_last h2]
  refine ⟨by rw [c1]; exact g1, by rw [c2]; exact g2, by rw [c3]; exact g3, by omega, by rw [c4]; exact g5, fun j s hs => ?_⟩
  rw [c3] at hs
  have := g6 j s hs
  exact ⟨this.1, by rw [c1]; exact this.2⟩
theorem good_idle {y y' : Yard} {oa : Option Addr} {oc : Nat} (hy : GoodYard y) (h4 : y.stills.length < 4) (h1 : y'.stock = y.stock) (h2 : y'.stills = idle oa oc y.stock.length :: y.stills) (h3 : y'.sales = y.sales) : GoodYard y' := by
  refine ⟨by rw [h1]; exact hy.n1, by rw [h1]; exact hy.n6, by rw [h2, List.length_cons]; omega, by rw [h3]; exact hy.s6, by rw [h1]; exact hy.stock, fun k x hx => ?_, by rw [h1, h3]; exact hy.sales⟩
  rw [h2] at hx
  have hn1 := hy.n1
  rw [h1, h2]
  cases k with
  | zero =>
    simp at hx
    subst hx
    refine ⟨?_, ?_, ?_, ?_, ?_, fun j s hs => ?_⟩
    · simp only [lastAt, idle]; omega
    · simp only [idle]; omega
    · simp [idle]
    · simp only [idle]; omega
    · simp only [idle]; omega
    · have := List.mem_of_getElem? hs
      simp [idle] at this
      obtain ⟨_, rfl⟩ := this
      exact ⟨⟨by decide, by decide⟩, .inr rfl⟩
  | succ k =>
    have hx' : y.stills[k]? = some x := by simpa using hx
    have hs := hy.stills k x hx'
    have hl : lastAt (idle oa oc y.stock.length :: y.stills) (k + 1) = lastAt y.stills k := by
      cases k with
      | zero => rfl
      | succ k => simp [lastAt]
    rw [hl]
    exact hs
def salesOk (n : Nat) (ss ls : List Sale) : Prop := Better ss ls ∧ ∀ x ∈ ls, saleOk n x
theorem salesOk.refl {n : Nat} {ss : List Sale} (h : ∀ x ∈ ss, saleOk n x) : salesOk n ss ss := ⟨⟨rfl, fun _ => rfl, fun _ => Int.le_refl _, fun _ => Int.le_refl _⟩, h⟩
theorem sale_set {ss : List Sale} {k : Nat} {x x' : Sale} (hk : ss[k]? = some x) (i : Nat) : sale (ss.set k x') i = if i = k then x' else sale ss i := by
  have hkl := (List.getElem?_eq_some_iff.1 hk).1
  simp only [sale, List.getD, List.getElem?_set]
  by_cases h : k = i
  · subst h; simp [hkl]
  · rw [if_neg h, if_neg (Ne.symm h)]
theorem salesOk.set {n : Nat} {ss : List Sale} {k : Nat} {x x' : Sale} (h : ∀ x ∈ ss, saleOk n x) (hk : ss[k]? = some x) (h1 : x'.good = x.good) (h2 : x.most ≤ x'.most) (h3 : x.price ≤ x'.price) (h4 : saleOk n x') : salesOk n ss (ss.set k x') := by
  have hs : ∀ i : Int, i.toNat = k → sale ss i.toNat = x := fun i hi => by rw [hi]; exact sale_at hk
  refine ⟨⟨List.length_set, fun i => ?_, fun i => ?_, fun i => ?_⟩, fun z hz => ?_⟩
  · unfold gd; rw [sale_set hk]; split
    · rename_i hi; rw [h1, hs i hi]
    · rfl
  · unfold mo; rw [sale_set hk]; split
    · rename_i hi; rw [hs i hi]; exact h2
    · exact Int.le_refl _
  · unfold pr; rw [sale_set hk]; split
    · rename_i hi; rw [hs i hi]; exact h3
    · exact Int.le_refl _
  · rcases List.mem_or_eq_of_mem_set hz with hz | rfl
    · exact h z hz
    · exact h4
def stillsOk (ss ls : List Still) : Prop := Cheaps ss ls ∧ (∀ x ∈ ls, 0 ≤ x.pay) ∧ ∀ (h : Hp), (∀ x ∈ ss, SlV h 2 eSpan x.oa x.out) → ∀ x ∈ ls, SlV h 2 eSpan x.oa x.out
theorem stillsOk.refl {ss : List Still} (h : ∀ x ∈ ss, 0 ≤ x.pay) : stillsOk ss ss := ⟨Cheaps.refl ss, h, fun _ h => h⟩
theorem stillsOk.set {ss : List Still} {k : Nat} {x : Still} {p : Int} (h : ∀ x ∈ ss, 0 ≤ x.pay) (hk : ss[k]? = some x) (h0 : 0 ≤ p) (h1 : p ≤ x.pay) : stillsOk ss (ss.set k { x with pay := p }) := by
  refine ⟨Cheaps.set hk ⟨rfl, rfl, rfl, rfl, h1⟩, fun z hz => ?_, fun hh ho z hz => ?_⟩
  · rcases List.mem_or_eq_of_mem_set hz with hz | rfl
    · exact h z hz
    · exact h0
  · rcases List.mem_or_eq_of_mem_set hz with hz | rfl
    · exact ho z hz
    · exact ho x (List.mem_of_getElem? hk)
theorem GoodYard.pay {y : Yard} (hy : GoodYard y) : ∀ x ∈ y.stills, 0 ≤ x.pay := fun x hx => by
  obtain ⟨k, hk⟩ := List.getElem?_of_mem hx
  exact (hy.stills k x hk).2.2.2.1.1
theorem newG_le {y y' : Yard} {i : Nat} {v t : Int} (ht : y.stock[i]? = some t) (hv : t ≤ v) (h1 : y'.stock = y.stock.set i v) : ∀ j, (newG y j).lo ≤ (newG y' j).lo := fun j => by
  have hil := (List.getElem?_eq_some_iff.1 ht).1
  simp only [newG, h1, List.getElem?_set]
  by_cases h : i = j
  · subst h; rw [if_pos rfl, if_pos hil, ht]; exact hv
  · rw [if_neg h]; exact Int.le_refl _
/-- The yard that a list of cells is. -/
def yd (sa : Option Addr) (sc : Nat) (st : List Int) (ta : Option Addr) (tc : Nat) (ts : List Still) (la : Option Addr) (lc : Nat) (ls : List Sale) : Yard := ⟨sa, sc, st, ta, tc, ts, la, lc, ls⟩
theorem yardV_mk {H : Hp} {bS cS : Nat} {st : List Int} {spS : List Value} {VT VL : Vec} {n m : Nat} {ts : List Still} {ls : List Sale} (m1 : (bS, .cells ⟨st.flatMap eI ++ spS⟩ 3 (0, 0)) ∈ H) (ht : ts.length = n) (hVT : VT.ok 5 n (ts.flatMap eStill)) (s1 : VT.hp 48 (ts.flatMap eStill) ⊆ H) (hl : ls.length = m) (hVL : VL.ok 3 m (ls.flatMap eSale)) (s2 : VL.hp 51 (ls.flatMap eSale) ⊆ H) (ho : ∀ x ∈ ts, SlV H 2 eSpan x.oa x.out) :
    YardV H (yd (some ⟨bS, 0, none⟩) cS st VT.ad VT.cp ts VL.ad VL.cp ls) where
  stock := .inr ⟨bS, 0, _, 3, (0, 0), rfl, m1, fun i q hq => flat_at eI_len spS _ i hq⟩
  stills := (Vec.slvA eStill_len ht hVT).sub s1
  sales := (Vec.slvA eSale_len hl hVL).sub s2
  out := ho
theorem Vec.ok_set {V : Vec} {sz n : Nat} {xs ys : List Value} (h : V.ok sz n xs) (hl : ys.length = xs.length) : V.ok sz n ys := by
  cases V with
  | nil => exact ⟨by rw [hl]; exact h.1, h.2⟩
  | «at» b c sp => exact ⟨by rw [hl]; exact h.1, h.2.1, by have := h.2.2; simp only [List.length_append, hl] at this ⊢; exact this⟩
theorem sale_lt {ls : List Sale} {k j : Nat} {sp : List Value} (h : k < ls.length) (hj : j < 3) : 0 + k * 3 + j < (ls.flatMap eSale ++ sp).length := by rw [List.length_append, flat_lenM eSale_len]; omega
theorem still_lt {ls : List Still} {k j : Nat} {sp : List Value} (h : k < ls.length) (hj : j < 5) : 0 + k * 5 + j < (ls.flatMap eStill ++ sp).length := by rw [List.length_append, flat_lenM eStill_len]; omega
theorem make_spans (n : Nat) : (madeCells (Value.agg #[.int .i64 0, .int .i64 0]).cells (n * 2)).toList = (List.replicate n (⟨0, 0⟩ : Span)).flatMap eSpan := by
  have h1 : (madeCells (Value.agg #[.int .i64 0, .int .i64 0]).cells (n * 2)).toList = List.replicate (n * 2) (I 0) := by
    refine List.eq_replicate_iff.2 ⟨by simp [madeCells], fun b hb => ?_⟩
    simp only [madeCells, Value.cells, Array.toList_map, List.mem_map] at hb
    obtain ⟨a, _, rfl⟩ := hb
    have h2 : a % 2 = 0 ∨ a % 2 = 1 := by omega
    rcases h2 with h2 | h2 <;> simp [h2]
  have h2 : ∀ m : Nat, List.replicate (m * 2) (I 0) = (List.replicate m (⟨0, 0⟩ : Span)).flatMap eSpan := fun m => by
    induction m with
    | zero => rfl
    | succ m ih =>
      rw [show (m + 1) * 2 = m * 2 + 1 + 1 by omega, List.replicate_succ, List.replicate_succ, List.replicate_succ, List.flatMap_cons, ih]; rfl
  rw [h1, h2]
theorem PlanT_c {l : List Value} {h : Hp} {R : Ending → Hp → Prop} (y' : Yard) (he : l = eYard y') (hv : YardV h y') (hy : GoodYard y')
    (H : ∀ q m, IsBest y' q m → ∀ a c hp, SlV hp 1 eI a q → R (.returned (.tuple ⟨[.slice a q.length c, I m, I 0]⟩)) (hp ++ h)) : ACalls Try.prog 11 ⟨[.agg ⟨l⟩]⟩ h R := by
  subst he
  have hn := hy.n6
  have h4 := hy.s4
  have h6 := hy.s6
  exact PlanB_c hv ⟨by omega, by omega, by omega, fun x hx => by
    obtain ⟨k, hk⟩ := List.getElem?_of_mem hx
    rw [(hy.stills k x hk).2.2.1]; omega⟩ (fun hn => absurd hy hn) (fun _ q m _ hB a c hp hs => H q m hB a c hp hs)
end Go.Proofs.Ytlailecnbdlknaa
