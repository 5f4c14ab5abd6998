/-
  What the reference's income needs: sales that are open, and results of all functions in one form.
-/
import Derived.Test.YtlailecnbdlknaaW23
import Derived.Test.YtlailecnbdlknaaP10
import Derived.Test.YtlailecnbdlknaaHG
set_option linter.all false
namespace Go.Proofs.Ytlailecnbdlknaa
open Go Go.H
set_option maxRecDepth 100000
def openK (n k : Nat) : List Bool := (List.range n).map fun i => decide (i < k)
theorem openK_len {n k : Nat} : (openK n k).length = n := by simp [openK]
theorem openK_zero {n : Nat} : openK n 0 = List.replicate n false := by
  refine List.ext_getElem? fun i => ?_
  by_cases h : i < n
  · simp [openK, h]
  · rw [List.getElem?_eq_none (by rw [openK_len]; omega), List.getElem?_eq_none (by simp; omega)]
theorem openK_all {n : Nat} : openK n n = List.replicate n true := by
  refine List.ext_getElem? fun i => ?_
  by_cases h : i < n
  · simp [openK, h]
  · rw [List.getElem?_eq_none (by rw [openK_len]; omega), List.getElem?_eq_none (by simp; omega)]
theorem openK_succ {n k : Nat} : (openK n k).set k true = openK n (k + 1) := by
  refine List.ext_getElem? fun i => ?_
  rw [List.getElem?_set, openK_len]
  by_cases h : i < n
  · by_cases hk : k = i
    · subst hk; rw [if_pos rfl, if_pos h]; simp [openK, h]
    · have : (i < k) ↔ (i < k + 1) := by omega
      rw [if_neg hk]; simp [openK, h, this]
  · rw [List.getElem?_eq_none (by rw [openK_len]; omega), List.getElem?_eq_none (by rw [openK_len]; omega)]
    split
    · rename_i hk; subst hk; rw [if_neg h]
    · rfl
theorem bo_len {l : List Bool} {sp : List Value} : (l.flatMap eBo ++ sp).length = l.length + sp.length := by rw [List.length_append, flat_lenM eBo_len]; omega
theorem bo_set {l : List Bool} {k : Nat} {v : Bool} {sp : List Value} (h : k < l.length) : (l.flatMap eBo ++ sp).set (0 + k * 1) (.bool v) = (l.set k v).flatMap eBo ++ sp :=
  set_flat eBo_len (x := l[k]) sp (j := 0) (by omega) rfl l k (List.getElem?_eq_getElem h)
theorem make_bools (n : Nat) : (madeCells (Value.bool false).cells (n * 1)).toList = (openK n 0).flatMap eBo ++ [] := by
  have h1 : (madeCells (Value.bool false).cells (n * 1)).toList = List.replicate n (.bool false) := by
    refine List.eq_replicate_iff.2 ⟨by simp [madeCells], fun b hb => ?_⟩
    simp only [madeCells, Value.cells, Array.toList_map, List.mem_map] at hb
    obtain ⟨a, _, rfl⟩ := hb
    simp [Nat.mod_one]
  have h2 : ∀ m : Nat, List.replicate m (.bool false) = (List.replicate m false).flatMap eBo := fun m => by
    induction m with
    | zero => rfl
    | succ m ih => rw [List.replicate_succ, List.replicate_succ, List.flatMap_cons, ih]; rfl
  rw [h1, List.append_nil, h2, openK_zero]
theorem nextAt_some {ss : List Sale} {m : Nat} {x : Int} (h : (ord ss)[m]? = some x) : nextAt ss m = x := by simp [nextAt, h]
theorem nextAt_lt {ss : List Sale} {m : Nat} (h : 0 ≤ nextAt ss m) : m < ss.length := by
  refine Nat.lt_of_not_le fun hm => ?_
  have : (ord ss)[m]? = none := List.getElem?_eq_none (by rw [ord_len]; exact hm)
  simp [nextAt, this] at h
theorem nextAt_ge {ss : List Sale} {m : Nat} (h : nextAt ss m < 0) : ss.length ≤ m := by
  refine Nat.le_of_not_lt fun hm => ?_
  have hm' : m < (ord ss).length := by rw [ord_len]; exact hm
  have h1 : (ord ss)[m]? = some (ord ss)[m] := List.getElem?_eq_getElem hm'
  have := (mem_ord (List.mem_of_getElem? h1)).1
  rw [nextAt_some h1] at h
  omega
theorem nextA_c {y : Yard} {a : Option Addr} {c n m : Nat} {h : Hp} {R : Ending → Hp → Prop} (hv : YardV h y) (hop : SlV h 1 eBo a (opens y.sales m)) (hn : n = y.sales.length) (h12 : y.sales.length ≤ 12) (H : R (.returned (I (nextAt y.sales m))) h) :
    ACalls Try.prog 34 ⟨[.agg ⟨eYard y⟩, .slice a n c]⟩ h R :=
  next_c hv hop (opens_len.trans hn.symm) hn h12 (fun r hr => by rw [next_eq hr]; exact H)
end Go.Proofs.Ytlailecnbdlknaa
