/-
  The document's example: a yard of goods, and what it comes to; when two lists of spans are one.
-/
import Derived.Test.YtlailecnbdlknaaP5
import Derived.KernelRfl
set_option linter.all false
namespace Go.Proofs.Ytlailecnbdlknaa
open Go Go.H
def sStills (o1 o2 : Nat) : List Still := [⟨0, 6, some ⟨o1, 0, none⟩, 3, [⟨0, 0⟩, ⟨2, 3⟩, ⟨1, 2⟩], 5, 4⟩, ⟨1, 4, some ⟨o2, 0, none⟩, 3, [⟨0, 0⟩, ⟨0, 0⟩, ⟨3, 3⟩], 1, 2⟩]
def sSales : List Sale := [⟨2, 5, 9⟩, ⟨1, 10, 4⟩, ⟨0, 30, 2⟩]
def sY (bs o1 o2 bt bl : Nat) : Yard := ⟨some ⟨bs, 0, none⟩, 3, [20, 0, 1], some ⟨bt, 0, none⟩, 2, sStills o1 o2, some ⟨bl, 0, none⟩, 3, sSales⟩
def sH (bs o1 o2 bt bl : Nat) : Hp := [(bl, .cells ⟨sSales.flatMap eSale⟩ 51 (0, 0)), (bt, .cells ⟨(sStills o1 o2).flatMap eStill⟩ 48 (0, 0)), (o2, .cells ⟨[I 0, I 0, I 0, I 0, I 3, I 3]⟩ 41 (0, 0)), (o1, .cells ⟨[I 0, I 0, I 2, I 3, I 1, I 2]⟩ 41 (0, 0)), (bs, .cells ⟨[I 20, I 0, I 1]⟩ 3 (0, 0))]
theorem eqc_spanD (a b : Span) : (!eqc [I a.lo, I a.hi] [I b.lo, I b.hi]) = !decide (a = b) := by
  obtain ⟨a, a'⟩ := a
  obtain ⟨b, b'⟩ := b
  simp only [eqc, Span.mk.injEq]
  by_cases ha : a = b <;> by_cases hb : a' = b' <;> simp [ha, hb]
theorem eqc_self : ∀ {xs : List Value}, (∀ x ∈ xs, Num x) → eqc xs xs = true
  | [], _ => rfl
  | x :: xs, h => by
    obtain ⟨n, rfl⟩ := h x List.mem_cons_self
    simp only [eqc, beq_self_eq_true, Bool.true_and]
    exact eqc_self fun y hy => h y (List.mem_cons_of_mem _ hy)
section
variable {bs o1 o2 bt bl : Nat}
theorem sYV {h : Hp} (H : sH bs o1 o2 bt bl ⊆ h) : YardV h (sY bs o1 o2 bt bl) where
  stock := slvL (xs := [20, 0, 1]) eI_len (H (List.mem_cons_of_mem _ (List.mem_cons_of_mem _ (List.mem_cons_of_mem _ (List.mem_cons_of_mem _ List.mem_cons_self)))))
  stills := slvL (fun _ => rfl) (H (List.mem_cons_of_mem _ List.mem_cons_self))
  sales := slvL (fun _ => rfl) (H List.mem_cons_self)
  out := fun x hx => by
    simp only [sY, sStills, List.mem_cons, List.not_mem_nil, or_false] at hx
    rcases hx with rfl | rfl
    · exact slvL (xs := [⟨0, 0⟩, ⟨2, 3⟩, ⟨1, 2⟩]) eSpan_len (H (List.mem_cons_of_mem _ (List.mem_cons_of_mem _ (List.mem_cons_of_mem _ List.mem_cons_self))))
    · exact slvL (xs := [⟨0, 0⟩, ⟨0, 0⟩, ⟨3, 3⟩]) eSpan_len (H (List.mem_cons_of_mem _ (List.mem_cons_of_mem _ List.mem_cons_self)))
theorem sSmall : Small (sY bs o1 o2 bt bl) := ⟨(by first | decide | exact Nat.le_of_ble_eq_true rfl | (simp [sY, sStills, sSales, lastAt, spanOk, outOk, tonsOk, saleOk]; done)), (by first | decide | exact Nat.le_of_ble_eq_true rfl | (simp [sY, sStills, sSales, lastAt, spanOk, outOk, tonsOk, saleOk]; done)), (by first | decide | exact Nat.le_of_ble_eq_true rfl | (simp [sY, sStills, sSales, lastAt, spanOk, outOk, tonsOk, saleOk]; done)), fun x hx => by
    simp only [sY, sStills, List.mem_cons, List.not_mem_nil, or_false] at hx
    rcases hx with rfl | rfl <;> exact (by first | decide | exact Nat.le_of_ble_eq_true rfl | (simp [sY, sStills, sSales, lastAt, spanOk, outOk, tonsOk, saleOk]; done))⟩
theorem sGood : GoodYard (sY bs o1 o2 bt bl) where
  n1 := (by first | decide | exact Nat.le_of_ble_eq_true rfl | (simp [sY, sStills, sSales, lastAt, spanOk, outOk, tonsOk, saleOk]; done))
  n6 := (by first | decide | exact Nat.le_of_ble_eq_true rfl | (simp [sY, sStills, sSales, lastAt, spanOk, outOk, tonsOk, saleOk]; done))
  s4 := (by first | decide | exact Nat.le_of_ble_eq_true rfl | (simp [sY, sStills, sSales, lastAt, spanOk, outOk, tonsOk, saleOk]; done))
  s6 := (by first | decide | exact Nat.le_of_ble_eq_true rfl | (simp [sY, sStills, sSales, lastAt, spanOk, outOk, tonsOk, saleOk]; done))
  stock := fun t ht => by
    simp only [sY, List.mem_cons, List.not_mem_nil, or_false] at ht
    rcases ht with rfl | rfl | rfl <;> exact (by first | decide | exact Nat.le_of_ble_eq_true rfl | (simp [sY, sStills, sSales, lastAt, spanOk, outOk, tonsOk, saleOk]; done))
  stills := fun k x hx => by
    match k, hx with
    | 0, hx =>
      cases hx
      refine ⟨(by first | decide | exact Nat.le_of_ble_eq_true rfl | (simp [sY, sStills, sSales, lastAt, spanOk, outOk, tonsOk, saleOk]; done)), (by first | decide | exact Nat.le_of_ble_eq_true rfl | (simp [sY, sStills, sSales, lastAt, spanOk, outOk, tonsOk, saleOk]; done)), rfl, (by first | decide | exact Nat.le_of_ble_eq_true rfl | (simp [sY, sStills, sSales, lastAt, spanOk, outOk, tonsOk, saleOk]; done)), (by first | decide | exact Nat.le_of_ble_eq_true rfl | (simp [sY, sStills, sSales, lastAt, spanOk, outOk, tonsOk, saleOk]; done)), fun j s hs => ?_⟩
      match j, hs with
      | 0, hs => cases hs; exact ⟨(by first | decide | exact Nat.le_of_ble_eq_true rfl | (simp [sY, sStills, sSales, lastAt, spanOk, outOk, tonsOk, saleOk]; done)), .inr rfl⟩
      | 1, hs => cases hs; exact ⟨(by first | decide | exact Nat.le_of_ble_eq_true rfl | (simp [sY, sStills, sSales, lastAt, spanOk, outOk, tonsOk, saleOk]; done)), .inl ((by first | decide | exact Nat.le_of_ble_eq_true rfl | (simp [sY, sStills, sSales, lastAt, spanOk, outOk, tonsOk, saleOk]; done)))⟩
      | 2, hs => cases hs; exact ⟨(by first | decide | exact Nat.le_of_ble_eq_true rfl | (simp [sY, sStills, sSales, lastAt, spanOk, outOk, tonsOk, saleOk]; done)), .inl ((by first | decide | exact Nat.le_of_ble_eq_true rfl | (simp [sY, sStills, sSales, lastAt, spanOk, outOk, tonsOk, saleOk]; done)))⟩
      | j + 3, hs => cases hs
    | 1, hx =>
      cases hx
      refine ⟨(by first | decide | exact Nat.le_of_ble_eq_true rfl | (simp [sY, sStills, sSales, lastAt, spanOk, outOk, tonsOk, saleOk]; done)), (by first | decide | exact Nat.le_of_ble_eq_true rfl | (simp [sY, sStills, sSales, lastAt, spanOk, outOk, tonsOk, saleOk]; done)), rfl, (by first | decide | exact Nat.le_of_ble_eq_true rfl | (simp [sY, sStills, sSales, lastAt, spanOk, outOk, tonsOk, saleOk]; done)), (by first | decide | exact Nat.le_of_ble_eq_true rfl | (simp [sY, sStills, sSales, lastAt, spanOk, outOk, tonsOk, saleOk]; done)), fun j s hs => ?_⟩
      match j, hs with
      | 0, hs => cases hs; exact ⟨(by first | decide | exact Nat.le_of_ble_eq_true rfl | (simp [sY, sStills, sSales, lastAt, spanOk, outOk, tonsOk, saleOk]; done)), .inr rfl⟩
      | 1, hs => cases hs; exact ⟨(by first | decide | exact Nat.le_of_ble_eq_true rfl | (simp [sY, sStills, sSales, lastAt, spanOk, outOk, tonsOk, saleOk]; done)), .inr rfl⟩
      | 2, hs => cases hs; exact ⟨(by first | decide | exact Nat.le_of_ble_eq_true rfl | (simp [sY, sStills, sSales, lastAt, spanOk, outOk, tonsOk, saleOk]; done)), .inl ((by first | decide | exact Nat.le_of_ble_eq_true rfl | (simp [sY, sStills, sSales, lastAt, spanOk, outOk, tonsOk, saleOk]; done)))⟩
      | j + 3, hs => cases hs
    | k + 2, hx => cases hx
  sales := fun x hx => by
    simp only [sY, sSales, List.mem_cons, List.not_mem_nil, or_false] at hx
    rcases hx with rfl | rfl | rfl <;> exact ⟨(by first | decide | exact Nat.le_of_ble_eq_true rfl | (simp [sY, sStills, sSales, lastAt, spanOk, outOk, tonsOk, saleOk]; done)), (by first | decide | exact Nat.le_of_ble_eq_true rfl | (simp [sY, sStills, sSales, lastAt, spanOk, outOk, tonsOk, saleOk]; done)), (by first | decide | exact Nat.le_of_ble_eq_true rfl | (simp [sY, sStills, sSales, lastAt, spanOk, outOk, tonsOk, saleOk]; done))⟩
theorem sOk {a b : Int} (ha : 0 ≤ a ∧ a ≤ 4) (hb : 0 ≤ b ∧ b ≤ 2) : PlanOk (sY bs o1 o2 bt bl) [a, b] := fun k x t hx ht => by
  match k, hx, ht with
  | 0, hx, ht => cases hx; cases ht; exact ha
  | 1, hx, ht => cases hx; cases ht; exact hb
  | k + 2, hx, _ => cases hx
def sG : Goods := workG ⟨1, 4, none, 3, [⟨0, 0⟩, ⟨0, 0⟩, ⟨3, 3⟩], 1, 2⟩ 1 (workG ⟨0, 6, none, 3, [⟨0, 0⟩, ⟨2, 3⟩, ⟨1, 2⟩], 5, 4⟩ 3 (newG (sY 0 0 0 0 0)))
theorem sAfter : afterG (sY bs o1 o2 bt bl).stills [3, 1] (newG (sY bs o1 o2 bt bl)) = some sG := by kernel_rfl
theorem sAfter0 : afterG (sY bs o1 o2 bt bl).stills [1, 1] (newG (sY bs o1 o2 bt bl)) = none := by kernel_rfl
theorem sGl : gl sG (sY bs o1 o2 bt bl).stock.length = [⟨2, 2⟩, ⟨2, 5⟩, ⟨7, 10⟩] := by kernel_rfl
theorem sIncome : incomeY (sY bs o1 o2 bt bl) [3, 1] sG = 41 := by kernel_rfl
theorem sSold : (sellY (sY bs o1 o2 bt bl) sG).sold = [5, 2, 2] := by kernel_rfl
theorem sBest : bestY (sY bs o1 o2 bt bl) = some ([2, 1], 50) := by kernel_rfl
end
end Go.Proofs.Ytlailecnbdlknaa
