/-
  Walks.
-/
import Derived.Test.YtmaldhbjhomdkaaTarW11
import Derived.Test.YtmaldhbjhomdkaaTarW6
import Derived.KernelRfl
import Derived.Test.YtmaldhbjhomdkaaTarW4
import Derived.Test.YtmaldhbjhomdkaaHT
namespace Go.Proofs.Ytmaldhbjhomdkaa.Tar
open Go Go.H
set_option maxRecDepth 100000
set_option maxHeartbeats 8000000
set_option linter.all false
end Go.Proofs.Ytmaldhbjhomdkaa.Tar

/-
  The document's example: a yard of goods, and what it comes to; when two lists of spans are one.
-/
set_option linter.all false
namespace Go.Proofs.Ytmaldhbjhomdkaa.Tar
open Go Go.H
def sStills (o1 o2 : Nat) : List Still := [⟨0, 6, some ⟨o1, 0, none⟩, 3, [⟨0, 0⟩, ⟨2, 3⟩, ⟨1, 2⟩], 5, 4⟩, ⟨1, 4, some ⟨o2, 0, none⟩, 3, [⟨0, 0⟩, ⟨0, 0⟩, ⟨3, 3⟩], 1, 2⟩]
def sSales : List Sale := [⟨2, 5, 9⟩, ⟨1, 10, 4⟩, ⟨0, 30, 2⟩]
def sY (bs o1 o2 bt bl : Nat) : Yard := ⟨some ⟨bs, 0, none⟩, 3, [20, 0, 1], some ⟨bt, 0, none⟩, 2, sStills o1 o2, some ⟨bl, 0, none⟩, 3, sSales⟩
def sH (bs o1 o2 bt bl : Nat) : Hp := [(bl, .cells ⟨sSales.flatMap eSale⟩ 59 (0, 0)), (bt, .cells ⟨(sStills o1 o2).flatMap eStill⟩ 37 (0, 0)), (o2, .cells ⟨[I 0, I 0, I 0, I 0, I 3, I 3]⟩ 42 (0, 0)), (o1, .cells ⟨[I 0, I 0, I 2, I 3, I 1, I 2]⟩ 42 (0, 0)), (bs, .cells ⟨[I 20, I 0, I 1]⟩ 3 (0, 0))]
section
variable {bs o1 o2 bt bl : Nat}
theorem sYV {h : Hp} (H : sH bs o1 o2 bt bl ⊆ h) : YardV h (sY bs o1 o2 bt bl) where
  stock := slvL (xs := [20, 0, 1]) eI_len (H (List.mem_cons_of_mem _ (List.mem_cons_of_mem _ (List.mem_cons_of_mem _ (List.mem_cons_of_mem _ List.mem_cons_self)))))
  stills := slvL (fun _ => rfl) (H (List.mem_cons_of_mem _ List.mem_cons_self))
  sales := slvL (fun _ => rfl) (H List.mem_cons_self)
  out := fun x hx => by
    simp only [sY, sStills, List.mem_cons, List.not_mem_nil, or_false] at hx
    rcases hx with rfl | rfl
    · exact slvL (xs := [⟨0, 0⟩, ⟨2, 3⟩, ⟨1, 2⟩]) eSpan_len (H (List.mem_cons_of_mem _ (List.mem_cons_of_mem _ (List.mem_cons_of_mem _ List.mem_cons_self))))
    · exact slvL (xs := [⟨0, 0⟩, ⟨0, 0⟩, ⟨3, 3⟩]) eSpan_len (H (List.mem_cons_of_mem _ (List.mem_cons_of_mem _ List.mem_cons_self)))
theorem sSmall : Small (sY bs o1 o2 bt bl) := ⟨(by first | decide | exact Nat.le_of_ble_eq_true rfl | (simp [sY, sStills, sSales, lastAt, spanOk, outOk, tonsOk, saleOk]; done)), (by first | decide | exact Nat.le_of_ble_eq_true rfl | (simp [sY, sStills, sSales, lastAt, spanOk, outOk, tonsOk, saleOk]; done)), (by first | decide | exact Nat.le_of_ble_eq_true rfl | (simp [sY, sStills, sSales, lastAt, spanOk, outOk, tonsOk, saleOk]; done)), fun x hx => by
    simp only [sY, sStills, List.mem_cons, List.not_mem_nil, or_false] at hx
    rcases hx with rfl | rfl <;> exact (by first | decide | exact Nat.le_of_ble_eq_true rfl | (simp [sY, sStills, sSales, lastAt, spanOk, outOk, tonsOk, saleOk]; done))⟩
theorem sGood : GoodYard (sY bs o1 o2 bt bl) where
  n1 := (by first | decide | exact Nat.le_of_ble_eq_true rfl | (simp [sY, sStills, sSales, lastAt, spanOk, outOk, tonsOk, saleOk]; done))
  n6 := (by first | decide | exact Nat.le_of_ble_eq_true rfl | (simp [sY, sStills, sSales, lastAt, spanOk, outOk, tonsOk, saleOk]; done))
  s4 := (by first | decide | exact Nat.le_of_ble_eq_true rfl | (simp [sY, sStills, sSales, lastAt, spanOk, outOk, tonsOk, saleOk]; done))
  s6 := (by first | decide | exact Nat.le_of_ble_eq_true rfl | (simp [sY, sStills, sSales, lastAt, spanOk, outOk, tonsOk, saleOk]; done))
  stock := fun t ht => by
    simp only [sY, List.mem_cons, List.not_mem_nil, or_false] at ht
    rcases ht with rfl | rfl | rfl <;> exact (by first | decide | exact Nat.le_of_ble_eq_true rfl | (simp [sY, sStills, sSales, lastAt, spanOk, outOk, tonsOk, saleOk]; done))
  stills := fun k x hx => by
    match k, hx with
    | 0, hx =>
      cases hx
      refine ⟨(by first | decide | exact Nat.le_of_ble_eq_true rfl | (simp [sY, sStills, sSales, lastAt, spanOk, outOk, tonsOk, saleOk]; done)), (by first | decide | exact Nat.le_of_ble_eq_true rfl | (simp [sY, sStills, sSales, lastAt, spanOk, outOk, tonsOk, saleOk]; done)), rfl, (by first | decide | exact Nat.le_of_ble_eq_true rfl | (simp [sY, sStills, sSales, lastAt, spanOk, outOk, tonsOk, saleOk]; done)), (by first | decide | exact Nat.le_of_ble_eq_true rfl | (simp [sY, sStills, sSales, lastAt, spanOk, outOk, tonsOk, saleOk]; done)), fun j s hs => ?_⟩
      match j, hs with
      | 0, hs => cases hs; exact ⟨(by first | decide | exact Nat.le_of_ble_eq_true rfl | (simp [sY, sStills, sSales, lastAt, spanOk, outOk, tonsOk, saleOk]; done)), .inr rfl⟩
      | 1, hs => cases hs; exact ⟨(by first | decide | exact Nat.le_of_ble_eq_true rfl | (simp [sY, sStills, sSales, lastAt, spanOk, outOk, tonsOk, saleOk]; done)), .inl ((by first | decide | exact Nat.le_of_ble_eq_true rfl | (simp [sY, sStills, sSales, lastAt, spanOk, outOk, tonsOk, saleOk]; done)))⟩
      | 2, hs => cases hs; exact ⟨(by first | decide | exact Nat.le_of_ble_eq_true rfl | (simp [sY, sStills, sSales, lastAt, spanOk, outOk, tonsOk, saleOk]; done)), .inl ((by first | decide | exact Nat.le_of_ble_eq_true rfl | (simp [sY, sStills, sSales, lastAt, spanOk, outOk, tonsOk, saleOk]; done)))⟩
      | j + 3, hs => cases hs
    | 1, hx =>
      cases hx
      refine ⟨(by first | decide | exact Nat.le_of_ble_eq_true rfl | (simp [sY, sStills, sSales, lastAt, spanOk, outOk, tonsOk, saleOk]; done)), (by first | decide | exact Nat.le_of_ble_eq_true rfl | (simp [sY, sStills, sSales, lastAt, spanOk, outOk, tonsOk, saleOk]; done)), rfl, (by first | decide | exact Nat.le_of_ble_eq_true rfl | (simp [sY, sStills, sSales, lastAt, spanOk, outOk, tonsOk, saleOk]; done)), (by first | decide | exact Nat.le_of_ble_eq_true rfl | (simp [sY, sStills, sSales, lastAt, spanOk, outOk, tonsOk, saleOk]; done)), fun j s hs => ?_⟩
      match j, hs with
      | 0, hs => cases hs; exact ⟨(by first | decide | exact Nat.le_of_ble_eq_true rfl | (simp [sY, sStills, sSales, lastAt, spanOk, outOk, tonsOk, saleOk]; done)), .inr rfl⟩
      | 1, hs => cases hs; exact ⟨(by first | decide | exact Nat.le_of_ble_eq_true rfl | (simp [sY, sStills, sSales, lastAt, spanOk, outOk, tonsOk, saleOk]; done)), .inr rfl⟩
      | 2, hs => cases hs; exact ⟨(by first | decide | exact Nat.le_of_ble_eq_true rfl | (simp [sY, sStills, sSales, lastAt, spanOk, outOk, tonsOk, saleOk]; done)), .inl ((by first | decide | exact Nat.le_of_ble_eq_true rfl | (simp [sY, sStills, sSales, lastAt, spanOk, outOk, tonsOk, saleOk]; done)))⟩
      | j + 3, hs => cases hs
    | k + 2, hx => cases hx
  sales := fun x hx => by
    simp only [sY, sSales, List.mem_cons, List.not_mem_nil, or_false] at hx
    rcases hx with rfl | rfl | rfl <;> exact ⟨(by first | decide | exact Nat.le_of_ble_eq_true rfl | (simp [sY, sStills, sSales, lastAt, spanOk, outOk, tonsOk, saleOk]; done)), (by first | decide | exact Nat.le_of_ble_eq_true rfl | (simp [sY, sStills, sSales, lastAt, spanOk, outOk, tonsOk, saleOk]; done)), (by first | decide | exact Nat.le_of_ble_eq_true rfl | (simp [sY, sStills, sSales, lastAt, spanOk, outOk, tonsOk, saleOk]; done))⟩
theorem sBest : bestY (sY bs o1 o2 bt bl) = some ([2, 1], 50) := by kernel_rfl
end
end Go.Proofs.Ytmaldhbjhomdkaa.Tar

/-
  Walks.
-/
namespace Go.Proofs.Ytmaldhbjhomdkaa.Tar
open Go Go.H
set_option maxRecDepth 100000
set_option maxHeartbeats 8000000
set_option linter.all false
theorem Ints_c {a a2 : Option Addr} {c c2 : Nat} {xs ys : List Int} {h : Hp} {R : Ending → Hp → Prop} (hs : SlV h 1 eI a xs) (hs2 : SlV h 1 eI a2 ys) (hl : xs.length ≤ 1000000) (hl2 : ys.length ≤ 4611686018427387904)
    (H : R (.returned (.bool (decide (xs = ys)))) h) :
    ACalls Try.prog 15 ⟨[.slice a xs.length c, .slice a2 ys.length c2]⟩ h R := by
  refine calls_of_xc (N := 26) Try.func15 rfl (by rfl) ?_
  refine xc_seq (xc_region ?_)
  refine xr_op rfl rfl (xv_assign rfl ?_)
  refine xr_end rfl ?_
  refine th_n ?_
  refine xc_seq ?_
  refine xc_seq (xc_region ?_)
  refine xr_op rfl rfl (xv_move rfl ?_)
  refine xr_op rfl rfl (xv_len sl22 rfl ?_)
  refine xr_op rfl rfl (xv_move rfl ?_)
  refine xr_op rfl rfl (xv_len sl22 rfl ?_)
  refine xr_op rfl rfl (xv_neq2 rfl rfl (fun q1 => ?_) (fun q1 => ?_))
  · refine xr_end rfl ?_
    refine th_n ?_
    refine xc_true rfl ?_
    refine xc_seq (xc_region ?_)
    refine xr_op rfl rfl (xv_assign rfl ?_)
    refine xr_end rfl ?_
    refine th_n ?_
    refine xc_ret ?_
    refine th_r ?_
    refine body_ret (h' := h) rfl (ro_tmp rfl ro_nil) Su_ ?_
    first | (rw [decide_eq_true hxy] at H; exact H) | (rw [decide_eq_false hne] at H; exact H) | (rw [decide_eq_false (fun hq => by subst hq; omega)] at H; exact H)
  · refine xr_end rfl ?_
    refine th_n ?_
    refine xc_false rfl ?_
    refine xc_skip ?_
    refine th_n ?_
    refine xc_seq ?_
    refine xc_seq (xc_region ?_)
    refine xr_op rfl rfl (xv_assign rfl ?_)
    refine xr_end rfl ?_
    refine th_n ?_
    refine xc_block ?_
    have hle : xs.length = ys.length := by (first|omega|(dsimp only at *;omega)|(simp at *;omega))
    refine xc_loop (σ := Nat) (fun k => k ≤ xs.length ∧ xs.take k = ys.take k) (fun k => (((emp.put (some 0) (.slice a xs.length c)).put (some 1) (.slice a2 ys.length c2)).put (some 5) (I k))) (fun k => h) (fun k => xs.length - k) 0 ⟨Nat.zero_le _, rfl⟩ (le_put (le_put (le_put (le_emp _) rfl) rfl) rfl) Su_ ?_
    rintro k ⟨hk, hall⟩
    refine xc_seq ?_
    refine xc_seq (xc_region ?_)
    refine xr_op rfl rfl (xv_move rfl ?_)
    refine xr_op rfl rfl (xv_move rfl ?_)
    refine xr_op rfl rfl (xv_len sl22 rfl ?_)
    refine xr_op rfl rfl (xv_lss2 rfl rfl (fun q2 => ?_) (fun q2 => ?_))
    · refine xr_end rfl ?_
      refine th_n ?_
      refine xc_true rfl ?_
      refine xc_skip ?_
      refine th_n ?_
      refine xc_seq ?_
      refine xc_block ?_
      refine xc_seq ?_
      refine xc_draw0 [(0, .S), (1, .S), (2, .S), (3, .R), (4, .S), (5, .S), (6, .S), (7, .R), (8, .S)] mixed (by kernel_rfl) ?_
      have hlto : k < xs.length := by (first|omega|(dsimp only at *;omega)|(simp at *;omega))
      obtain ⟨bo, oo, lo, to, fzo, hao, hmo, hxo⟩ := (hs).at hlto
      obtain ⟨xo, hko⟩ : ∃ qq_, xs[k]? = some qq_ := ⟨_, List.getElem?_eq_getElem hlto⟩
      have hltp : k < ys.length := by (first|omega|(dsimp only at *;omega)|(simp at *;omega))
      obtain ⟨bp, op, lp, tp, fzp, hap, hmp, hxp⟩ := (hs2).at hltp
      obtain ⟨xp, hkp⟩ : ∃ qq_, ys[k]? = some qq_ := ⟨_, List.getElem?_eq_getElem hltp⟩
      refine js_S rfl rfl (.inl rfl) (xv_move rfl ⟨rfl, rfl⟩) ?_
      refine js_S rfl rfl (.inl rfl) (xv_move rfl ⟨rfl, rfl⟩) ?_
      refine js_S rfl rfl (.inl rfl) (xv_ia (sz := 1) (j := k) sl22 ty3 rfl (by rw [hao]; rfl) rfl Ix_ Om_ Om_ ⟨rfl, rfl⟩) ?_
      refine js_R0 rfl rfl (.inl rfl) (xv_load1 ty3 rfl rfl Me_ (take_get (hxo (k) xo hko) (j := 0) rfl) ⟨rfl, rfl⟩) ?_
      refine js_S rfl rfl (.inl rfl) (xv_move rfl ⟨rfl, rfl⟩) ?_
      refine js_S rfl rfl (.inl rfl) (xv_move rfl ⟨rfl, rfl⟩) ?_
      refine js_S rfl rfl (.inl rfl) (xv_ia (sz := 1) (j := k) sl22 ty3 rfl (by rw [hap]; rfl) rfl Ix_ Om_ Om_ ⟨rfl, rfl⟩) ?_
      refine js_R0 rfl rfl (.inl rfl) (xv_load1 ty3 rfl rfl Me_ (take_get (hxp (k) xp hkp) (j := 0) rfl) ⟨rfl, rfl⟩) ?_
      refine js_S rfl rfl (.inl rfl) (xv_cmp rfl rfl rfl ⟨rfl, rfl⟩) ?_
      refine j_end0 ?_
      refine th_n ?_
      refine xc_bool rfl (fun q3 => ?_) (fun q3 => ?_)
      · refine xc_seq (xc_region ?_)
        have hne : ¬ xs = ys := fun hq => by subst hq; have hq2 := Option.some.inj (hko.symm.trans hkp); (first|omega|(dsimp only at *;omega)|(simp at *;omega))
        refine xr_op rfl rfl (xv_assign rfl ?_)
        refine xr_end rfl ?_
        refine th_n ?_
        refine xc_ret ?_
        refine bk_r ?_
        refine th_r ?_
        refine th_r ?_
        refine bk_r ?_
        refine th_r ?_
        refine body_ret (h' := h) rfl (ro_tmp rfl ro_nil) Su_ ?_
        first | (rw [decide_eq_true hxy] at H; exact H) | (rw [decide_eq_false hne] at H; exact H) | (rw [decide_eq_false (fun hq => by subst hq; omega)] at H; exact H)
      · refine xc_skip ?_
        refine bk_n ?_
        refine th_n ?_
        refine xc_region ?_
        have heq : xo = xp := by (first|omega|(dsimp only at *;omega)|(simp at *;omega))
        refine xr_op rfl rfl (xv_move rfl ?_)
        refine xr_op rfl rfl (xv_add rfl rfl (wrap_i64 Om_ Om_) ?_)
        refine xr_op rfl rfl (xv_assign rfl ?_)
        refine xr_end rfl ?_
        exact rnd (k + 1) ⟨by (first|omega|(dsimp only at *;omega)|(simp at *;omega)), by rw [List.take_add_one, List.take_add_one, hko, hkp, hall, heq]⟩ Om_ (le_put (le_put (le_put (le_emp _) rfl) rfl) rfl) Su_
    · refine xr_end rfl ?_
      refine th_n ?_
      refine xc_false rfl ?_
      refine xc_exit ?_
      refine th_x ?_
      refine th_x ?_
      refine bk_same ?_
      refine th_n ?_
      refine xc_seq (xc_region ?_)
      obtain rfl : k = xs.length := by (first|omega|(dsimp only at *;omega)|(simp at *;omega))
      have hxy : xs = ys := by rw [List.take_length] at hall; rw [hall, hle, List.take_length]
      refine xr_op rfl rfl (xv_assign rfl ?_)
      refine xr_end rfl ?_
      refine th_n ?_
      refine xc_ret ?_
      refine body_ret (h' := h) rfl (ro_tmp rfl ro_nil) Su_ ?_
      first | (rw [decide_eq_true hxy] at H; exact H) | (rw [decide_eq_false hne] at H; exact H) | (rw [decide_eq_false (fun hq => by subst hq; omega)] at H; exact H)

end Go.Proofs.Ytmaldhbjhomdkaa.Tar

/-
  The document's example: what the walked functions return for the yard of the sample.
-/
set_option linter.all false
namespace Go.Proofs.Ytmaldhbjhomdkaa.Tar
open Go Go.H
set_option maxRecDepth 100000
section
variable {bs o1 o2 bt bl bp : Nat} {h : Hp} {R : Ending → Hp → Prop}
theorem aPlan (h1 : sH bs o1 o2 bt bl ⊆ h) (H : ∀ a c q, SlV q 1 eI a [2, 1] → R (.returned (.tuple ⟨[.slice a 2 c, I 50, I 0]⟩)) (q ++ h)) :
    ACalls Try.prog 9 ⟨[.agg ⟨eYard (sY bs o1 o2 bt bl)⟩]⟩ h R := by
  refine Plan_c (sYV h1) sSmall (fun hn => (hn sGood).elim) (fun _ a c q hs => ?_)
  rw [sBest] at hs ⊢
  exact H a c q hs
theorem IntsT_c {a a2 : Option Addr} {c c2 : Nat} {xs : List Int} (hs : SlV h 1 eI a xs) (hs2 : SlV h 1 eI a2 xs) (hl : xs.length ≤ 1000000) (H : R (.returned (.bool true)) h) :
    ACalls Try.prog 15 ⟨[.slice a xs.length c, .slice a2 xs.length c2]⟩ h R := Ints_c hs hs2 hl (by omega) (by rw [decide_eq_true rfl]; exact H)
end
end Go.Proofs.Ytmaldhbjhomdkaa.Tar

/-
  Walks.
-/
namespace Go.Proofs.Ytmaldhbjhomdkaa.Tar
open Go Go.H
set_option maxRecDepth 100000
set_option maxHeartbeats 8000000
set_option linter.all false
end Go.Proofs.Ytmaldhbjhomdkaa.Tar

/-
  Carts whose order is turned; what the laws ask of carts.
-/
set_option linter.all false
namespace Go.Proofs.Ytmaldhbjhomdkaa.Tar
open Go Go.H
set_option maxRecDepth 100000
section
variable {h : Hp} {R : Ending → Hp → Prop}
end
end Go.Proofs.Ytmaldhbjhomdkaa.Tar

/-
  Plain facts for the reference's functions.
-/
set_option linter.all false
namespace Go.Proofs.Ytmaldhbjhomdkaa.Tar
open Go Go.H
theorem take_allS {α : Type} {P : α → Prop} {l : List α} {k : Nat} {x : α} (h : l[k]? = some x) (h1 : ∀ y ∈ l.take k, P y) (h2 : P x) : ∀ y ∈ l.take (k + 1), P y := by
  rw [List.take_add_one, h]
  intro y hy
  rcases List.mem_append.1 hy with hy | hy
  · exact h1 y hy
  · simp at hy; subst hy; exact h2
end Go.Proofs.Ytmaldhbjhomdkaa.Tar

/-
  Yards, carts and lists of numbers, as a law's arguments read.
-/
set_option linter.all false
namespace Go.Proofs.Ytmaldhbjhomdkaa.Tar
open Go Go.H
set_option maxRecDepth 100000
section
variable {H : Type} {enc : TypeId × Value → H} {w : World} {sp : Nat → Bool} {held : Bool}
theorem cells3 : Try.prog.cellsOf 3 = 1 := by kernel_rfl
theorem cells22 : Try.prog.cellsOf 26 = 1 := by kernel_rfl
theorem cells23 : Try.prog.cellsOf 27 = 1 := by kernel_rfl
theorem cells24 : Try.prog.cellsOf 28 = 1 := by kernel_rfl
theorem cells35 : Try.prog.cellsOf 35 = 1 := by kernel_rfl
theorem cells26 : Try.prog.cellsOf 30 = 3 := by kernel_rfl
theorem cells41 : Try.prog.cellsOf 42 = 2 := by kernel_rfl
theorem cells48 : Try.prog.cellsOf 37 = 5 := by kernel_rfl
theorem cells51 : Try.prog.cellsOf 59 = 3 := by kernel_rfl
theorem open_i {n : Nat} {l : List Value} {y : DataW H × List MemPlace} (h : DataW.trod enc Try.prog w 0 sp held n 3 l = some y) : ∃ i : Int, l = [I i] := by
  obtain ⟨i, e, _⟩ := open_num Try.underlying3 h
  exact ⟨i, e⟩
theorem open_span (n : Nat) (l : List Value) (y : DataW H × List MemPlace) (h : DataW.trod enc Try.prog w 0 sp held n 42 l = some y) : ∃ x, l = eSpan x := by
  obtain ⟨hl, hf⟩ := trod_struct_open Try.underlying42 h
  rw [cells41] at hl
  obtain ⟨a, b, rfl⟩ := list2 hl
  obtain ⟨_, _, h1⟩ := hf _ (List.mem_cons_self)
  obtain ⟨_, _, h2⟩ := hf _ (List.mem_cons_of_mem _ List.mem_cons_self)
  simp only [cells3] at h1 h2
  obtain ⟨a, e1⟩ := open_i h1
  obtain ⟨b, e2⟩ := open_i h2
  cases e1; cases e2
  exact ⟨⟨a, b⟩, rfl⟩
theorem open_sale (n : Nat) (l : List Value) (y : DataW H × List MemPlace) (h : DataW.trod enc Try.prog w 0 sp held n 59 l = some y) : ∃ x, l = eSale x := by
  obtain ⟨hl, hf⟩ := trod_struct_open Try.underlying59 h
  rw [cells51] at hl
  obtain ⟨a, b, c, rfl⟩ := list3 hl
  obtain ⟨_, _, h1⟩ := hf _ (List.mem_cons_self)
  obtain ⟨_, _, h2⟩ := hf _ (List.mem_cons_of_mem _ List.mem_cons_self)
  obtain ⟨_, _, h3⟩ := hf _ (List.mem_cons_of_mem _ (List.mem_cons_of_mem _ List.mem_cons_self))
  simp only [cells3] at h1 h2 h3
  obtain ⟨a, e1⟩ := open_i h1
  obtain ⟨b, e2⟩ := open_i h2
  obtain ⟨c, e3⟩ := open_i h3
  cases e1; cases e2; cases e3
  exact ⟨⟨a, b, c⟩, rfl⟩
def StillV (h : Hp) := { x : Still // SlV h 2 eSpan x.oa x.out }
theorem open_still (n : Nat) (l : List Value) (y : DataW H × List MemPlace) (h : DataW.trod enc Try.prog w 0 sp held n 37 l = some y) : ∃ x : StillV (full w), l = eStill x.1 := by
  obtain ⟨hl, hf⟩ := trod_struct_open Try.underlying37 h
  rw [cells48] at hl
  obtain ⟨a, b, c, d, e, rfl⟩ := list5 hl
  obtain ⟨_, _, h1⟩ := hf _ (List.mem_cons_self)
  obtain ⟨_, _, h2⟩ := hf _ (List.mem_cons_of_mem _ List.mem_cons_self)
  obtain ⟨_, _, h3⟩ := hf _ (List.mem_cons_of_mem _ (List.mem_cons_of_mem _ List.mem_cons_self))
  obtain ⟨_, _, h4⟩ := hf _ (List.mem_cons_of_mem _ (List.mem_cons_of_mem _ (List.mem_cons_of_mem _ List.mem_cons_self)))
  obtain ⟨_, _, h5⟩ := hf _ (List.mem_cons_of_mem _ (List.mem_cons_of_mem _ (List.mem_cons_of_mem _ (List.mem_cons_of_mem _ List.mem_cons_self))))
  simp only [cells3, cells35] at h1 h2 h3 h4 h5
  obtain ⟨a, e1⟩ := open_i h1
  obtain ⟨b, e2⟩ := open_i h2
  obtain ⟨d, e4⟩ := open_i h4
  obtain ⟨e, e5⟩ := open_i h5
  obtain ⟨ad, c, xs, e3, _, hx⟩ := open_slv Try.underlying35 cells41 (by decide) open_span h3
  cases e1; cases e2; cases e3; cases e4; cases e5
  exact ⟨⟨⟨a, b, ad, c, xs, d, e⟩, hx⟩, rfl⟩
theorem open_int1 (n : Nat) (l : List Value) (y : DataW H × List MemPlace) (h : DataW.trod enc Try.prog w 0 sp held n 3 l = some y) : ∃ x : Int, l = eI (id x) := open_i h
variable {v : Value} {d : DataW H} {ps : List MemPlace} {r : Reach} {b : Nat}
theorem open_yard (hv : Value.okWide Try.prog w r b 30 v) (h : DataW.Trod enc Try.prog w 0 sp held 30 v d ps) : ∃ y : Yard, v = .agg ⟨eYard y⟩ ∧ YardV (full w) y ∧ y.stock.length ≤ 9223372036854775807 ∧ y.stills.length ≤ 9223372036854775807 ∧ y.sales.length ≤ 9223372036854775807 := by
  obtain ⟨n, hn⟩ := h
  unfold Value.okWide at hv
  rw [Try.underlying30] at hv
  obtain ⟨⟨cs⟩, rfl, _, _⟩ := hv
  obtain ⟨hl, hf⟩ := trod_struct_open Try.underlying30 hn
  rw [cells26] at hl
  obtain ⟨c0, c1, c2, rfl⟩ := list3 hl
  obtain ⟨_, _, h1⟩ := hf _ (List.mem_cons_self)
  obtain ⟨_, _, h2⟩ := hf _ (List.mem_cons_of_mem _ List.mem_cons_self)
  obtain ⟨_, _, h3⟩ := hf _ (List.mem_cons_of_mem _ (List.mem_cons_of_mem _ List.mem_cons_self))
  simp only [cells22, cells23, cells24] at h1 h2 h3
  obtain ⟨sa, sc, ss, e1, l1, q1⟩ := open_slv (en := eI) Try.underlying26 cells3 (by decide) open_int1 h1
  obtain ⟨ta, tc, ts, e2, l2, q2⟩ := open_slv (en := fun x : StillV (full w) => eStill x.1) Try.underlying27 cells48 (by decide) open_still h2
  obtain ⟨la, lc, ls, e3, l3, q3⟩ := open_slv Try.underlying28 cells51 (by decide) open_sale h3
  cases e1; cases e2; cases e3
  refine ⟨⟨sa, sc, ss, ta, tc, ts.map (fun x => x.1), la, lc, ls⟩, by simp only [eYard, List.length_map], ⟨q1, q2.map (f := fun x : StillV (full w) => x.1), q3, fun x hx => ?_⟩, l1, by simpa using l2, l3⟩
  obtain ⟨z, _, rfl⟩ := List.mem_map.1 hx
  exact z.2
end
end Go.Proofs.Ytmaldhbjhomdkaa.Tar
