/-
  The account of divisions, cell by cell; how the program counts them.
-/
import Derived.Test.YtlcdbjgfeoagbaaV6
import Derived.Test.YtlcdbjgfeoagbaaHG
import Derived.Test.YtlcdbjgfeoagbaaP8
set_option linter.all false
namespace Go.Proofs.Ytlcdbjgfeoagbaa
open Go Go.H
def n5 (n : List Int) : List Value := [I (n.getD 0 0), I (n.getD 1 0), I (n.getD 2 0), I (n.getD 3 0), I (n.getD 4 0)]
theorem n5_get {n : List Int} : ∀ {k : Nat}, k < 5 → (n5 n)[k]? = some (I (n.getD k 0))
  | 0, _ => rfl
  | 1, _ => rfl
  | 2, _ => rfl
  | 3, _ => rfl
  | 4, _ => rfl
  | k + 5, h => by omega
theorem getD_snoc {b : List Int} {y : Int} {j : Nat} : (b ++ [y]).getD j 0 = if j = b.length then y else b.getD j 0 := by
  by_cases h : j < b.length
  · rw [if_neg (by omega), getD_app h]
  · by_cases e : j = b.length
    · subst e; rw [if_pos rfl, getD_at]
    · rw [if_neg e, List.getD_eq_getElem?_getD, List.getD_eq_getElem?_getD, List.getElem?_eq_none (by simp; omega), List.getElem?_eq_none (by omega)]
theorem n5_snoc {b : List Int} (h : b.length < 5) : n5 (b ++ [0]) = n5 b := by
  have e : ∀ j, (b ++ [(0 : Int)]).getD j 0 = b.getD j 0 := fun j => by
    rw [getD_snoc]
    split
    · rename_i h9; subst h9; rw [List.getD_eq_getElem?_getD, List.getElem?_eq_none (Nat.le_refl _)]; rfl
    · rfl
  unfold n5
  rw [e, e, e, e, e]
theorem n5_set {b : List Int} {y i : Int} (h : b.length < 5) : (n5 (b ++ [y])).set b.length (I i) = n5 (b ++ [i]) := by
  obtain ⟨q, hq⟩ : ∃ q, q = b.length := ⟨_, rfl⟩
  unfold n5
  simp only [getD_snoc, ← hq]
  rw [← hq] at h
  match q, h with
  | 0, _ => rfl
  | 1, _ => rfl
  | 2, _ => rfl
  | 3, _ => rfl
  | 4, _ => rfl
def accK (s : Slot) (L : List (List Int)) (n : List Int) (k j : Nat) : Span := if j < k then accC (L ++ [n]) j else accC L j
def accN (s : Slot) (L : List (List Int)) (n : List Int) (f : Bool) (k : Nat) (z : Span) : List Value :=
  [.bool f, I (accK s L n k 0).lo, I (accK s L n k 0).hi, I (accK s L n k 1).lo, I (accK s L n k 1).hi, I (accK s L n k 2).lo, I (accK s L n k 2).hi, I (accK s L n k 3).lo, I (accK s L n k 3).hi, I (accK s L n k 4).lo, I (accK s L n k 4).hi, I z.lo, I z.hi]
theorem acc_0 {s : Slot} {L : List (List Int)} {n : List Int} : eAcc s L = accN s L n (!L.isEmpty) 0 (accB s L) := rfl
theorem acc_5 {s : Slot} {L : List (List Int)} {n : List Int} : accN s L n true 5 (accB s (L ++ [n])) = eAcc s (L ++ [n]) := by
  have e : (L ++ [n]).isEmpty = false := by cases L <;> rfl
  unfold eAcc
  rw [e]; rfl
theorem acc_get {s : Slot} {L : List (List Int)} {n : List Int} {f : Bool} {z : Span} : ∀ {k : Nat}, k < 5 → ((accN s L n f k z).drop (1 + k * 2)).take 2 = eSpan (accC L k)
  | 0, _ => rfl
  | 1, _ => rfl
  | 2, _ => rfl
  | 3, _ => rfl
  | 4, _ => rfl
  | k + 5, h => by omega
theorem acc_put {s : Slot} {L : List (List Int)} {n : List Int} {f : Bool} {z : Span} : ∀ {k : Nat}, k < 5 → splice (accN s L n f k z) (1 + k * 2) (eSpan (accC (L ++ [n]) k)) = accN s L n f (k + 1) z
  | 0, _ => rfl
  | 1, _ => rfl
  | 2, _ => rfl
  | 3, _ => rfl
  | 4, _ => rfl
  | k + 5, h => by omega
def widenA (x : Span) (n : Int) (first : Bool) : Span := if first then ⟨n, n⟩ else ⟨min x.lo n, max x.hi n⟩
theorem widen_C {L : List (List Int)} {n : List Int} {k : Nat} : widenA (accC L k) (n.getD k 0) (!(!L.isEmpty)) = accC (L ++ [n]) k := by
  cases L with
  | nil => unfold widenA accC; simp [spanL]
  | cons x l => rw [accC_snoc k (by simp)]; rfl
theorem widen_B {s : Slot} {L : List (List Int)} {n : List Int} : widenA (accB s L) (worthN s n n.length) (!(!L.isEmpty)) = accB s (L ++ [n]) := by
  cases L with
  | nil => unfold widenA accB; simp [spanL]
  | cons x l => rw [accB_snoc (by simp)]; rfl
def oneP (s : Slot) (d : Nat) (left has : Int) (b : List Int) (i : Int) : List (List Int) :=
  if fitsB s b.length i has then (match d with
    | 0 => [b ++ [i]]
    | d + 1 => allP s d (b.length + 1) (left - i) (has + i * feetK s b.length) (b ++ [i])) else []
def partP (s : Slot) (d : Nat) (left has : Int) (b : List Int) (i : Int) : List (List Int) := match d with
  | 0 => if i ≤ left then [] else oneP s 0 left has b left
  | d + 1 => (List.range i.toNat).flatMap fun (j : Nat) => oneP s (d + 1) left has b (j : Int)
theorem partP_0 {s : Slot} {left has : Int} {b : List Int} : partP s 0 left has b left = [] := if_pos (Int.le_refl _)
theorem partP_s {s : Slot} {d : Nat} {left has : Int} {b : List Int} (h : 1 ≤ d) : partP s d left has b 0 = [] := by
  obtain ⟨d, rfl⟩ : ∃ e, d = e + 1 := ⟨d - 1, by omega⟩
  rfl
theorem partP_next {s : Slot} {d : Nat} {left has : Int} {b : List Int} {i : Int} (h0 : 0 ≤ i) (h : d = 0 → i = left) : partP s d left has b (i + 1) = partP s d left has b i ++ oneP s d left has b i := by
  cases d with
  | zero =>
    obtain rfl := h rfl
    unfold partP
    rw [if_neg (by omega), if_pos (by omega)]; rfl
  | succ d =>
    show (List.range (i + 1).toNat).flatMap (fun (j : Nat) => oneP s (d + 1) left has b (j : Int)) = (List.range i.toNat).flatMap (fun (j : Nat) => oneP s (d + 1) left has b (j : Int)) ++ oneP s (d + 1) left has b i
    rw [show (i + 1).toNat = i.toNat + 1 by omega, List.range_succ, List.flatMap_append]
    simp only [List.flatMap_cons, List.flatMap_nil, List.append_nil]
    rw [show ((i.toNat : Nat) : Int) = i by omega]
theorem partP_end {s : Slot} {d : Nat} {left has : Int} {b : List Int} (h0 : 0 ≤ left) : partP s d left has b (left + 1) = allP s d b.length left has b := by
  cases d with
  | zero =>
    unfold partP
    rw [if_neg (by omega)]; rfl
  | succ d =>
    unfold partP
    rw [show (left + 1).toNat = left.toNat + 1 by omega]; rfl
theorem oneP_n {s : Slot} {d : Nat} {left has : Int} {b : List Int} {i : Int} (h : fitsB s b.length i has = false) : oneP s d left has b i = [] := by unfold oneP; rw [h]; rfl
theorem oneP_0 {s : Slot} {left has : Int} {b : List Int} {i : Int} (h : fitsB s b.length i has = true) : oneP s 0 left has b i = [b ++ [i]] := by unfold oneP; rw [if_pos h]
theorem oneP_s {s : Slot} {d : Nat} {left has : Int} {b : List Int} {i : Int} (h : fitsB s b.length i has = true) : oneP s (d + 1) left has b i = allP s d (b.length + 1) (left - i) (has + i * feetK s b.length) (b ++ [i]) := by unfold oneP; rw [if_pos h]
theorem acc_get0 {s : Slot} {L : List (List Int)} : ∀ {k : Nat}, k < 5 → ((eAcc s L).drop (1 + k * 2)).take 2 = eSpan (accC L k)
  | 0, _ => rfl
  | 1, _ => rfl
  | 2, _ => rfl
  | 3, _ => rfl
  | 4, _ => rfl
  | k + 5, h => by omega
theorem coins_slv {s : Slot} {h : Hp} {ba : Nat} {fz : Nat × Nat} (hm : (ba, .cells ⟨eAcc s (divsS s)⟩ 81 fz) ∈ h) (h5 : s.tars.length ≤ 5) : SlV h 2 eSpan (some ⟨ba, 1, none⟩) (coinsS s) := by
  refine .inr ⟨ba, 1, _, _, _, rfl, hm, fun i x hx => ?_⟩
  have hi : i < s.tars.length := by
    have := (List.getElem?_eq_some_iff.1 hx).1
    unfold coinsS at this; rw [List.length_map, List.length_range] at this; exact this
  unfold coinsS at hx
  rw [List.getElem?_map, List.getElem?_range hi] at hx
  have hx2 : accC (divsS s) i = x := Option.some.inj hx
  subst hx2
  exact acc_get0 (by omega)
theorem coins_len (s : Slot) : (coinsS s).length = s.tars.length := by unfold coinsS; rw [List.length_map, List.length_range]
theorem errD_0 {s : Slot} (h : errS s = 0) (hd : divsS s ≠ []) : errD s = 0 := by unfold errD; rw [if_pos h, if_neg hd]
theorem errD_6 {s : Slot} (h : errS s = 0) (hd : divsS s = []) : errD s = 6 := by unfold errD; rw [if_pos h, if_pos hd]
theorem errD_e {s : Slot} (h : errS s ≠ 0) : errD s = errS s := by unfold errD; exact if_neg h
theorem errD_errS {s : Slot} (h : errD s = 0) : errS s = 0 := by
  by_cases h0 : errS s = 0
  · exact h0
  · rw [errD_e h0] at h; exact h
structure DivC (C : Hp) (s : Slot) (b1 b5 b8 b9 ba b : Nat) (ma : Option Addr) (mc : Nat) : Prop where
  m1 : (b1, .cells ⟨eSlot s⟩ 25 (0, 0)) ∈ C
  m5 : (b5, .cells ⟨[.pointer (some ⟨b, 0, none⟩)]⟩ 60 (0, 0)) ∈ C
  m8 : (b8, .cells ⟨[.func (.func 58) ⟨[.pointer (some ⟨ba, 0, none⟩)]⟩ ⟨[]⟩]⟩ 100 (0, 0)) ∈ C
  m9 : (b9, .cells ⟨[.func (.func 59) ⟨[]⟩ ⟨[.pointer (some ⟨b1, 0, none⟩), .pointer (some ⟨b5, 0, none⟩), .pointer (some ⟨b8, 0, none⟩), .pointer (some ⟨b9, 0, none⟩)]⟩]⟩ 101 (0, 0)) ∈ C
  mm : (b, .cells ⟨eMet s (.slice ma (dmS s).length mc)⟩ 70 (0, 0)) ∈ C
  dm : SlV C 2 eMark ma (dmS s)
  sl : SlotV C s
theorem DivC.sub {C D : Hp} {s : Slot} {b1 b5 b8 b9 ba b : Nat} {ma : Option Addr} {mc : Nat} (H : DivC C s b1 b5 b8 b9 ba b ma mc) (hs : C ⊆ D) : DivC D s b1 b5 b8 b9 ba b ma mc :=
  ⟨hs H.m1, hs H.m5, hs H.m8, hs H.m9, hs H.mm, H.dm.sub hs, H.sl.sub hs⟩
end Go.Proofs.Ytlcdbjgfeoagbaa

/-
  Walks.
-/
namespace Go.Proofs.Ytlcdbjgfeoagbaa
open Go Go.H
set_option maxRecDepth 100000
set_option maxHeartbeats 8000000
set_option linter.all false
theorem widen_c {x : Span} {n : Int} {f : Bool} {h : Hp} {R : Ending → Hp → Prop} (H : R (.returned (.agg ⟨eSpan (widenA x n f)⟩)) h) : ACalls Try.prog 79 ⟨[.agg ⟨eSpan x⟩, I n, .bool f]⟩ h R := by
  refine calls_of_xc (N := 23) Try.func79 rfl (by rfl) ?_
  refine xc_seq (xc_region ?_)
  refine xr_op rfl rfl (xv_box rfl (fun b3 hb3 => ?_))
  refine xr_op rfl rfl (xv_alloc ty30 (fun b6 hb6 => ?_))
  refine xr_end rfl ?_
  refine th_n ?_
  refine xc_seq ?_
  refine xc_seq (xc_region ?_)
  refine xr_op rfl rfl (xv_loadA ty30 rfl rfl (by ((repeat first|exact z_0|assumption|refine z_1 ?_|(refine z_l ?_;(repeat first|exact z_0|assumption|refine z_1 ?_);done)|refine z_r ?_);done)) (by ((try apply evl_some rfl);(repeat (first|exact (rfl : _ = [])|apply evl_cons rfl (by (first|exact v_1|exact v_2|exact v_3|exact v_4|exact v_5|exact v_6|exact v_7|exact v_8|exact v_9|exact rfl))|exact rfl)))) (by rfl) ?_)
  refine xr_op rfl rfl (xv_alloc ty29 (fun b7 hb7 => ?_))
  refine xr_op rfl rfl (xv_s ty29 rfl rfl (by (first|(apply u_3;(repeat first|exact u_0|assumption|apply u_1|apply u_2);done)|((repeat first|exact u_0|assumption|apply u_1|apply u_2);done)|(apply u_3;apply u_3;(repeat first|exact u_0|assumption|apply u_1|apply u_2);done)|((repeat first|exact u_0|assumption|apply u_3|apply u_1);done))) (by ((try apply evl_some rfl);(repeat (first|exact (rfl : _ = [])|apply evl_cons rfl (by (first|exact v_1|exact v_2|exact v_3|exact v_4|exact v_5|exact v_6|exact v_7|exact v_8|exact v_9|exact rfl))|exact rfl)))) (by rfl) (by rfl) (by rfl) (by ((try apply evl_some rfl);(repeat (first|exact (rfl : _ = [])|apply evl_cons rfl (by (first|exact v_1|exact v_2|exact v_3|exact v_4|exact v_5|exact v_6|exact v_7|exact v_8|exact v_9|exact rfl))|exact rfl)))) ?_)
  refine xr_end rfl ?_
  refine th_n ?_
  refine xc_seq (xc_region ?_)
  cases f
  · refine xr_op rfl rfl (xv_move rfl ?_)
    refine xr_op rfl rfl (xv_not rfl ?_)
    refine xr_end rfl ?_
    refine th_n ?_
    refine xc_true rfl ?_
    refine xc_seq (xc_region ?_)
    refine xr_op rfl rfl (xv_faddr fl29_0 rfl ?_)
    refine xr_op rfl rfl (xv_load1 ty3 rfl rfl (by ((repeat first|exact z_0|assumption|refine z_1 ?_|(refine z_l ?_;(repeat first|exact z_0|assumption|refine z_1 ?_);done)|refine z_r ?_);done)) (by rfl) ?_)
    refine xr_op rfl rfl (xv_move rfl ?_)
    refine xr_op rfl rfl (xv_min rfl rfl rfl ?_)
    refine xr_op rfl rfl (xv_faddr fl29_1 rfl ?_)
    refine xr_op rfl rfl (xv_load1 ty3 rfl rfl (by ((repeat first|exact z_0|assumption|refine z_1 ?_|(refine z_l ?_;(repeat first|exact z_0|assumption|refine z_1 ?_);done)|refine z_r ?_);done)) (by rfl) ?_)
    refine xr_op rfl rfl (xv_move rfl ?_)
    refine xr_op rfl rfl (xv_max rfl rfl rfl ?_)
    refine xr_op rfl rfl (xv_build bt29 rfl (by ((try apply evl_some rfl);(repeat (first|exact (rfl : _ = [])|apply evl_cons rfl (by (first|exact v_1|exact v_2|exact v_3|exact v_4|exact v_5|exact v_6|exact v_7|exact v_8|exact v_9|exact rfl))|exact rfl)))) ?_)
    refine xr_op rfl rfl (xv_s ty30 rfl rfl (by (first|(apply u_3;(repeat first|exact u_0|assumption|apply u_1|apply u_2);done)|((repeat first|exact u_0|assumption|apply u_1|apply u_2);done)|(apply u_3;apply u_3;(repeat first|exact u_0|assumption|apply u_1|apply u_2);done)|((repeat first|exact u_0|assumption|apply u_3|apply u_1);done))) (by ((try apply evl_some rfl);(repeat (first|exact (rfl : _ = [])|apply evl_cons rfl (by (first|exact v_1|exact v_2|exact v_3|exact v_4|exact v_5|exact v_6|exact v_7|exact v_8|exact v_9|exact rfl))|exact rfl)))) (by rfl) (by rfl) (by rfl) (by ((try apply evl_some rfl);(repeat (first|exact (rfl : _ = [])|apply evl_cons rfl (by (first|exact v_1|exact v_2|exact v_3|exact v_4|exact v_5|exact v_6|exact v_7|exact v_8|exact v_9|exact rfl))|exact rfl)))) ?_)
    refine xr_end rfl ?_
    refine th_n ?_
    refine xc_ret ?_
    refine th_r ?_
    refine body_ret (h' := h) rfl (ro_cellA ty30 rfl rfl (by ((repeat first|exact z_0|assumption|refine z_1 ?_|(refine z_l ?_;(repeat first|exact z_0|assumption|refine z_1 ?_);done)|refine z_r ?_);done)) (by rfl) (by rfl) ro_nil) (by (first|((repeat first|exact s_0|exact s_1|exact s_3|refine s_4 ?_|refine s_5 ?_|refine s_6 ?_|refine s_7 ?_);done)|((repeat first|exact s_0|exact s_1|exact s_3|refine s_4 ?_|refine s_5 ?_|refine s_6 ?_|refine s_8 ?_);done))) ?_
    exact H
  · refine xr_op rfl rfl (xv_move rfl ?_)
    refine xr_op rfl rfl (xv_not rfl ?_)
    refine xr_end rfl ?_
    refine th_n ?_
    refine xc_false rfl ?_
    refine xc_skip ?_
    refine th_n ?_
    refine xc_seq (xc_region ?_)
    refine xr_op rfl rfl (xv_move rfl ?_)
    refine xr_op rfl rfl (xv_move rfl ?_)
    refine xr_op rfl rfl (xv_build bt29 rfl (by ((try apply evl_some rfl);(repeat (first|exact (rfl : _ = [])|apply evl_cons rfl (by (first|exact v_1|exact v_2|exact v_3|exact v_4|exact v_5|exact v_6|exact v_7|exact v_8|exact v_9|exact rfl))|exact rfl)))) ?_)
    refine xr_op rfl rfl (xv_s ty30 rfl rfl (by (first|(apply u_3;(repeat first|exact u_0|assumption|apply u_1|apply u_2);done)|((repeat first|exact u_0|assumption|apply u_1|apply u_2);done)|(apply u_3;apply u_3;(repeat first|exact u_0|assumption|apply u_1|apply u_2);done)|((repeat first|exact u_0|assumption|apply u_3|apply u_1);done))) (by ((try apply evl_some rfl);(repeat (first|exact (rfl : _ = [])|apply evl_cons rfl (by (first|exact v_1|exact v_2|exact v_3|exact v_4|exact v_5|exact v_6|exact v_7|exact v_8|exact v_9|exact rfl))|exact rfl)))) (by rfl) (by rfl) (by rfl) (by ((try apply evl_some rfl);(repeat (first|exact (rfl : _ = [])|apply evl_cons rfl (by (first|exact v_1|exact v_2|exact v_3|exact v_4|exact v_5|exact v_6|exact v_7|exact v_8|exact v_9|exact rfl))|exact rfl)))) ?_)
    refine xr_end rfl ?_
    refine th_n ?_
    refine xc_ret ?_
    refine body_ret (h' := h) rfl (ro_cellA ty30 rfl rfl (by ((repeat first|exact z_0|assumption|refine z_1 ?_|(refine z_l ?_;(repeat first|exact z_0|assumption|refine z_1 ?_);done)|refine z_r ?_);done)) (by rfl) (by rfl) ro_nil) (by (first|((repeat first|exact s_0|exact s_1|exact s_3|refine s_4 ?_|refine s_5 ?_|refine s_6 ?_|refine s_7 ?_);done)|((repeat first|exact s_0|exact s_1|exact s_3|refine s_4 ?_|refine s_5 ?_|refine s_6 ?_|refine s_8 ?_);done))) ?_
    exact H

theorem add_c {s : Slot} {L : List (List Int)} {n : List Int} {ba : Nat} {bo : Int} {h : Hp} {R : Ending → Hp → Prop} (hbo : bo = worthN s n n.length) (H : R (.returned (.tuple #[])) ((ba, .cells ⟨eAcc s (L ++ [n])⟩ 81) :: h)) :
    ACalls Try.prog 58 ⟨[.pointer (some ⟨ba, 0, none⟩), .agg ⟨n5 n⟩, I bo]⟩ ((ba, .cells ⟨eAcc s L⟩ 81) :: h) R := by
  subst hbo
  rw [acc_0 (n := n)]
  refine calls_of_xc (N := 48) Try.func58 rfl (by rfl) ?_
  refine xc_seq (xc_region ?_)
  refine xr_op rfl rfl (xv_box rfl (fun b4 hb4 => ?_))
  refine xr_end rfl ?_
  refine th_n ?_
  refine xc_seq ?_
  refine xc_seq (xc_region ?_)
  refine xr_op rfl rfl (xv_move rfl ?_)
  refine xr_end rfl ?_
  refine th_n ?_
  refine xc_block ?_
  refine xc_loop (σ := Nat) (fun k => k ≤ 5) (fun k => ((((emp.put (some 0) (.pointer (some ⟨ba, 0, none⟩))).put (some 2) (I (worthN s n n.length))).put (some 4) (.pointer (some ⟨b4, 0, none⟩))).put (some 7) (I k))) (fun k => ((b4, .cells ⟨n5 n⟩ 103) :: (ba, .cells ⟨accN s L n (!L.isEmpty) k (accB s L)⟩ 81) :: h)) (fun k => 5 - k) 0 (Nat.zero_le _) (le_put (le_put (le_put (le_put (le_emp _) rfl) rfl) rfl) rfl) (by (first|((repeat first|exact s_0|exact s_1|exact s_3|refine s_4 ?_|refine s_5 ?_|refine s_6 ?_|refine s_7 ?_);done)|((repeat first|exact s_0|exact s_1|exact s_3|refine s_4 ?_|refine s_5 ?_|refine s_6 ?_|refine s_8 ?_);done))) ?_
  rintro k hk
  refine xc_seq (xc_region ?_)
  refine xr_op rfl rfl (xv_lss2 rfl rfl (fun q1 => ?_) (fun q1 => ?_))
  · refine xr_end rfl ?_
    refine th_n ?_
    refine xc_seq ?_
    refine xc_true rfl ?_
    refine xc_skip ?_
    refine th_n ?_
    refine xc_seq ?_
    refine xc_block ?_
    refine xc_seq (xc_region ?_)
    refine xr_op rfl rfl (xv_move rfl ?_)
    refine xr_op rfl rfl (xv_assign rfl ?_)
    refine xr_end rfl ?_
    refine th_n ?_
    refine xc_draw0 [(0, .S), (1, .S), (2, .S), (3, .S), (4, .S), (5, .S), (6, .S), (7, .R), (8, .S), (9, .S), (10, .R), (11, .S), (12, .S), (13, .S), (14, .R), (15, .S), (16, .R), (17, .S), (18, .S), (19, .S), (20, .O)] mixed (by kernel_rfl) ?_
    refine js_S rfl rfl (.inl rfl) (xv_move rfl ⟨rfl, rfl⟩) ?_
    refine js_S rfl rfl (.inl rfl) (xv_move rfl ⟨rfl, rfl⟩) ?_
    refine js_S rfl rfl (.inl rfl) (xv_move rfl ⟨rfl, rfl⟩) ?_
    refine js_S rfl rfl (.inl rfl) (xv_move rfl ⟨rfl, rfl⟩) ?_
    refine js_S rfl rfl (.inl rfl) (xv_nilp rfl ⟨rfl, rfl⟩) ?_
    refine js_S rfl rfl (.inl rfl) (xv_faddr fl81_1 rfl ⟨rfl, rfl⟩) ?_
    refine js_S rfl rfl (.inl rfl) (xv_iaA (sz := 2) (j := k) Try.underlying79 ty30 rfl rfl rfl (by (first | assumption | with_reducible exact Int.toNat_natCast _ | with_reducible rfl | rfl)) (by (first|omega|(dsimp only at *;omega)|(simp at *;omega))) (by (first|omega|(dsimp only at *;omega)|(simp at *;omega))) ⟨rfl, rfl⟩) ?_
    refine js_R0 rfl rfl (.inl rfl) (xv_loadA (l' := eSpan (accC L k)) ty30 rfl rfl (by ((repeat first|exact z_0|assumption|refine z_1 ?_|(refine z_l ?_;(repeat first|exact z_0|assumption|refine z_1 ?_);done)|refine z_r ?_);done)) (by rw [Nat.zero_add]; exact acc_get (by (first|omega|(dsimp only at *;omega)|(simp at *;omega)))) rfl ⟨rfl, rfl⟩) ?_
    refine js_S rfl rfl (.inl rfl) (xv_move rfl ⟨rfl, rfl⟩) ?_
    refine js_S rfl rfl (.inl rfl) (xv_iaA (sz := 1) (j := k) Try.underlying103 ty3 rfl rfl rfl (by (first | assumption | with_reducible exact Int.toNat_natCast _ | with_reducible rfl | rfl)) (by (first|omega|(dsimp only at *;omega)|(simp at *;omega))) (by (first|omega|(dsimp only at *;omega)|(simp at *;omega))) ⟨rfl, rfl⟩) ?_
    refine js_R0 rfl rfl (.inl rfl) (xv_load1 ty3 rfl rfl (by ((repeat first|exact z_0|assumption|refine z_1 ?_|(refine z_l ?_;(repeat first|exact z_0|assumption|refine z_1 ?_);done)|refine z_r ?_);done)) (by rw [Nat.zero_add, Nat.mul_one]; exact n5_get (by (first|omega|(dsimp only at *;omega)|(simp at *;omega)))) ⟨rfl, rfl⟩) ?_
    refine js_S rfl rfl (.inl rfl) (xv_move rfl ⟨rfl, rfl⟩) ?_
    refine js_S rfl rfl (.inl rfl) (xv_nilp rfl ⟨rfl, rfl⟩) ?_
    refine js_S rfl rfl (.inl rfl) (xv_faddr fl81_0 rfl ⟨rfl, rfl⟩) ?_
    refine js_R0 rfl rfl (.inl rfl) (xv_load1 ty4 rfl rfl (by ((repeat first|exact z_0|assumption|refine z_1 ?_|(refine z_l ?_;(repeat first|exact z_0|assumption|refine z_1 ?_);done)|refine z_r ?_);done)) (by rfl) ⟨rfl, rfl⟩) ?_
    refine js_S rfl rfl (.inl rfl) (xv_not rfl ⟨rfl, rfl⟩) ?_
    refine js_R0 rfl rfl (.inl rfl) (xv_calls rfl hb79 (widen_c (up_ret ⟨rfl, rfl⟩))) ?_
    refine js_S rfl rfl (.inl rfl) (xv_nilp rfl ⟨rfl, rfl⟩) ?_
    refine js_S rfl rfl (.inl rfl) (xv_faddr fl81_1 rfl ⟨rfl, rfl⟩) ?_
    refine js_S rfl rfl (.inl rfl) (xv_iaA (sz := 2) (j := k) Try.underlying79 ty30 rfl rfl rfl (by (first | assumption | with_reducible exact Int.toNat_natCast _ | with_reducible rfl | rfl)) (by (first|omega|(dsimp only at *;omega)|(simp at *;omega))) (by (first|omega|(dsimp only at *;omega)|(simp at *;omega))) ⟨rfl, rfl⟩) ?_
    refine js_O0 rfl rfl (.inl rfl) (xv_s (l' := accN s L n (!L.isEmpty) (k + 1) (accB s L)) ty30 rfl rfl (by (first|(apply u_3;(repeat first|exact u_0|assumption|apply u_1|apply u_2);done)|((repeat first|exact u_0|assumption|apply u_1|apply u_2);done)|(apply u_3;apply u_3;(repeat first|exact u_0|assumption|apply u_1|apply u_2);done)|((repeat first|exact u_0|assumption|apply u_3|apply u_1);done))) rfl rfl rfl (Nat.ble_eq_true_of_le (by show 0 + 1 + k * 2 + 2 ≤ 13; omega)) (by rw [Nat.zero_add, widen_C]; exact acc_put (by (first|omega|(dsimp only at *;omega)|(simp at *;omega)))) ?_)
    refine j_end0 ?_
    refine bk_n ?_
    refine th_n ?_
    refine xc_region ?_
    refine xr_op rfl rfl (xv_add rfl rfl (wrap_i64 (by (first|omega|(dsimp only at *;omega)|(simp at *;omega))) (by (first|omega|(dsimp only at *;omega)|(simp at *;omega)))) ?_)
    refine xr_op rfl rfl (xv_move rfl ?_)
    refine xr_end rfl ?_
    exact rnd (k + 1) (by (first|omega|(dsimp only at *;omega)|(simp at *;omega))) (by (first|omega|(dsimp only at *;omega)|(simp at *;omega))) (le_put (le_put (le_put (le_put (le_emp _) rfl) rfl) rfl) rfl) (by (first|((repeat first|exact s_0|exact s_1|exact s_3|refine s_4 ?_|refine s_5 ?_|refine s_6 ?_|refine s_7 ?_);done)|((repeat first|exact s_0|exact s_1|exact s_3|refine s_4 ?_|refine s_5 ?_|refine s_6 ?_|refine s_8 ?_);done)))
  · refine xr_end rfl ?_
    refine th_n ?_
    refine xc_seq ?_
    refine xc_false rfl ?_
    refine xc_exit ?_
    refine th_x ?_
    refine th_x ?_
    refine bk_same ?_
    refine th_n ?_
    refine xc_seq ?_
    refine xc_draw0 [(0, .S), (1, .S), (2, .S), (3, .S), (4, .R), (5, .S), (6, .S), (7, .S), (8, .S), (9, .R), (10, .S), (11, .R), (12, .S), (13, .S), (14, .O)] mixed (by kernel_rfl) ?_
    obtain rfl : k = 5 := by (first|omega|(dsimp only at *;omega)|(simp at *;omega))
    refine js_S rfl rfl (.inl rfl) (xv_move rfl ⟨rfl, rfl⟩) ?_
    refine js_S rfl rfl (.inl rfl) (xv_move rfl ⟨rfl, rfl⟩) ?_
    refine js_S rfl rfl (.inl rfl) (xv_nilp rfl ⟨rfl, rfl⟩) ?_
    refine js_S rfl rfl (.inl rfl) (xv_faddr fl81_2 rfl ⟨rfl, rfl⟩) ?_
    refine js_R0 rfl rfl (.inl rfl) (xv_loadA ty30 rfl rfl (by ((repeat first|exact z_0|assumption|refine z_1 ?_|(refine z_l ?_;(repeat first|exact z_0|assumption|refine z_1 ?_);done)|refine z_r ?_);done)) (by ((try apply evl_some rfl);(repeat (first|exact (rfl : _ = [])|apply evl_cons rfl (by (first|exact v_1|exact v_2|exact v_3|exact v_4|exact v_5|exact v_6|exact v_7|exact v_8|exact v_9|exact rfl))|exact rfl)))) (by rfl) ⟨rfl, rfl⟩) ?_
    refine js_S rfl rfl (.inl rfl) (xv_move rfl ⟨rfl, rfl⟩) ?_
    refine js_S rfl rfl (.inl rfl) (xv_move rfl ⟨rfl, rfl⟩) ?_
    refine js_S rfl rfl (.inl rfl) (xv_nilp rfl ⟨rfl, rfl⟩) ?_
    refine js_S rfl rfl (.inl rfl) (xv_faddr fl81_0 rfl ⟨rfl, rfl⟩) ?_
    refine js_R0 rfl rfl (.inl rfl) (xv_load1 ty4 rfl rfl (by ((repeat first|exact z_0|assumption|refine z_1 ?_|(refine z_l ?_;(repeat first|exact z_0|assumption|refine z_1 ?_);done)|refine z_r ?_);done)) (by rfl) ⟨rfl, rfl⟩) ?_
    refine js_S rfl rfl (.inl rfl) (xv_not rfl ⟨rfl, rfl⟩) ?_
    refine js_R0 rfl rfl (.inl rfl) (xv_calls rfl hb79 (widen_c (up_ret ⟨rfl, rfl⟩))) ?_
    refine js_S rfl rfl (.inl rfl) (xv_nilp rfl ⟨rfl, rfl⟩) ?_
    refine js_S rfl rfl (.inl rfl) (xv_faddr fl81_2 rfl ⟨rfl, rfl⟩) ?_
    refine js_O0 rfl rfl (.inl rfl) (xv_s (l' := accN s L n (!L.isEmpty) 5 (accB s (L ++ [n]))) ty30 rfl rfl (by (first|(apply u_3;(repeat first|exact u_0|assumption|apply u_1|apply u_2);done)|((repeat first|exact u_0|assumption|apply u_1|apply u_2);done)|(apply u_3;apply u_3;(repeat first|exact u_0|assumption|apply u_1|apply u_2);done)|((repeat first|exact u_0|assumption|apply u_3|apply u_1);done))) rfl rfl rfl rfl (by rw [widen_B]; rfl) ?_)
    refine j_end0 ?_
    refine th_n ?_
    refine xc_region ?_
    refine xr_op rfl rfl (xv_move rfl ?_)
    refine xr_op rfl rfl (xv_nilp rfl ?_)
    refine xr_op rfl rfl (xv_faddr fl81_0 rfl ?_)
    refine xr_op rfl rfl (xv_s1 (l' := accN s L n true 5 (accB s (L ++ [n]))) ty4 rfl rfl rfl (by (first|(apply u_3;(repeat first|exact u_0|assumption|apply u_1|apply u_2);done)|((repeat first|exact u_0|assumption|apply u_1|apply u_2);done)|(apply u_3;apply u_3;(repeat first|exact u_0|assumption|apply u_1|apply u_2);done)|((repeat first|exact u_0|assumption|apply u_3|apply u_1);done))) rfl (by show 0 < 13; decide) rfl ?_)
    refine xr_end rfl ?_
    refine body_end (h' := ((ba, .cells ⟨accN s L n true 5 (accB s (L ++ [n]))⟩ 81) :: h)) rfl ro_nil (by (first|((repeat first|exact s_0|exact s_1|exact s_3|refine s_4 ?_|refine s_5 ?_|refine s_6 ?_|refine s_7 ?_);done)|((repeat first|exact s_0|exact s_1|exact s_3|refine s_4 ?_|refine s_5 ?_|refine s_6 ?_|refine s_8 ?_);done))) ?_
    (rw [← acc_5] at H; exact H)

end Go.Proofs.Ytlcdbjgfeoagbaa

/-
  Walks.
-/
namespace Go.Proofs.Ytlcdbjgfeoagbaa
open Go Go.H
set_option maxRecDepth 100000
set_option maxHeartbeats 8000000
set_option linter.all false
theorem fits2_c {s : Slot} {b : Nat} {ma : Option Addr} {mc : Nat} {h : Hp} {R : Ending → Hp → Prop} (hm : (b, .cells ⟨eMet s (.slice ma (dmS s).length mc)⟩ 70 (0, 0)) ∈ h) (hd : SlV h 2 eMark ma (dmS s)) (hs : SlotV h s) (hsm : Small s) (he : errS s = 0) {kt : Nat} {k : Int} {pen has : Int} (ek : k = kt) (hk : kt < s.tars.length) (hp : 0 ≤ pen ∧ pen ≤ 24) (hh : 0 ≤ has ∧ has ≤ 10000000) (H1 : fitsB s kt pen has = true → R (.returned (.bool true)) h) (H2 : fitsB s kt pen has = false → R (.returned (.bool false)) h) : ACalls Try.prog 60 ⟨[.pointer (some ⟨b, 0, none⟩), I k, I pen, I has]⟩ h R := by
  subst ek
  refine fits_c hm hd hs hsm he hk hp hh ?_
  rcases Bool.eq_false_or_eq_true (fitsB s kt pen has) with h9 | h9
  · rw [h9]; exact H1 h9
  · rw [h9]; exact H2 h9

def firstI (d : Nat) (left : Int) : Int := if d = 0 then left else 0
theorem firstI_or (d : Nat) (left : Int) : (d = 0 ∧ firstI d left = left) ∨ (1 ≤ d ∧ firstI d left = 0) := by
  unfold firstI
  by_cases h : d = 0
  · exact .inl ⟨h, if_pos h⟩
  · exact .inr ⟨by omega, if_neg h⟩
def DivideOk (s : Slot) (d : Nat) : Prop := ∀ {C g : Hp} {b1 b5 b8 b9 ba b : Nat} {ma : Option Addr} {mc : Nat} {k left has : Int} {bl : List Int} {L : List (List Int)} {R : Ending → Hp → Prop}, DivC C s b1 b5 b8 b9 ba b ma mc → List.Perm ((ba, .cells ⟨eAcc s L⟩ 81) :: C) g → k = bl.length → bl.length + d + 1 = s.tars.length → (0 ≤ left ∧ left ≤ 24) → (∀ x ∈ bl, 0 ≤ x ∧ x ≤ 24) → has = s.start + worthN s bl bl.length →
  R (.returned (.tuple #[])) ((ba, .cells ⟨eAcc s (L ++ allP s d bl.length left has bl)⟩ 81) :: C) →
  ACalls Try.prog 59 ⟨[I k, I left, I has, .agg ⟨n5 bl⟩, .pointer (some ⟨b1, 0, none⟩), .pointer (some ⟨b5, 0, none⟩), .pointer (some ⟨b8, 0, none⟩), .pointer (some ⟨b9, 0, none⟩)]⟩ g R

theorem divide_step {s : Slot} {d : Nat} (hsm : Small s) (he : errS s = 0) (ih : ∀ e, e < d → DivideOk s e) : DivideOk s d := by
  intro C g b1 b5 b8 b9 ba b ma mc k left has bl L R hC hperm hk hbd hlr hbr hhas H
  subst hk
  refine ACalls.perm hperm ?_
  refine calls_of_xc (N := 69) Try.func59 rfl (by rfl) ?_
  obtain ⟨hsl9, hsk⟩ := id hsm
  obtain ⟨hgs, htw, hcr⟩ := errS_0 he
  obtain ⟨⟨hn1, hn2⟩, ⟨hn3, hn4⟩, ⟨hn5, hn6⟩, hn7, hn8⟩ := id hgs.1
  obtain ⟨⟨hz1, hz2⟩, hz3⟩ := id hgs.2.1
  have hdl := dm_len hz3
  have m1 := hC.m1
  have m2 := hC.m5
  have m3 := hC.m8
  have m4 := hC.m9
  have m5 := hC.mm
  have hb5 : bl.length < 5 := by omega
  have hwb := worthN_bd hgs.feet hbr (by omega) bl.length (Nat.le_refl _)
  have hkt : bl.length < s.tars.length := by omega
  have hf2 := feetK_1 hgs hkt
  have hfo := firstI_or d left
  obtain ⟨xt, hxt⟩ : ∃ q, s.tars[bl.length]? = some q := ⟨_, List.getElem?_eq_getElem hkt⟩
  have hfK := slot_feet hxt
  refine xc_seq (xc_region ?_)
  refine xr_op rfl rfl (xv_box rfl (fun b11 hb11 => ?_))
  refine xr_end rfl ?_
  refine th_n ?_
  refine xc_scope ?_
  refine xc_seq (xc_region ?_)
  refine XR.perm (List.Perm.swap _ _ _) ?_
  refine xr_op rfl rfl (xv_assign rfl ?_)
  refine xr_end rfl ?_
  refine th_n ?_
  refine xc_seq ?_
  refine xc_seq (xc_region ?_)
  refine xr_op rfl rfl (xv_move rfl ?_)
  refine xr_op rfl rfl (xv_faddr fl25_4 rfl ?_)
  refine xr_op rfl rfl (xv_load1 ty22 rfl rfl (by ((repeat first|exact z_0|assumption|refine z_1 ?_|(refine z_l ?_;(repeat first|exact z_0|assumption|refine z_1 ?_);done)|refine z_r ?_);done)) (by rfl) ?_)
  refine xr_op rfl rfl (xv_len sl22 rfl ?_)
  refine xr_op rfl rfl (xv_sub rfl rfl (wrap_i64 (by (first|omega|(dsimp only at *;omega)|(simp at *;omega))) (by (first|omega|(dsimp only at *;omega)|(simp at *;omega)))) ?_)
  refine xr_op rfl rfl (xv_eql2 rfl rfl (fun q1 => ?_) (fun q1 => ?_))
  · refine xr_end rfl ?_
    refine th_n ?_
    refine xc_true rfl ?_
    refine xc_region ?_
    refine xr_op rfl rfl (xv_move rfl ?_)
    refine xr_op rfl rfl (xv_assign rfl ?_)
    refine xr_end rfl ?_
    refine th_n ?_
    refine xc_seq ?_
    refine xc_label ?_
    refine th_n ?_
    refine xc_seq (xc_region ?_)
    have hd9 : d = 0 := by (first|omega|(dsimp only at *;omega)|(simp at *;omega))
    have hfi : firstI d left = left := by omega
    have hpz : partP s d left has bl left = [] := by rw [hd9]; exact partP_0
    refine xr_op rfl rfl (xv_move rfl ?_)
    refine xr_op rfl rfl (xv_assign rfl ?_)
    refine xr_end rfl ?_
    refine th_n ?_
    refine xc_block ?_
    refine xc_loop (σ := Int × Int) (fun z => firstI d left ≤ z.1 ∧ z.1 ≤ left + 1) (fun z => (((((((((emp.put (some 0) (I (bl.length : Int))).put (some 1) (I left)).put (some 2) (I has)).put (some 4) (.pointer (some ⟨b1, 0, none⟩))).put (some 5) (.pointer (some ⟨b5, 0, none⟩))).put (some 6) (.pointer (some ⟨b8, 0, none⟩))).put (some 7) (.pointer (some ⟨b9, 0, none⟩))).put (some 11) (.pointer (some ⟨b11, 0, none⟩))).put (some 13) (I z.1))) (fun z => ((ba, .cells ⟨eAcc s (L ++ partP s d left has bl z.1)⟩ 81) :: (b11, .cells ⟨n5 (bl ++ [z.2])⟩ 103) :: C)) (fun z => (left + 1 - z.1).toNat) ((firstI d left, 0) : Int × Int) ⟨Int.le_refl _, by dsimp only; omega⟩ (le_put (le_put (le_put (le_put (le_put (le_put (le_put (le_put (le_put (le_emp _) rfl) rfl) rfl) rfl) rfl) rfl) rfl) rfl) (by rw [hfi]; rfl)) (by dsimp only; rw [hfi, hpz, List.append_nil, n5_snoc hb5]; (first|((repeat first|exact s_0|exact s_1|exact s_3|refine s_4 ?_|refine s_5 ?_|refine s_6 ?_|refine s_7 ?_);done)|((repeat first|exact s_0|exact s_1|exact s_3|refine s_4 ?_|refine s_5 ?_|refine s_6 ?_|refine s_8 ?_);done))) ?_
    rintro ⟨i, y⟩ ⟨hi1, hi2⟩
    dsimp only at hi1 hi2
    refine xc_seq ?_
    refine xc_seq (xc_region ?_)
    refine xr_op rfl rfl (xv_move rfl ?_)
    refine xr_op rfl rfl (xv_move rfl ?_)
    refine xr_op rfl rfl (xv_leq2 rfl rfl (fun q2 => ?_) (fun q2 => ?_))
    · refine xr_end rfl ?_
      refine th_n ?_
      refine xc_true rfl ?_
      refine xc_skip ?_
      refine th_n ?_
      refine xc_seq ?_
      refine xc_block ?_
      refine xc_seq ?_
      refine xc_seq (xc_region ?_)
      refine xr_op rfl rfl (xv_load1 ty60 rfl rfl (by ((repeat first|exact z_0|assumption|refine z_1 ?_|(refine z_l ?_;(repeat first|exact z_0|assumption|refine z_1 ?_);done)|refine z_r ?_);done)) (by rfl) ?_)
      refine xr_op rfl rfl (xv_move rfl ?_)
      refine xr_op rfl rfl (xv_move rfl ?_)
      refine xr_op rfl rfl (xv_move rfl ?_)
      refine xr_op rfl rfl (xv_calls rfl hb60 (fits2_c (by ((repeat first|exact z_0|assumption|refine z_1 ?_|(refine z_l ?_;(repeat first|exact z_0|assumption|refine z_1 ?_);done)|refine z_r ?_);done)) (hC.dm.sub (by intro z hz; ((repeat first|exact z_0|assumption|refine z_1 ?_|(refine z_l ?_;(repeat first|exact z_0|assumption|refine z_1 ?_);done)|refine z_r ?_);done))) (hC.sl.sub (by intro z hz; ((repeat first|exact z_0|assumption|refine z_1 ?_|(refine z_l ?_;(repeat first|exact z_0|assumption|refine z_1 ?_);done)|refine z_r ?_);done))) hsm he rfl hkt (by (first|omega|(dsimp only at *;omega)|(simp at *;omega))) (by omega) (fun hft => up_ret ?_) (fun hft => up_ret ?_)))
      · refine xr_op rfl rfl (xv_not rfl ?_)
        refine xr_end rfl ?_
        refine th_n ?_
        refine xc_false rfl ?_
        refine xc_skip ?_
        refine th_n ?_
        refine xc_seq (xc_region ?_)
        have hib := mul_bd (x := i) (f := xt.feet) (by (first|omega|(dsimp only at *;omega)|(simp at *;omega))) (by rw [← hfK]; omega)
        refine xr_op rfl rfl (xv_move rfl ?_)
        refine xr_op rfl rfl (xv_move rfl ?_)
        refine xr_op rfl rfl (xv_iaA (sz := 1) (j := bl.length) Try.underlying103 ty3 rfl rfl rfl (by (first | assumption | with_reducible exact Int.toNat_natCast _ | with_reducible rfl | rfl)) (by (first|omega|(dsimp only at *;omega)|(simp at *;omega))) (by (first|omega|(dsimp only at *;omega)|(simp at *;omega))) ?_)
        refine xr_op rfl rfl (xv_s1 (l' := n5 (bl ++ [i])) ty3 rfl rfl rfl (by (first|(apply u_3;(repeat first|exact u_0|assumption|apply u_1|apply u_2);done)|((repeat first|exact u_0|assumption|apply u_1|apply u_2);done)|(apply u_3;apply u_3;(repeat first|exact u_0|assumption|apply u_1|apply u_2);done)|((repeat first|exact u_0|assumption|apply u_3|apply u_1);done))) rfl (by show 0 + bl.length * 1 < 5; omega) (by rw [Nat.zero_add, Nat.mul_one]; exact n5_set hb5) ?_)
        refine xr_end rfl ?_
        refine th_n ?_
        refine xc_seq (xc_region ?_)
        refine xr_op rfl rfl (xv_move rfl ?_)
        refine xr_op rfl rfl (xv_move rfl ?_)
        refine xr_op rfl rfl (xv_faddr fl25_4 rfl ?_)
        refine xr_op rfl rfl (xv_load1 ty22 rfl rfl (by ((repeat first|exact z_0|assumption|refine z_1 ?_|(refine z_l ?_;(repeat first|exact z_0|assumption|refine z_1 ?_);done)|refine z_r ?_);done)) (by rfl) ?_)
        refine xr_op rfl rfl (xv_move rfl ?_)
        have hltw : bl.length < s.tars.length := by (first|omega|(dsimp only at *;omega)|(simp at *;omega))
        obtain ⟨bw, ow, lw, tw, fzw, haw, hmw, hxw⟩ := (hC.sl.tars).at hltw
        obtain ⟨xw, hkw⟩ : ∃ qq_, s.tars[bl.length]? = some qq_ := ⟨_, List.getElem?_eq_getElem hltw⟩
        have hw9 := Option.some.inj (hkw.symm.trans hxt)
        refine xr_op rfl rfl (xv_ia (sz := 2) (j := bl.length) sl22 ty54 rfl (by rw [haw]; rfl) rfl (by (first | assumption | with_reducible exact Int.toNat_natCast _ | with_reducible rfl | rfl)) (by (first|omega|(dsimp only at *;omega)|(simp at *;omega))) (by (first|omega|(dsimp only at *;omega)|(simp at *;omega))) ?_)
        refine xr_op rfl rfl (xv_faddr fl54_1 rfl ?_)
        refine xr_op rfl rfl (xv_load1 (v := I xt.feet) ty3 rfl rfl (by ((repeat first|exact z_0|assumption|refine z_1 ?_|(refine z_l ?_;(repeat first|exact z_0|assumption|refine z_1 ?_);done)|refine z_r ?_);done)) (take_get (hxw (bl.length) xw hkw) (j := 1) (by rw [hw9]; rfl)) ?_)
        refine xr_op rfl rfl (xv_mul rfl rfl (wrap_i64 (by (first|omega|(dsimp only at *;omega)|(simp at *;omega))) (by (first|omega|(dsimp only at *;omega)|(simp at *;omega)))) ?_)
        refine xr_op rfl rfl (xv_add rfl rfl (wrap_i64 (by (first|omega|(dsimp only at *;omega)|(simp at *;omega))) (by (first|omega|(dsimp only at *;omega)|(simp at *;omega)))) ?_)
        refine xr_op rfl rfl (xv_assign rfl ?_)
        refine xr_end rfl ?_
        refine th_n ?_
        refine xc_seq (xc_region ?_)
        refine xr_op rfl rfl (xv_move rfl ?_)
        refine xr_op rfl rfl (xv_faddr fl25_4 rfl ?_)
        refine xr_op rfl rfl (xv_load1 ty22 rfl rfl (by ((repeat first|exact z_0|assumption|refine z_1 ?_|(refine z_l ?_;(repeat first|exact z_0|assumption|refine z_1 ?_);done)|refine z_r ?_);done)) (by rfl) ?_)
        refine xr_op rfl rfl (xv_len sl22 rfl ?_)
        refine xr_op rfl rfl (xv_sub rfl rfl (wrap_i64 (by (first|omega|(dsimp only at *;omega)|(simp at *;omega))) (by (first|omega|(dsimp only at *;omega)|(simp at *;omega)))) ?_)
        refine xr_op rfl rfl (xv_eqlT rfl rfl (by (first|omega|(dsimp only at *;omega)|(simp at *;omega))) ?_)
        refine xr_end rfl ?_
        refine th_n ?_
        refine xc_true rfl ?_
        refine xc_region ?_
        have hone : L ++ partP s d left has bl i ++ oneP s d left has bl i = L ++ partP s d left has bl i ++ [bl ++ [i]] := by rw [show oneP s d left has bl i = [bl ++ [i]] by rw [hd9]; exact oneP_0 hft]
        refine xr_op rfl rfl (xv_load1 ty100 rfl rfl (by ((repeat first|exact z_0|assumption|refine z_1 ?_|(refine z_l ?_;(repeat first|exact z_0|assumption|refine z_1 ?_);done)|refine z_r ?_);done)) (by rfl) ?_)
        refine xr_op rfl rfl (xv_loadA (l' := n5 (bl ++ [i])) ty103 rfl rfl (by ((repeat first|exact z_0|assumption|refine z_1 ?_|(refine z_l ?_;(repeat first|exact z_0|assumption|refine z_1 ?_);done)|refine z_r ?_);done)) rfl rfl ?_)
        refine xr_op rfl rfl (xv_move rfl ?_)
        refine xr_op rfl rfl (xv_faddr fl25_0 rfl ?_)
        refine xr_op rfl rfl (xv_load1 ty3 rfl rfl (by ((repeat first|exact z_0|assumption|refine z_1 ?_|(refine z_l ?_;(repeat first|exact z_0|assumption|refine z_1 ?_);done)|refine z_r ?_);done)) (by rfl) ?_)
        refine xr_op rfl rfl (xv_sub rfl rfl (wrap_i64 (by (first|omega|(dsimp only at *;omega)|(simp at *;omega))) (by (first|omega|(dsimp only at *;omega)|(simp at *;omega)))) ?_)
        refine xr_op rfl rfl (xv_fn rfl rfl (afn_func (fi := [.pointer (some ⟨ba, 0, none⟩)]) (lb := []) hb58 (add_c (n := bl ++ [i]) (by rw [show (bl ++ [i]).length = bl.length + 1 by simp, worthN_step, hfK]; (first|omega|(dsimp only at *;omega)|(simp at *;omega))) (up_ret ?_))))
        refine xr_end rfl ?_
        refine bk_n ?_
        refine th_n ?_
        refine xc_region ?_
        refine xr_op rfl rfl (xv_move rfl ?_)
        refine xr_op rfl rfl (xv_add rfl rfl (wrap_i64 (by (first|omega|(dsimp only at *;omega)|(simp at *;omega))) (by (first|omega|(dsimp only at *;omega)|(simp at *;omega)))) ?_)
        refine xr_op rfl rfl (xv_assign rfl ?_)
        refine xr_end rfl ?_
        exact rnd ((i + 1, i) : Int × Int) ⟨by (first|omega|(dsimp only at *;omega)|(simp at *;omega)), by (first|omega|(dsimp only at *;omega)|(simp at *;omega))⟩ (by (first|omega|(dsimp only at *;omega)|(simp at *;omega))) (le_put (le_put (le_put (le_put (le_put (le_put (le_put (le_put (le_put (le_emp _) rfl) rfl) rfl) rfl) rfl) rfl) rfl) rfl) rfl) (by dsimp only; rw [partP_next (by omega) (by omega), ← List.append_assoc, hone]; (first|((repeat first|exact s_0|exact s_1|exact s_3|refine s_4 ?_|refine s_5 ?_|refine s_6 ?_|refine s_7 ?_);done)|((repeat first|exact s_0|exact s_1|exact s_3|refine s_4 ?_|refine s_5 ?_|refine s_6 ?_|refine s_8 ?_);done)))
      · refine xr_op rfl rfl (xv_not rfl ?_)
        refine xr_end rfl ?_
        refine th_n ?_
        refine xc_true rfl ?_
        refine xc_exit ?_
        refine th_x ?_
        refine bk_same ?_
        refine th_n ?_
        refine xc_region ?_
        refine xr_op rfl rfl (xv_move rfl ?_)
        refine xr_op rfl rfl (xv_add rfl rfl (wrap_i64 (by (first|omega|(dsimp only at *;omega)|(simp at *;omega))) (by (first|omega|(dsimp only at *;omega)|(simp at *;omega)))) ?_)
        refine xr_op rfl rfl (xv_assign rfl ?_)
        refine xr_end rfl ?_
        exact rnd ((i + 1, y) : Int × Int) ⟨by (first|omega|(dsimp only at *;omega)|(simp at *;omega)), by (first|omega|(dsimp only at *;omega)|(simp at *;omega))⟩ (by (first|omega|(dsimp only at *;omega)|(simp at *;omega))) (le_put (le_put (le_put (le_put (le_put (le_put (le_put (le_put (le_put (le_emp _) rfl) rfl) rfl) rfl) rfl) rfl) rfl) rfl) rfl) (by dsimp only; rw [partP_next (by omega) (by omega), ← List.append_assoc, oneP_n hft, List.append_nil]; (first|((repeat first|exact s_0|exact s_1|exact s_3|refine s_4 ?_|refine s_5 ?_|refine s_6 ?_|refine s_7 ?_);done)|((repeat first|exact s_0|exact s_1|exact s_3|refine s_4 ?_|refine s_5 ?_|refine s_6 ?_|refine s_8 ?_);done)))
    · refine xr_end rfl ?_
      refine th_n ?_
      refine xc_false rfl ?_
      refine xc_exit ?_
      refine th_x ?_
      refine th_x ?_
      refine bk_same ?_
      refine sc_n ?_
      refine body_end (h' := ((ba, .cells ⟨eAcc s (L ++ partP s d left has bl i)⟩ 81) :: C)) rfl ro_nil (by (first|((repeat first|exact s_0|exact s_1|exact s_3|refine s_4 ?_|refine s_5 ?_|refine s_6 ?_|refine s_7 ?_);done)|((repeat first|exact s_0|exact s_1|exact s_3|refine s_4 ?_|refine s_5 ?_|refine s_6 ?_|refine s_8 ?_);done))) ?_
      (rw [show i = left + 1 by (first|omega|(dsimp only at *;omega)|(simp at *;omega)), partP_end (by omega)]; exact H)
  · refine xr_end rfl ?_
    refine th_n ?_
    refine xc_false rfl ?_
    refine xc_skip ?_
    refine th_n ?_
    refine xc_seq ?_
    refine xc_label ?_
    refine th_n ?_
    refine xc_seq (xc_region ?_)
    have hd9 : 1 ≤ d := by (first|omega|(dsimp only at *;omega)|(simp at *;omega))
    have hfi : firstI d left = 0 := by omega
    have hpz : partP s d left has bl 0 = [] := partP_s hd9
    refine xr_op rfl rfl (xv_move rfl ?_)
    refine xr_op rfl rfl (xv_assign rfl ?_)
    refine xr_end rfl ?_
    refine th_n ?_
    refine xc_block ?_
    refine xc_loop (σ := Int × Int) (fun z => firstI d left ≤ z.1 ∧ z.1 ≤ left + 1) (fun z => (((((((((emp.put (some 0) (I (bl.length : Int))).put (some 1) (I left)).put (some 2) (I has)).put (some 4) (.pointer (some ⟨b1, 0, none⟩))).put (some 5) (.pointer (some ⟨b5, 0, none⟩))).put (some 6) (.pointer (some ⟨b8, 0, none⟩))).put (some 7) (.pointer (some ⟨b9, 0, none⟩))).put (some 11) (.pointer (some ⟨b11, 0, none⟩))).put (some 13) (I z.1))) (fun z => ((ba, .cells ⟨eAcc s (L ++ partP s d left has bl z.1)⟩ 81) :: (b11, .cells ⟨n5 (bl ++ [z.2])⟩ 103) :: C)) (fun z => (left + 1 - z.1).toNat) ((firstI d left, 0) : Int × Int) ⟨Int.le_refl _, by dsimp only; omega⟩ (le_put (le_put (le_put (le_put (le_put (le_put (le_put (le_put (le_put (le_emp _) rfl) rfl) rfl) rfl) rfl) rfl) rfl) rfl) (by rw [hfi]; rfl)) (by dsimp only; rw [hfi, hpz, List.append_nil, n5_snoc hb5]; (first|((repeat first|exact s_0|exact s_1|exact s_3|refine s_4 ?_|refine s_5 ?_|refine s_6 ?_|refine s_7 ?_);done)|((repeat first|exact s_0|exact s_1|exact s_3|refine s_4 ?_|refine s_5 ?_|refine s_6 ?_|refine s_8 ?_);done))) ?_
    rintro ⟨i, y⟩ ⟨hi1, hi2⟩
    dsimp only at hi1 hi2
    refine xc_seq ?_
    refine xc_seq (xc_region ?_)
    refine xr_op rfl rfl (xv_move rfl ?_)
    refine xr_op rfl rfl (xv_move rfl ?_)
    refine xr_op rfl rfl (xv_leq2 rfl rfl (fun q3 => ?_) (fun q3 => ?_))
    · refine xr_end rfl ?_
      refine th_n ?_
      refine xc_true rfl ?_
      refine xc_skip ?_
      refine th_n ?_
      refine xc_seq ?_
      refine xc_block ?_
      refine xc_seq ?_
      refine xc_seq (xc_region ?_)
      refine xr_op rfl rfl (xv_load1 ty60 rfl rfl (by ((repeat first|exact z_0|assumption|refine z_1 ?_|(refine z_l ?_;(repeat first|exact z_0|assumption|refine z_1 ?_);done)|refine z_r ?_);done)) (by rfl) ?_)
      refine xr_op rfl rfl (xv_move rfl ?_)
      refine xr_op rfl rfl (xv_move rfl ?_)
      refine xr_op rfl rfl (xv_move rfl ?_)
      refine xr_op rfl rfl (xv_calls rfl hb60 (fits2_c (by ((repeat first|exact z_0|assumption|refine z_1 ?_|(refine z_l ?_;(repeat first|exact z_0|assumption|refine z_1 ?_);done)|refine z_r ?_);done)) (hC.dm.sub (by intro z hz; ((repeat first|exact z_0|assumption|refine z_1 ?_|(refine z_l ?_;(repeat first|exact z_0|assumption|refine z_1 ?_);done)|refine z_r ?_);done))) (hC.sl.sub (by intro z hz; ((repeat first|exact z_0|assumption|refine z_1 ?_|(refine z_l ?_;(repeat first|exact z_0|assumption|refine z_1 ?_);done)|refine z_r ?_);done))) hsm he rfl hkt (by (first|omega|(dsimp only at *;omega)|(simp at *;omega))) (by omega) (fun hft => up_ret ?_) (fun hft => up_ret ?_)))
      · refine xr_op rfl rfl (xv_not rfl ?_)
        refine xr_end rfl ?_
        refine th_n ?_
        refine xc_false rfl ?_
        refine xc_skip ?_
        refine th_n ?_
        refine xc_seq (xc_region ?_)
        have hib := mul_bd (x := i) (f := xt.feet) (by (first|omega|(dsimp only at *;omega)|(simp at *;omega))) (by rw [← hfK]; omega)
        refine xr_op rfl rfl (xv_move rfl ?_)
        refine xr_op rfl rfl (xv_move rfl ?_)
        refine xr_op rfl rfl (xv_iaA (sz := 1) (j := bl.length) Try.underlying103 ty3 rfl rfl rfl (by (first | assumption | with_reducible exact Int.toNat_natCast _ | with_reducible rfl | rfl)) (by (first|omega|(dsimp only at *;omega)|(simp at *;omega))) (by (first|omega|(dsimp only at *;omega)|(simp at *;omega))) ?_)
        refine xr_op rfl rfl (xv_s1 (l' := n5 (bl ++ [i])) ty3 rfl rfl rfl (by (first|(apply u_3;(repeat first|exact u_0|assumption|apply u_1|apply u_2);done)|((repeat first|exact u_0|assumption|apply u_1|apply u_2);done)|(apply u_3;apply u_3;(repeat first|exact u_0|assumption|apply u_1|apply u_2);done)|((repeat first|exact u_0|assumption|apply u_3|apply u_1);done))) rfl (by show 0 + bl.length * 1 < 5; omega) (by rw [Nat.zero_add, Nat.mul_one]; exact n5_set hb5) ?_)
        refine xr_end rfl ?_
        refine th_n ?_
        refine xc_seq (xc_region ?_)
        refine xr_op rfl rfl (xv_move rfl ?_)
        refine xr_op rfl rfl (xv_move rfl ?_)
        refine xr_op rfl rfl (xv_faddr fl25_4 rfl ?_)
        refine xr_op rfl rfl (xv_load1 ty22 rfl rfl (by ((repeat first|exact z_0|assumption|refine z_1 ?_|(refine z_l ?_;(repeat first|exact z_0|assumption|refine z_1 ?_);done)|refine z_r ?_);done)) (by rfl) ?_)
        refine xr_op rfl rfl (xv_move rfl ?_)
        have hltw : bl.length < s.tars.length := by (first|omega|(dsimp only at *;omega)|(simp at *;omega))
        obtain ⟨bw, ow, lw, tw, fzw, haw, hmw, hxw⟩ := (hC.sl.tars).at hltw
        obtain ⟨xw, hkw⟩ : ∃ qq_, s.tars[bl.length]? = some qq_ := ⟨_, List.getElem?_eq_getElem hltw⟩
        have hw9 := Option.some.inj (hkw.symm.trans hxt)
        refine xr_op rfl rfl (xv_ia (sz := 2) (j := bl.length) sl22 ty54 rfl (by rw [haw]; rfl) rfl (by (first | assumption | with_reducible exact Int.toNat_natCast _ | with_reducible rfl | rfl)) (by (first|omega|(dsimp only at *;omega)|(simp at *;omega))) (by (first|omega|(dsimp only at *;omega)|(simp at *;omega))) ?_)
        refine xr_op rfl rfl (xv_faddr fl54_1 rfl ?_)
        refine xr_op rfl rfl (xv_load1 (v := I xt.feet) ty3 rfl rfl (by ((repeat first|exact z_0|assumption|refine z_1 ?_|(refine z_l ?_;(repeat first|exact z_0|assumption|refine z_1 ?_);done)|refine z_r ?_);done)) (take_get (hxw (bl.length) xw hkw) (j := 1) (by rw [hw9]; rfl)) ?_)
        refine xr_op rfl rfl (xv_mul rfl rfl (wrap_i64 (by (first|omega|(dsimp only at *;omega)|(simp at *;omega))) (by (first|omega|(dsimp only at *;omega)|(simp at *;omega)))) ?_)
        refine xr_op rfl rfl (xv_add rfl rfl (wrap_i64 (by (first|omega|(dsimp only at *;omega)|(simp at *;omega))) (by (first|omega|(dsimp only at *;omega)|(simp at *;omega)))) ?_)
        refine xr_op rfl rfl (xv_assign rfl ?_)
        refine xr_end rfl ?_
        refine th_n ?_
        refine xc_seq (xc_region ?_)
        refine xr_op rfl rfl (xv_move rfl ?_)
        refine xr_op rfl rfl (xv_faddr fl25_4 rfl ?_)
        refine xr_op rfl rfl (xv_load1 ty22 rfl rfl (by ((repeat first|exact z_0|assumption|refine z_1 ?_|(refine z_l ?_;(repeat first|exact z_0|assumption|refine z_1 ?_);done)|refine z_r ?_);done)) (by rfl) ?_)
        refine xr_op rfl rfl (xv_len sl22 rfl ?_)
        refine xr_op rfl rfl (xv_sub rfl rfl (wrap_i64 (by (first|omega|(dsimp only at *;omega)|(simp at *;omega))) (by (first|omega|(dsimp only at *;omega)|(simp at *;omega)))) ?_)
        refine xr_op rfl rfl (xv_eqlF rfl rfl (by (first|omega|(dsimp only at *;omega)|(simp at *;omega))) ?_)
        refine xr_end rfl ?_
        refine th_n ?_
        refine xc_false rfl ?_
        refine xc_region ?_
        obtain ⟨e, hde⟩ : ∃ e, d = e + 1 := ⟨d - 1, by (first|omega|(dsimp only at *;omega)|(simp at *;omega))⟩
        have hone : L ++ partP s d left has bl i ++ oneP s d left has bl i = L ++ partP s d left has bl i ++ allP s e (bl ++ [i]).length (left - i) (has + i * xt.feet) (bl ++ [i]) := by rw [show oneP s d left has bl i = allP s e (bl ++ [i]).length (left - i) (has + i * xt.feet) (bl ++ [i]) by rw [hde, oneP_s hft, hfK, List.length_append]; rfl]
        have hbr2 : ∀ x ∈ bl ++ [i], 0 ≤ x ∧ x ≤ 24 := fun x hx => by
          rcases List.mem_append.1 hx with h9 | h9
          · exact hbr x h9
          · rw [List.mem_singleton.1 h9]; (first|omega|(dsimp only at *;omega)|(simp at *;omega))
        refine xr_op rfl rfl (xv_load1 ty101 rfl rfl (by ((repeat first|exact z_0|assumption|refine z_1 ?_|(refine z_l ?_;(repeat first|exact z_0|assumption|refine z_1 ?_);done)|refine z_r ?_);done)) (by rfl) ?_)
        refine xr_op rfl rfl (xv_move rfl ?_)
        refine xr_op rfl rfl (xv_add rfl rfl (wrap_i64 (by (first|omega|(dsimp only at *;omega)|(simp at *;omega))) (by (first|omega|(dsimp only at *;omega)|(simp at *;omega)))) ?_)
        refine xr_op rfl rfl (xv_move rfl ?_)
        refine xr_op rfl rfl (xv_move rfl ?_)
        refine xr_op rfl rfl (xv_sub rfl rfl (wrap_i64 (by (first|omega|(dsimp only at *;omega)|(simp at *;omega))) (by (first|omega|(dsimp only at *;omega)|(simp at *;omega)))) ?_)
        refine xr_op rfl rfl (xv_move rfl ?_)
        refine xr_op rfl rfl (xv_loadA (l' := n5 (bl ++ [i])) ty103 rfl rfl (by ((repeat first|exact z_0|assumption|refine z_1 ?_|(refine z_l ?_;(repeat first|exact z_0|assumption|refine z_1 ?_);done)|refine z_r ?_);done)) rfl rfl ?_)
        refine xr_op rfl rfl (xv_fn rfl rfl (afn_func (fi := []) (lb := [.pointer (some ⟨b1, 0, none⟩), .pointer (some ⟨b5, 0, none⟩), .pointer (some ⟨b8, 0, none⟩), .pointer (some ⟨b9, 0, none⟩)]) hb59 (ih e (by omega) (C := (b11, .cells ⟨n5 (bl ++ [i])⟩ 103) :: C) (bl := bl ++ [i]) (hC.sub (by intro z hz; ((repeat first|exact z_0|assumption|refine z_1 ?_|(refine z_l ?_;(repeat first|exact z_0|assumption|refine z_1 ?_);done)|refine z_r ?_);done))) (List.Perm.refl _) (by simp) (by simp; omega) (by (first|omega|(dsimp only at *;omega)|(simp at *;omega))) hbr2 (by rw [show (bl ++ [i]).length = bl.length + 1 by simp, worthN_step, hfK]; (first|omega|(dsimp only at *;omega)|(simp at *;omega))) (up_ret ?_))))
        refine xr_end rfl ?_
        refine bk_n ?_
        refine th_n ?_
        refine xc_region ?_
        refine xr_op rfl rfl (xv_move rfl ?_)
        refine xr_op rfl rfl (xv_add rfl rfl (wrap_i64 (by (first|omega|(dsimp only at *;omega)|(simp at *;omega))) (by (first|omega|(dsimp only at *;omega)|(simp at *;omega)))) ?_)
        refine xr_op rfl rfl (xv_assign rfl ?_)
        refine xr_end rfl ?_
        exact rnd ((i + 1, i) : Int × Int) ⟨by (first|omega|(dsimp only at *;omega)|(simp at *;omega)), by (first|omega|(dsimp only at *;omega)|(simp at *;omega))⟩ (by (first|omega|(dsimp only at *;omega)|(simp at *;omega))) (le_put (le_put (le_put (le_put (le_put (le_put (le_put (le_put (le_put (le_emp _) rfl) rfl) rfl) rfl) rfl) rfl) rfl) rfl) rfl) (by dsimp only; rw [partP_next (by omega) (by omega), ← List.append_assoc, hone]; (first|((repeat first|exact s_0|exact s_1|exact s_3|refine s_4 ?_|refine s_5 ?_|refine s_6 ?_|refine s_7 ?_);done)|((repeat first|exact s_0|exact s_1|exact s_3|refine s_4 ?_|refine s_5 ?_|refine s_6 ?_|refine s_8 ?_);done)))
      · refine xr_op rfl rfl (xv_not rfl ?_)
        refine xr_end rfl ?_
        refine th_n ?_
        refine xc_true rfl ?_
        refine xc_exit ?_
        refine th_x ?_
        refine bk_same ?_
        refine th_n ?_
        refine xc_region ?_
        refine xr_op rfl rfl (xv_move rfl ?_)
        refine xr_op rfl rfl (xv_add rfl rfl (wrap_i64 (by (first|omega|(dsimp only at *;omega)|(simp at *;omega))) (by (first|omega|(dsimp only at *;omega)|(simp at *;omega)))) ?_)
        refine xr_op rfl rfl (xv_assign rfl ?_)
        refine xr_end rfl ?_
        exact rnd ((i + 1, y) : Int × Int) ⟨by (first|omega|(dsimp only at *;omega)|(simp at *;omega)), by (first|omega|(dsimp only at *;omega)|(simp at *;omega))⟩ (by (first|omega|(dsimp only at *;omega)|(simp at *;omega))) (le_put (le_put (le_put (le_put (le_put (le_put (le_put (le_put (le_put (le_emp _) rfl) rfl) rfl) rfl) rfl) rfl) rfl) rfl) rfl) (by dsimp only; rw [partP_next (by omega) (by omega), ← List.append_assoc, oneP_n hft, List.append_nil]; (first|((repeat first|exact s_0|exact s_1|exact s_3|refine s_4 ?_|refine s_5 ?_|refine s_6 ?_|refine s_7 ?_);done)|((repeat first|exact s_0|exact s_1|exact s_3|refine s_4 ?_|refine s_5 ?_|refine s_6 ?_|refine s_8 ?_);done)))
    · refine xr_end rfl ?_
      refine th_n ?_
      refine xc_false rfl ?_
      refine xc_exit ?_
      refine th_x ?_
      refine th_x ?_
      refine bk_same ?_
      refine sc_n ?_
      refine body_end (h' := ((ba, .cells ⟨eAcc s (L ++ partP s d left has bl i)⟩ 81) :: C)) rfl ro_nil (by (first|((repeat first|exact s_0|exact s_1|exact s_3|refine s_4 ?_|refine s_5 ?_|refine s_6 ?_|refine s_7 ?_);done)|((repeat first|exact s_0|exact s_1|exact s_3|refine s_4 ?_|refine s_5 ?_|refine s_6 ?_|refine s_8 ?_);done))) ?_
      (rw [show i = left + 1 by (first|omega|(dsimp only at *;omega)|(simp at *;omega)), partP_end (by omega)]; exact H)

theorem divide_c {s : Slot} (hsm : Small s) (he : errS s = 0) : ∀ d, DivideOk s d := by
  intro d
  induction d using Nat.strongRecOn with
  | ind d ih => exact divide_step hsm he ih

end Go.Proofs.Ytlcdbjgfeoagbaa

/-
  Walks.
-/
namespace Go.Proofs.Ytlcdbjgfeoagbaa
open Go Go.H
set_option maxRecDepth 100000
set_option maxHeartbeats 8000000
set_option linter.all false
theorem settle_c {s : Slot} {h : Hp} {R : Ending → Hp → Prop} (hs : SlotV h s) (hsm : Small s) (H1 : errD s ≠ 0 → R (.returned (.tuple ⟨[.pointer none, .pointer none, I (errD s)]⟩)) h)
    (H2 : errD s = 0 → ∀ (b ba : Nat) (ma : Option Addr) (mc : Nat) (G : Hp), MetV G s b ma mc → (ba, .cells ⟨eAcc s (divsS s)⟩ 81 (0, 0)) ∈ G → R (.returned (.tuple ⟨[.pointer (some ⟨b, 0, none⟩), .pointer (some ⟨ba, 0, none⟩), I 0]⟩)) (G ++ h)) :
    ACalls Try.prog 42 ⟨[.agg ⟨eSlot s⟩]⟩ h R := by
  refine calls_of_xc (N := 37) Try.func42 rfl (by rfl) ?_
  obtain ⟨hsl9, hsk⟩ := id hsm
  refine xc_seq (xc_region ?_)
  refine xr_op rfl rfl (xv_box rfl (fun b1 hb1 => ?_))
  refine xr_op rfl rfl (xv_assign rfl ?_)
  refine xr_op rfl rfl (xv_assign rfl ?_)
  refine xr_op rfl rfl (xv_assign rfl ?_)
  refine xr_end rfl ?_
  refine th_n ?_
  refine xc_seq (xc_region ?_)
  refine xr_op rfl rfl (xv_loadA ty25 rfl rfl (by ((repeat first|exact z_0|assumption|refine z_1 ?_|(refine z_l ?_;(repeat first|exact z_0|assumption|refine z_1 ?_);done)|refine z_r ?_);done)) (by ((try apply evl_some rfl);(repeat (first|exact (rfl : _ = [])|apply evl_cons rfl (by (first|exact v_1|exact v_2|exact v_3|exact v_4|exact v_5|exact v_6|exact v_7|exact v_8|exact v_9|exact rfl))|exact rfl)))) (by rfl) ?_)
  refine xr_op rfl rfl (xv_calls rfl hb30 (newMeter_c (hs.sub (by intro z hz; ((repeat first|exact z_0|assumption|refine z_1 ?_|(refine z_l ?_;(repeat first|exact z_0|assumption|refine z_1 ?_);done)|refine z_r ?_);done))) hsm (fun hes => up_ret ?_) (fun hes0 bm ma mc G hmet => up_ret ?_)))
  · refine xr_op rfl rfl (xv_move rfl ?_)
    refine xr_op rfl rfl (xv_extract rfl rfl ?_)
    refine xr_op rfl rfl (xv_extract rfl rfl ?_)
    refine xr_op rfl rfl (xv_alloc ty60 (fun b5 hb5 => ?_))
    refine xr_op rfl rfl (xv_s1 ty60 rfl rfl rfl (by (first|(apply u_3;(repeat first|exact u_0|assumption|apply u_1|apply u_2);done)|((repeat first|exact u_0|assumption|apply u_1|apply u_2);done)|(apply u_3;apply u_3;(repeat first|exact u_0|assumption|apply u_1|apply u_2);done)|((repeat first|exact u_0|assumption|apply u_3|apply u_1);done))) (by (first | rfl | exact Vec.one _ _)) (by (first | decide | exact Nat.le_of_ble_eq_true rfl | (simp only [List.length_cons, List.length_nil]; omega) | (simp; done))) (by ((try apply evl_some rfl);(repeat (first|exact (rfl : _ = [])|apply evl_cons rfl (by (first|exact v_1|exact v_2|exact v_3|exact v_4|exact v_5|exact v_6|exact v_7|exact v_8|exact v_9|exact rfl))|exact rfl)))) ?_)
    refine xr_op rfl rfl (xv_assign rfl ?_)
    refine xr_end rfl ?_
    refine th_n ?_
    refine xc_seq ?_
    refine xc_seq (xc_region ?_)
    refine xr_op rfl rfl (xv_move rfl ?_)
    refine xr_op rfl rfl (xv_neqT rfl rfl hes ?_)
    refine xr_end rfl ?_
    refine th_n ?_
    refine xc_true rfl ?_
    refine xc_seq (xc_region ?_)
    have hed := errD_e hes
    refine xr_op rfl rfl (xv_move rfl ?_)
    refine xr_op rfl rfl (xv_assign rfl ?_)
    refine xr_op rfl rfl (xv_assign rfl ?_)
    refine xr_op rfl rfl (xv_assign rfl ?_)
    refine xr_end rfl ?_
    refine th_n ?_
    refine xc_ret ?_
    refine th_r ?_
    refine body_ret (h' := h) rfl (ro_tmp rfl (ro_tmp rfl (ro_tmp rfl ro_nil))) (by (first|((repeat first|exact s_0|exact s_1|exact s_3|refine s_4 ?_|refine s_5 ?_|refine s_6 ?_|refine s_7 ?_);done)|((repeat first|exact s_0|exact s_1|exact s_3|refine s_4 ?_|refine s_5 ?_|refine s_6 ?_|refine s_8 ?_);done))) ?_
    (have h9 := H1 (by omega); rw [hed] at h9; exact h9)
  · refine xr_op rfl rfl (xv_move rfl ?_)
    refine xr_op rfl rfl (xv_extract rfl rfl ?_)
    refine xr_op rfl rfl (xv_extract rfl rfl ?_)
    refine xr_op rfl rfl (xv_alloc ty60 (fun b5 hb5 => ?_))
    refine xr_op rfl rfl (xv_s1 ty60 rfl rfl rfl (by (first|(apply u_3;(repeat first|exact u_0|assumption|apply u_1|apply u_2);done)|((repeat first|exact u_0|assumption|apply u_1|apply u_2);done)|(apply u_3;apply u_3;(repeat first|exact u_0|assumption|apply u_1|apply u_2);done)|((repeat first|exact u_0|assumption|apply u_3|apply u_1);done))) (by (first | rfl | exact Vec.one _ _)) (by (first | decide | exact Nat.le_of_ble_eq_true rfl | (simp only [List.length_cons, List.length_nil]; omega) | (simp; done))) (by ((try apply evl_some rfl);(repeat (first|exact (rfl : _ = [])|apply evl_cons rfl (by (first|exact v_1|exact v_2|exact v_3|exact v_4|exact v_5|exact v_6|exact v_7|exact v_8|exact v_9|exact rfl))|exact rfl)))) ?_)
    refine xr_op rfl rfl (xv_assign rfl ?_)
    refine xr_end rfl ?_
    refine th_n ?_
    refine xc_seq ?_
    refine xc_seq (xc_region ?_)
    refine xr_op rfl rfl (xv_move rfl ?_)
    refine xr_op rfl rfl (xv_neqF rfl rfl rfl ?_)
    refine xr_end rfl ?_
    refine th_n ?_
    refine xc_false rfl ?_
    refine xc_skip ?_
    refine th_n ?_
    refine xc_seq (xc_region ?_)
    have he0 : errS s = 0 := hes0
    have hgm := hmet.m
    obtain ⟨hgs, htw, hcr⟩ := errS_0 he0
    have hcn := hgs.1.2.2.1
    have hsz := hgs.2.1.1
    refine xr_op rfl rfl (xv_build bt81 rfl (by ((try apply evl_some rfl);(repeat (first|exact (rfl : _ = [])|apply evl_cons rfl (by (first|exact v_1|exact v_2|exact v_3|exact v_4|exact v_5|exact v_6|exact v_7|exact v_8|exact v_9|exact rfl))|exact rfl)))) ?_)
    refine xr_op rfl rfl (xv_box rfl (fun ba hba => ?_))
    refine xr_op rfl rfl (xv_assign rfl ?_)
    refine xr_end rfl ?_
    refine th_n ?_
    refine xc_seq (xc_region ?_)
    refine xr_op rfl rfl (xv_move rfl ?_)
    refine xr_op rfl rfl (xv_func rfl rfl ?_)
    refine xr_op rfl rfl (xv_alloc ty100 (fun b8 hb8 => ?_))
    refine xr_op rfl rfl (xv_s1 ty100 rfl rfl rfl (by (first|(apply u_3;(repeat first|exact u_0|assumption|apply u_1|apply u_2);done)|((repeat first|exact u_0|assumption|apply u_1|apply u_2);done)|(apply u_3;apply u_3;(repeat first|exact u_0|assumption|apply u_1|apply u_2);done)|((repeat first|exact u_0|assumption|apply u_3|apply u_1);done))) rfl (by (first | decide | exact Nat.le_of_ble_eq_true rfl | (simp only [List.length_cons, List.length_nil]; omega) | (simp; done))) rfl ?_)
    refine xr_end rfl ?_
    refine th_n ?_
    refine xc_seq (xc_region ?_)
    refine xr_op rfl rfl (xv_alloc ty101 (fun b9 hb9 => ?_))
    refine xr_end rfl ?_
    refine th_n ?_
    refine xc_seq (xc_region ?_)
    refine xr_op rfl rfl (xv_func rfl rfl ?_)
    refine xr_op rfl rfl (xv_s1 ty101 rfl rfl rfl (by (first|(apply u_3;(repeat first|exact u_0|assumption|apply u_1|apply u_2);done)|((repeat first|exact u_0|assumption|apply u_1|apply u_2);done)|(apply u_3;apply u_3;(repeat first|exact u_0|assumption|apply u_1|apply u_2);done)|((repeat first|exact u_0|assumption|apply u_3|apply u_1);done))) rfl (by (first | decide | exact Nat.le_of_ble_eq_true rfl | (simp only [List.length_cons, List.length_nil]; omega) | (simp; done))) rfl ?_)
    refine xr_end rfl ?_
    refine th_n ?_
    refine xc_seq (xc_region ?_)
    refine xr_op rfl rfl (xv_load1 ty101 rfl rfl (by ((repeat first|exact z_0|assumption|refine z_1 ?_|(refine z_l ?_;(repeat first|exact z_0|assumption|refine z_1 ?_);done)|refine z_r ?_);done)) (by rfl) ?_)
    refine xr_op rfl rfl (xv_faddr fl25_2 rfl ?_)
    refine xr_op rfl rfl (xv_load1 ty3 rfl rfl (by ((repeat first|exact z_0|assumption|refine z_1 ?_|(refine z_l ?_;(repeat first|exact z_0|assumption|refine z_1 ?_);done)|refine z_r ?_);done)) (by rfl) ?_)
    refine xr_op rfl rfl (xv_faddr fl25_0 rfl ?_)
    refine xr_op rfl rfl (xv_load1 ty3 rfl rfl (by ((repeat first|exact z_0|assumption|refine z_1 ?_|(refine z_l ?_;(repeat first|exact z_0|assumption|refine z_1 ?_);done)|refine z_r ?_);done)) (by rfl) ?_)
    refine xr_op rfl rfl (xv_build bt103 rfl (by ((try apply evl_some rfl);(repeat (first|exact (rfl : _ = [])|apply evl_cons rfl (by (first|exact v_1|exact v_2|exact v_3|exact v_4|exact v_5|exact v_6|exact v_7|exact v_8|exact v_9|exact rfl))|exact rfl)))) ?_)
    refine xr_op rfl rfl (xv_fn rfl rfl (afn_func (fi := []) (lb := [.pointer (some ⟨b1, 0, none⟩), .pointer (some ⟨b5, 0, none⟩), .pointer (some ⟨b8, 0, none⟩), .pointer (some ⟨b9, 0, none⟩)]) hb59 (divide_c hsm he0 (s.tars.length - 1) (C := ((b9, .cells ⟨[.func (.func 59) ⟨[]⟩ ⟨[.pointer (some ⟨b1, 0, none⟩), .pointer (some ⟨b5, 0, none⟩), .pointer (some ⟨b8, 0, none⟩), .pointer (some ⟨b9, 0, none⟩)]⟩]⟩ 101) :: (b8, .cells ⟨[.func (.func 58) ⟨[.pointer (some ⟨ba, 0, none⟩)]⟩ ⟨[]⟩]⟩ 100) :: (b5, .cells ⟨[.pointer (some ⟨bm, 0, none⟩)]⟩ 60) :: (G ++ (b1, .cells ⟨eSlot s⟩ 25) :: h))) (bl := []) (L := []) (b := bm) (ma := ma) (mc := mc) ⟨by ((repeat first|exact z_0|assumption|refine z_1 ?_|(refine z_l ?_;(repeat first|exact z_0|assumption|refine z_1 ?_);done)|refine z_r ?_);done), by ((repeat first|exact z_0|assumption|refine z_1 ?_|(refine z_l ?_;(repeat first|exact z_0|assumption|refine z_1 ?_);done)|refine z_r ?_);done), by ((repeat first|exact z_0|assumption|refine z_1 ?_|(refine z_l ?_;(repeat first|exact z_0|assumption|refine z_1 ?_);done)|refine z_r ?_);done), by ((repeat first|exact z_0|assumption|refine z_1 ?_|(refine z_l ?_;(repeat first|exact z_0|assumption|refine z_1 ?_);done)|refine z_r ?_);done), by ((repeat first|exact z_0|assumption|refine z_1 ?_|(refine z_l ?_;(repeat first|exact z_0|assumption|refine z_1 ?_);done)|refine z_r ?_);done), hmet.dm.sub (by intro z hz; ((repeat first|exact z_0|assumption|refine z_1 ?_|(refine z_l ?_;(repeat first|exact z_0|assumption|refine z_1 ?_);done)|refine z_r ?_);done)), ⟨hs.tars.sub (by intro z hz; ((repeat first|exact z_0|assumption|refine z_1 ?_|(refine z_l ?_;(repeat first|exact z_0|assumption|refine z_1 ?_);done)|refine z_r ?_);done)), hs.marks.sub (by intro z hz; ((repeat first|exact z_0|assumption|refine z_1 ?_|(refine z_l ?_;(repeat first|exact z_0|assumption|refine z_1 ?_);done)|refine z_r ?_);done))⟩⟩ mv2 rfl (by simp only [List.length_nil]; omega) (by omega) (fun x hx => (List.not_mem_nil hx).elim) (by simp [worthN]) (up_ret ?_))))
    refine xr_end rfl ?_
    refine th_n ?_
    refine xc_seq ?_
    refine xc_seq (xc_region ?_)
    have hL : ([] : List (List Int)) ++ allP s (s.tars.length - 1) ([] : List Int).length s.coins s.start [] = divsS s := divsP he0
    rw [hL]
    refine xr_op rfl rfl (xv_move rfl ?_)
    refine xr_op rfl rfl (xv_nilp rfl ?_)
    refine xr_op rfl rfl (xv_faddr fl81_0 rfl ?_)
    refine xr_op rfl rfl (xv_load1 ty4 rfl rfl (by ((repeat first|exact z_0|assumption|refine z_1 ?_|(refine z_l ?_;(repeat first|exact z_0|assumption|refine z_1 ?_);done)|refine z_r ?_);done)) (by rfl) ?_)
    refine xr_op rfl rfl (xv_not rfl ?_)
    refine xr_end rfl ?_
    refine th_n ?_
    refine xc_bool rfl (fun q1 => ?_) (fun q1 => ?_)
    · refine xc_seq (xc_region ?_)
      have hdn : divsS s = [] := by cases hq : divsS s with
        | nil => rfl
        | cons x l => simp_all
      have hed := errD_6 he0 hdn
      have hne : errD s ≠ 0 := by omega
      refine xr_op rfl rfl (xv_assign rfl ?_)
      refine xr_op rfl rfl (xv_assign rfl ?_)
      refine xr_op rfl rfl (xv_assign rfl ?_)
      refine xr_end rfl ?_
      refine th_n ?_
      refine xc_ret ?_
      refine th_r ?_
      refine body_ret (h' := h) rfl (ro_tmp rfl (ro_tmp rfl (ro_tmp rfl ro_nil))) (by (first|((repeat first|exact s_0|exact s_1|exact s_3|refine s_4 ?_|refine s_5 ?_|refine s_6 ?_|refine s_7 ?_);done)|((repeat first|exact s_0|exact s_1|exact s_3|refine s_4 ?_|refine s_5 ?_|refine s_6 ?_|refine s_8 ?_);done))) ?_
      (have h9 := H1 hne; rw [hed] at h9; exact h9)
    · refine xc_skip ?_
      refine th_n ?_
      refine xc_seq (xc_region ?_)
      have hdn : divsS s ≠ [] := fun q9 => by simp_all
      have hed := errD_0 he0 hdn
      refine xr_op rfl rfl (xv_load1 ty60 rfl rfl (by ((repeat first|exact z_0|assumption|refine z_1 ?_|(refine z_l ?_;(repeat first|exact z_0|assumption|refine z_1 ?_);done)|refine z_r ?_);done)) (by rfl) ?_)
      refine xr_op rfl rfl (xv_move rfl ?_)
      refine xr_op rfl rfl (xv_assign rfl ?_)
      refine xr_op rfl rfl (xv_assign rfl ?_)
      refine xr_op rfl rfl (xv_assign rfl ?_)
      refine xr_end rfl ?_
      refine th_n ?_
      refine xc_ret ?_
      refine body_ret (h' := ((ba, .cells ⟨eAcc s (divsS s)⟩ 81) :: (G ++ h))) rfl (ro_tmp rfl (ro_tmp rfl (ro_tmp rfl ro_nil))) (by (first|((repeat first|exact s_0|exact s_1|exact s_3|refine s_4 ?_|refine s_5 ?_|refine s_6 ?_|refine s_7 ?_);done)|((repeat first|exact s_0|exact s_1|exact s_3|refine s_4 ?_|refine s_5 ?_|refine s_6 ?_|refine s_8 ?_);done))) ?_
      exact H2 hed bm ba ma mc ((ba, .cells ⟨eAcc s (divsS s)⟩ 81) :: G) ⟨List.mem_cons_of_mem _ hgm, hmet.dm.sub (fun z hz => List.mem_cons_of_mem _ hz)⟩ List.mem_cons_self

theorem cloneS_c {l : List Span} {ad : Addr} {n c : Nat} {h : Hp} {R : Ending → Hp → Prop} (hn : n = l.length) (hl : SlV h 2 eSpan (some ad) l) (hlen : l.length ≤ 1000) (H : ∀ V, Vec.ok V 2 l.length (l.flatMap eSpan) → R (.returned (V.val l.length)) (V.hp 30 (l.flatMap eSpan) ++ h)) : ACalls Try.prog 43 ⟨[.slice (some ad) n c]⟩ h R := by
  subst hn
  refine calls_of_xc (N := 8) Try.func43 rfl (by rfl) ?_
  refine xc_seq (xc_region ?_)
  refine xr_op rfl rfl (xv_assign rfl ?_)
  refine xr_end rfl ?_
  refine th_n ?_
  refine xc_seq ?_
  refine xc_seq (xc_region ?_)
  refine xr_op rfl rfl (xv_move rfl ?_)
  refine xr_op rfl rfl (xv_eqNilS (b := false) sl35 rfl rfl rfl ?_)
  refine xr_end rfl ?_
  refine th_n ?_
  refine xc_false rfl ?_
  refine xc_skip ?_
  refine th_n ?_
  refine xc_seq (xc_region ?_)
  refine xr_op rfl rfl ((al_buildSlice sl35 ty30 rfl rfl rfl rfl rfl (by ((try apply evl_some rfl);(repeat (first|exact (rfl : _ = [])|apply evl_cons rfl (by (first|exact v_1|exact v_2|exact v_3|exact v_4|exact v_5|exact v_6|exact v_7|exact v_8|exact v_9|exact rfl))|exact rfl))))).xv (fun b1 hb1 => ?_))
  refine xr_op rfl rfl (xv_move rfl ?_)
  refine xr_op rfl rfl (xv_copy (enc := eSpan) (xs := l) sl35 ty30 rfl rfl rfl rfl hl eSpan_len eSpan_1 (by (first|omega|(dsimp only at *;omega)|(simp at *;omega))) (by (first|omega|(dsimp only at *;omega)|(simp at *;omega))) (fun V hV => ?_))
  refine xr_op rfl rfl (xv_assign rfl ?_)
  refine xr_end rfl ?_
  refine th_n ?_
  refine xc_ret ?_
  refine body_ret (h' := (V.hp 30 (l.flatMap eSpan) ++ h)) rfl (ro_tmp rfl ro_nil) (by (first|((repeat first|exact s_0|exact s_1|exact s_3|refine s_4 ?_|refine s_5 ?_|refine s_6 ?_|refine s_7 ?_);done)|((repeat first|exact s_0|exact s_1|exact s_3|refine s_4 ?_|refine s_5 ?_|refine s_6 ?_|refine s_8 ?_);done))) ?_
  exact H V hV

end Go.Proofs.Ytlcdbjgfeoagbaa

/-
  A copy of a slice onto an empty one.
-/
set_option linter.all false
namespace Go.H
open Go
section
variable {P : Program} {r : Option Nat} {E : Env} {h g : Hp} {K : Value → Hp → Prop} {T : List PanicEntry → Hp → Prop} {dst : Option Nat} {ty : TypeId} {pos : String} {af : Array Edge} {gd : Option (Nat × Bool)}
theorem xv_dup {α : Type} {enc : α → List Value} {x y : Operand} {t e : TypeId} {d : TD} {b n cl sz : Nat} {al : Option Addr} {ys : List α} (ht : SlT P t e) (hd : TyOk P e d) (hzs : d.zero.cells.size = d.size) (hsz : d.size = sz)
    (hx : ev E x = some (.slice (some ⟨b, 0, none⟩) 0 0)) (hy : ev E y = some (.slice al n cl)) (hn : n = ys.length) (hl : SlV g sz enc al ys) (henc : ∀ x, (enc x).length = sz) (h1 : ∀ x, (enc x).all Value.oneCell' = true)
    (hb : 2 * n * d.bytes ≤ 281474976710656) (h63 : n ≤ 9223372036854775807)
    (H : ∀ V' : Vec, V'.ok sz n (ys.flatMap enc) → K (.slice V'.ad n V'.cp) (V'.hp e (ys.flatMap enc) ++ g)) : XV P r ⟨dst, .call ⟨.builtin .append, #[x, y], #[t, t]⟩, ty, pos, af, gd⟩ K T E ((b, .cells ⟨[]⟩ e (0, 0)) :: g) := by
  subst hn
  refine xv_appendL (V := .at b 0 []) (n := 0) (xs := []) (ys := ys) ht hd hzs hsz hx hy ⟨by simp, Nat.le_refl _, by simp⟩ .here hl henc h1 (by rw [Nat.zero_add]; exact hb) (by rw [Nat.zero_add]; exact h63) fun V' hV' => ?_
  rw [Vec.val_ad hV']
  simp only [Nat.zero_add, List.nil_append] at hV' ⊢
  exact H V' hV'
end
end Go.H

/-
  Walks.
-/
namespace Go.Proofs.Ytlcdbjgfeoagbaa
open Go Go.H
set_option maxRecDepth 100000
set_option maxHeartbeats 8000000
set_option linter.all false
theorem Sorted_c {s : Slot} {h : Hp} {R : Ending → Hp → Prop} (hs : SlotV h s) (hsm : Small s) (H : ∀ V : Vec, V.ok 2 (sortM s.marks).length ((sortM s.marks).flatMap eMark) → R (.returned (V.val (sortM s.marks).length)) (V.hp 42 ((sortM s.marks).flatMap eMark) ++ h)) : ACalls Try.prog 40 ⟨[.agg ⟨eSlot s⟩]⟩ h R := by
  refine calls_of_xc (N := 51) Try.func40 rfl (by rfl) ?_
  obtain ⟨hsl9, hsk⟩ := id hsm
  refine xc_seq (xc_region ?_)
  refine xr_op rfl rfl (xv_box rfl (fun b1 hb1 => ?_))
  refine xr_op rfl rfl (xv_assign rfl ?_)
  refine xr_end rfl ?_
  refine th_n ?_
  refine xc_seq (xc_region ?_)
  refine xr_op rfl rfl (xv_assign rfl ?_)
  refine xr_end rfl ?_
  refine th_n ?_
  refine xc_seq ?_
  refine xc_seq (xc_region ?_)
  refine xr_op rfl rfl (xv_assign rfl ?_)
  refine xr_end rfl ?_
  refine th_n ?_
  refine xc_block ?_
  refine xc_loop (σ := Nat × List Mark × Vec) (fun z => z.1 ≤ s.marks.length ∧ z.2.1 = sortM (s.marks.take z.1) ∧ z.2.2.ok 2 z.2.1.length (z.2.1.flatMap eMark)) (fun z => (((emp.put (some 1) (.pointer (some ⟨b1, 0, none⟩))).put (some 3) (z.2.2.val z.2.1.length)).put (some 4) (I z.1))) (fun z => (z.2.2.hp 42 (z.2.1.flatMap eMark) ++ (b1, .cells ⟨eSlot s⟩ 25) :: h)) (fun z => s.marks.length - z.1) ((0, [], .nil) : Nat × List Mark × Vec) ⟨Nat.zero_le _, rfl, rfl, rfl⟩ (le_put (le_put (le_put (le_emp _) rfl) rfl) rfl) (by (first|((repeat first|exact s_0|exact s_1|exact s_3|refine s_4 ?_|refine s_5 ?_|refine s_6 ?_|refine s_7 ?_);done)|((repeat first|exact s_0|exact s_1|exact s_3|refine s_4 ?_|refine s_5 ?_|refine s_6 ?_|refine s_8 ?_);done))) ?_
  rintro ⟨k, out, V⟩ ⟨hk, hrd, hV⟩
  dsimp only at hk hrd hV
  obtain ⟨sa, sc, hsv, hsl⟩ := Vec.slv (enc := eMark) (t := 42) (h := V.hp 42 (out.flatMap eMark)) eMark_len hV (fun _ hz => hz)
  have hsc : out.length ≤ sc := by
    cases V with
    | nil => rw [hV.2]; exact Nat.zero_le _
    | «at» b cap sp => injection hsv with q1 q2 q3; rw [← q3]; exact hV.2.1
  rw [hsv]
  have hol : out.length = k := by rw [hrd, sortM_len, List.length_take]; omega
  refine xc_seq ?_
  refine xc_seq (xc_region ?_)
  refine xr_op rfl rfl (xv_move rfl ?_)
  refine xr_op rfl rfl (xv_faddr fl25_5 rfl ?_)
  refine xr_op rfl rfl (xv_load1 ty23 rfl rfl (by ((repeat first|exact z_0|assumption|refine z_1 ?_|(refine z_l ?_;(repeat first|exact z_0|assumption|refine z_1 ?_);done)|refine z_r ?_);done)) (by rfl) ?_)
  refine xr_op rfl rfl (xv_len sl23 rfl ?_)
  refine xr_op rfl rfl (xv_lss2 rfl rfl (fun q1 => ?_) (fun q1 => ?_))
  · refine xr_end rfl ?_
    refine th_n ?_
    refine xc_true rfl ?_
    refine xc_skip ?_
    refine th_n ?_
    refine xc_seq ?_
    refine xc_block ?_
    refine xc_seq (xc_region ?_)
    have hlto : k < s.marks.length := by (first|omega|(dsimp only at *;omega)|(simp at *;omega))
    obtain ⟨bo, oo, lo, to, fzo, hao, hmo, hxo⟩ := (hs.marks).at hlto
    obtain ⟨xo, hko⟩ : ∃ qq_, s.marks[k]? = some qq_ := ⟨_, List.getElem?_eq_getElem hlto⟩
    refine xr_op rfl rfl (xv_move rfl ?_)
    refine xr_op rfl rfl (xv_len sl23 rfl ?_)
    refine xr_op rfl rfl (xv_assign rfl ?_)
    refine xr_end rfl ?_
    refine th_n ?_
    refine xc_join (σ := Nat) (fun i => i ≤ out.length ∧ (∀ j x, i ≤ j → out[j]? = some x → xo.hour < x.hour) ∧ ∀ x, out[i - 1]? = some x → 0 < i → x.hour ≤ xo.hour) (fun i => ((((emp.put (some 1) (.pointer (some ⟨b1, 0, none⟩))).put (some 3) (.slice sa out.length sc)).put (some 4) (I k)).put (some 5) (I i))) (fun i => (V.hp 42 (out.flatMap eMark) ++ (b1, .cells ⟨eSlot s⟩ 25) :: h)) ?_ ?_
    · refine xc_block ?_
      refine xc_loop (σ := Nat) (fun i => i ≤ out.length ∧ ∀ j x, i ≤ j → out[j]? = some x → xo.hour < x.hour) (fun i => ((((emp.put (some 1) (.pointer (some ⟨b1, 0, none⟩))).put (some 3) (.slice sa out.length sc)).put (some 4) (I k)).put (some 5) (I i))) (fun i => (V.hp 42 (out.flatMap eMark) ++ (b1, .cells ⟨eSlot s⟩ 25) :: h)) (fun i => i) out.length ⟨Nat.le_refl _, fun j x hj hx => absurd (List.getElem?_eq_some_iff.1 hx).1 (by omega)⟩ (le_put (le_put (le_put (le_put (le_emp _) rfl) rfl) rfl) rfl) (by (first|((repeat first|exact s_0|exact s_1|exact s_3|refine s_4 ?_|refine s_5 ?_|refine s_6 ?_|refine s_7 ?_);done)|((repeat first|exact s_0|exact s_1|exact s_3|refine s_4 ?_|refine s_5 ?_|refine s_6 ?_|refine s_8 ?_);done))) ?_
      rintro i ⟨hi, hup⟩
      refine xc_seq ?_
      refine xc_seq ?_
      refine xc_draw0 [(0, .S), (1, .O), (2, .S), (3, .S), (4, .S), (5, .S), (6, .S), (7, .S), (8, .R), (9, .S), (10, .R), (11, .S), (12, .S), (13, .S), (14, .R), (15, .O), (16, .S)] mixed (by kernel_rfl) ?_
      refine js_S rfl rfl (.inl rfl) (xv_move rfl ⟨rfl, rfl⟩) ?_
      refine js_O0 rfl rfl (.inl rfl) (xv_gtr2 rfl rfl (fun hq => ?_) (fun hq => ?_))
      · refine js_S rfl rfl (.inl rfl) (xv_move rfl ⟨rfl, rfl⟩) ?_
        refine js_S rfl rfl (.inr ⟨_, _, rfl, rfl⟩) (xv_move rfl ⟨rfl, rfl⟩) ?_
        refine js_S rfl rfl (.inr ⟨_, _, rfl, rfl⟩) (xv_move rfl ⟨rfl, rfl⟩) ?_
        refine js_S rfl rfl (.inr ⟨_, _, rfl, rfl⟩) (xv_sub rfl rfl (wrap_i64 (by (first|omega|(dsimp only at *;omega)|(simp at *;omega))) (by (first|omega|(dsimp only at *;omega)|(simp at *;omega)))) ⟨rfl, rfl⟩) ?_
        have hltp : (i - 1) < out.length := by (first|omega|(dsimp only at *;omega)|(simp at *;omega))
        obtain ⟨bp, op, lp, tp, fzp, hap, hmp, hxp⟩ := (hsl).at hltp
        obtain ⟨xp, hkp⟩ : ∃ qq_, out[(i - 1)]? = some qq_ := ⟨_, List.getElem?_eq_getElem hltp⟩
        refine js_S rfl rfl (.inr ⟨_, _, rfl, rfl⟩) (xv_ia (sz := 2) (j := (i - 1)) sl23 ty42 rfl (by rw [hap]; rfl) rfl (by omega) (by (first|omega|(dsimp only at *;omega)|(simp at *;omega))) (by (first|omega|(dsimp only at *;omega)|(simp at *;omega))) ⟨rfl, rfl⟩) ?_
        refine js_S rfl rfl (.inr ⟨_, _, rfl, rfl⟩) (xv_faddr fl42_0 rfl ⟨rfl, rfl⟩) ?_
        refine js_R0 rfl rfl (.inr ⟨_, _, rfl, rfl⟩) (xv_load1 ty3 rfl rfl (by ((repeat first|exact z_0|assumption|refine z_1 ?_|(refine z_l ?_;(repeat first|exact z_0|assumption|refine z_1 ?_);done)|refine z_r ?_);done)) (take_get (hxp ((i - 1)) xp hkp) (j := 0) rfl) ⟨rfl, rfl⟩) ?_
        refine js_S rfl rfl (.inr ⟨_, _, rfl, rfl⟩) (xv_faddr fl25_5 rfl ⟨rfl, rfl⟩) ?_
        refine js_R0 rfl rfl (.inr ⟨_, _, rfl, rfl⟩) (xv_load1 ty23 rfl rfl (by ((repeat first|exact z_0|assumption|refine z_1 ?_|(refine z_l ?_;(repeat first|exact z_0|assumption|refine z_1 ?_);done)|refine z_r ?_);done)) (by rfl) ⟨rfl, rfl⟩) ?_
        refine js_S rfl rfl (.inr ⟨_, _, rfl, rfl⟩) (xv_move rfl ⟨rfl, rfl⟩) ?_
        refine js_S rfl rfl (.inr ⟨_, _, rfl, rfl⟩) (xv_ia (sz := 2) (j := k) sl23 ty42 rfl (by rw [hao]; rfl) rfl (by (first | assumption | with_reducible exact Int.toNat_natCast _ | with_reducible rfl | rfl)) (by (first|omega|(dsimp only at *;omega)|(simp at *;omega))) (by (first|omega|(dsimp only at *;omega)|(simp at *;omega))) ⟨rfl, rfl⟩) ?_
        refine js_S rfl rfl (.inr ⟨_, _, rfl, rfl⟩) (xv_faddr fl42_0 rfl ⟨rfl, rfl⟩) ?_
        refine js_R0 rfl rfl (.inr ⟨_, _, rfl, rfl⟩) (xv_load1 ty3 rfl rfl (by ((repeat first|exact z_0|assumption|refine z_1 ?_|(refine z_l ?_;(repeat first|exact z_0|assumption|refine z_1 ?_);done)|refine z_r ?_);done)) (take_get (hxo (k) xo hko) (j := 0) rfl) ⟨rfl, rfl⟩) ?_
        refine js_O0 rfl rfl (.inr ⟨_, _, rfl, rfl⟩) (xv_gtr2 rfl rfl (fun hq => ?_) (fun hq => ?_))
        · refine js_S rfl rfl (.inl rfl) (xv_pick rfl rfl ⟨rfl, rfl⟩) ?_
          refine j_end0 ?_
          refine th_n ?_
          refine xc_true rfl ?_
          refine xc_skip ?_
          refine th_n ?_
          refine xc_block ?_
          refine xc_region ?_
          refine xr_op rfl rfl (xv_move rfl ?_)
          refine xr_op rfl rfl (xv_sub rfl rfl (wrap_i64 (by (first|omega|(dsimp only at *;omega)|(simp at *;omega))) (by (first|omega|(dsimp only at *;omega)|(simp at *;omega)))) ?_)
          refine xr_op rfl rfl (xv_assign rfl ?_)
          refine xr_end rfl ?_
          refine bk_n ?_
          exact rnd (i - 1) ⟨by (first|omega|(dsimp only at *;omega)|(simp at *;omega)), fun j x hj hx => by
            by_cases e : j = i - 1
            · subst e; rw [hkp] at hx; cases hx; (first|omega|(dsimp only at *;omega)|(simp at *;omega))
            · exact hup j x (by omega) hx⟩ (by (first|omega|(dsimp only at *;omega)|(simp at *;omega))) (le_put (le_put (le_put (le_put (le_emp _) rfl) rfl) rfl) (by rw [show ((i - 1 : Nat) : Int) = (i : Int) - 1 by (first|omega|(dsimp only at *;omega)|(simp at *;omega))]; rfl)) (by (first|((repeat first|exact s_0|exact s_1|exact s_3|refine s_4 ?_|refine s_5 ?_|refine s_6 ?_|refine s_7 ?_);done)|((repeat first|exact s_0|exact s_1|exact s_3|refine s_4 ?_|refine s_5 ?_|refine s_6 ?_|refine s_8 ?_);done)))
        · refine js_S rfl rfl (.inl rfl) (xv_pick rfl rfl ⟨rfl, rfl⟩) ?_
          refine j_end0 ?_
          refine th_n ?_
          refine xc_false rfl ?_
          refine xc_exit ?_
          refine th_x ?_
          refine th_x ?_
          refine bk_same ?_
          exact jn_n i ⟨hi, hup, by first | exact (fun x hx h0 => absurd h0 (by (first|omega|(dsimp only at *;omega)|(simp at *;omega)))) | exact (fun x hx h0 => by rw [hkp] at hx; cases hx; (first|omega|(dsimp only at *;omega)|(simp at *;omega)))⟩ (le_put (le_put (le_put (le_put (le_emp _) rfl) rfl) rfl) rfl) (by (first|((repeat first|exact s_0|exact s_1|exact s_3|refine s_4 ?_|refine s_5 ?_|refine s_6 ?_|refine s_7 ?_);done)|((repeat first|exact s_0|exact s_1|exact s_3|refine s_4 ?_|refine s_5 ?_|refine s_6 ?_|refine s_8 ?_);done)))
      · refine js_S rfl rfl (.inl rfl) (xv_move rfl ⟨rfl, rfl⟩) ?_
        refine js_Ss rfl rfl ⟨_, _, _, rfl, rfl, rfl⟩ ?_
        refine js_Ss rfl rfl ⟨_, _, _, rfl, rfl, rfl⟩ ?_
        refine js_Ss rfl rfl ⟨_, _, _, rfl, rfl, rfl⟩ ?_
        refine js_Ss rfl rfl ⟨_, _, _, rfl, rfl, rfl⟩ ?_
        refine js_Ss rfl rfl ⟨_, _, _, rfl, rfl, rfl⟩ ?_
        refine js_Rs rfl rfl ⟨_, _, _, rfl, rfl, rfl⟩ ?_
        refine js_Ss rfl rfl ⟨_, _, _, rfl, rfl, rfl⟩ ?_
        refine js_Rs rfl rfl ⟨_, _, _, rfl, rfl, rfl⟩ ?_
        refine js_Ss rfl rfl ⟨_, _, _, rfl, rfl, rfl⟩ ?_
        refine js_Ss rfl rfl ⟨_, _, _, rfl, rfl, rfl⟩ ?_
        refine js_Ss rfl rfl ⟨_, _, _, rfl, rfl, rfl⟩ ?_
        refine js_Rs rfl rfl ⟨_, _, _, rfl, rfl, rfl⟩ ?_
        refine js_Os rfl rfl ⟨_, _, _, rfl, rfl, rfl⟩ ?_
        refine js_S rfl rfl (.inl rfl) (xv_pick rfl rfl ⟨rfl, rfl⟩) ?_
        refine j_end0 ?_
        refine th_n ?_
        refine xc_false rfl ?_
        refine xc_exit ?_
        refine th_x ?_
        refine th_x ?_
        refine bk_same ?_
        exact jn_n i ⟨hi, hup, by first | exact (fun x hx h0 => absurd h0 (by (first|omega|(dsimp only at *;omega)|(simp at *;omega)))) | exact (fun x hx h0 => by rw [hkp] at hx; cases hx; (first|omega|(dsimp only at *;omega)|(simp at *;omega)))⟩ (le_put (le_put (le_put (le_put (le_emp _) rfl) rfl) rfl) rfl) (by (first|((repeat first|exact s_0|exact s_1|exact s_3|refine s_4 ?_|refine s_5 ?_|refine s_6 ?_|refine s_7 ?_);done)|((repeat first|exact s_0|exact s_1|exact s_3|refine s_4 ?_|refine s_5 ?_|refine s_6 ?_|refine s_8 ?_);done)))
    · rintro i ⟨hi, hup, hlow⟩
      refine xc_drawX0 [(6, [(b1, fun o => o = .cells ⟨eSlot s⟩ 25 (0, 0))]), (9, [(bo, fun o => o = .cells ⟨lo⟩ to fzo)])] [(0, .P), (1, .S), (2, .S), (3, .S), (5, .S), (6, .S), (7, .S), (8, .S), (9, .S), (10, .P), (12, .S), (13, .S), (14, .S), (0, .A), (4, .O), (10, .A), (11, .O), (15, .O), (16, .S)] mixed (by kernel_rfl) (iv_cons (holds1 (by ((repeat first|exact z_0|assumption|refine z_1 ?_|(refine z_l ?_;(repeat first|exact z_0|assumption|refine z_1 ?_);done)|refine z_r ?_);done)) rfl) (iv_cons (holds1 (by ((repeat first|exact z_0|assumption|refine z_1 ?_|(refine z_l ?_;(repeat first|exact z_0|assumption|refine z_1 ?_);done)|refine z_r ?_);done)) rfl) iv_nil)) ?_
      refine jx_P rfl rfl rfl (al_buildSlice sl23 ty42 rfl rfl rfl rfl rfl (by ((try apply evl_some rfl);(repeat (first|exact (rfl : _ = [])|apply evl_cons rfl (by (first|exact v_1|exact v_2|exact v_3|exact v_4|exact v_5|exact v_6|exact v_7|exact v_8|exact v_9|exact rfl))|exact rfl))))) ?_
      refine jx_S rfl rfl (.inl rfl) (xv_move rfl ⟨rfl, rfl⟩) ?_
      refine jx_S rfl rfl (.inl rfl) (xv_move rfl ⟨rfl, rfl⟩) ?_
      refine jx_S rfl rfl (.inl rfl) (xv_sliceToN (m := i) sl23 ty42 rfl rfl (by (first|omega|(dsimp only at *;omega)|(simp at *;omega))) (by (first|omega|(dsimp only at *;omega)|(simp at *;omega))) (by (first | assumption | with_reducible exact Int.toNat_natCast _ | with_reducible rfl | rfl)) ⟨rfl, rfl⟩) ?_
      refine jx_S rfl rfl (.inl rfl) (xv_faddr fl25_5 rfl ⟨rfl, rfl⟩) ?_
      refine jx_I rfl rfl (.inl rfl) (fun hh hv => by have hv2 : Holds [(b1, fun o => o = .cells ⟨eSlot s⟩ 25 (0, 0))] hh := hv; obtain ⟨o9, hm9, e9⟩ := hv2 _ _ List.mem_cons_self; subst e9; exact xv_load1 ty23 rfl rfl hm9 rfl ⟨rfl, rfl⟩) ?_
      refine jx_S rfl rfl (.inl rfl) (xv_move rfl ⟨rfl, rfl⟩) ?_
      refine jx_S rfl rfl (.inl rfl) (xv_ia (sz := 2) (j := k) sl23 ty42 rfl (by rw [hao]; rfl) rfl (by (first | assumption | with_reducible exact Int.toNat_natCast _ | with_reducible rfl | rfl)) (by (first|omega|(dsimp only at *;omega)|(simp at *;omega))) (by (first|omega|(dsimp only at *;omega)|(simp at *;omega))) ⟨rfl, rfl⟩) ?_
      refine jx_I rfl rfl (.inl rfl) (fun hh hv => by have hv2 : Holds [(bo, fun o => o = .cells ⟨lo⟩ to fzo)] hh := hv; obtain ⟨o9, hm9, e9⟩ := hv2 _ _ List.mem_cons_self; subst e9; exact xv_loadA ty42 rfl rfl hm9 (hxo k xo hko) rfl ⟨rfl, rfl⟩) ?_
      refine jx_P rfl rfl rfl (al_buildSlice sl23 ty42 rfl rfl rfl rfl rfl (by ((try apply evl_some rfl);(repeat (first|exact (rfl : _ = [])|apply evl_cons rfl (by (first|exact v_1|exact v_2|exact v_3|exact v_4|exact v_5|exact v_6|exact v_7|exact v_8|exact v_9|exact rfl))|exact rfl))))) ?_
      refine jx_S rfl rfl (.inl rfl) (xv_move rfl ⟨rfl, rfl⟩) ?_
      refine jx_S rfl rfl (.inl rfl) (xv_move rfl ⟨rfl, rfl⟩) ?_
      refine jx_S rfl rfl (.inl rfl) (xv_sliceFrom (m := i) sl23 ty42 rfl rfl rfl (by (first | assumption | with_reducible exact Int.toNat_natCast _ | with_reducible rfl | rfl)) (by (first|omega|(dsimp only at *;omega)|(simp at *;omega))) (by (first|omega|(dsimp only at *;omega)|(simp at *;omega))) ⟨rfl, rfl⟩) ?_
      refine jx_A rfl rfl rfl rfl rfl trivial (fun b34 hb34 => ?_)
      refine jx_O rfl rfl (.inl rfl) (xv_appendL (V := .at b34 0 []) (n := 0) (xs := []) (ys := out.take i) sl23 ty42 rfl rfl rfl (by rw [List.length_take, Nat.min_eq_left hi]; rfl) ⟨rfl, Nat.le_refl _, rfl⟩ .here ((hsl.take i).sub (by intro z hz; ((repeat first|exact z_0|assumption|refine z_1 ?_|(refine z_l ?_;(repeat first|exact z_0|assumption|refine z_1 ?_);done)|refine z_r ?_);done))) eMark_len eMark_1 (by rw [List.length_take]; simp only []; omega) (by rw [List.length_take]; omega) (fun V1 hV1 => ?_))
      refine ⟨(kp_in (holds1 (by ((repeat first|exact z_0|assumption|refine z_1 ?_|(refine z_l ?_;(repeat first|exact z_0|assumption|refine z_1 ?_);done)|refine z_r ?_);done)) rfl) (kp_in (holds1 (by ((repeat first|exact z_0|assumption|refine z_1 ?_|(refine z_l ?_;(repeat first|exact z_0|assumption|refine z_1 ?_);done)|refine z_r ?_);done)) rfl) kp_nil)), ?_⟩
      refine jx_A rfl rfl rfl rfl rfl ⟨rfl, trivial⟩ (fun b44 hb44 => ?_)
      refine jx_O rfl rfl (.inl rfl) (xv_append (V := V1) (n := 0 + (out.take i).length) (xs := [] ++ (out.take i).flatMap eMark) sl23 ty42 rfl rfl rfl hV1 (.there .here) (by ((repeat first|exact z_0|assumption|refine z_1 ?_|(refine z_l ?_;(repeat first|exact z_0|assumption|refine z_1 ?_);done)|refine z_r ?_);done)) (by ((try apply evl_some rfl);(repeat (first|exact (rfl : _ = [])|apply evl_cons rfl (by (first|exact v_1|exact v_2|exact v_3|exact v_4|exact v_5|exact v_6|exact v_7|exact v_8|exact v_9|exact rfl))|exact rfl)))) rfl rfl (by omega) (by rw [List.length_take]; simp only []; omega) (by rw [List.length_take]; omega) (fun V2 hV2 => ?_))
      refine ⟨(kp_go (by kernel_rfl) (kp_go (by kernel_rfl) kp_nil)), ?_⟩
      refine jx_O rfl rfl (.inl rfl) (xv_appendL (V := V2) (n := 0 + (out.take i).length + 1) (xs := [] ++ (out.take i).flatMap eMark ++ eMark xo) (ys := out.drop i) sl23 ty42 rfl rfl rfl (by rw [List.length_drop]; rfl) hV2 .here ((slv_dropA hsl hsc).sub (by intro z hz; ((repeat first|exact z_0|assumption|refine z_1 ?_|(refine z_l ?_;(repeat first|exact z_0|assumption|refine z_1 ?_);done)|refine z_r ?_);done))) eMark_len eMark_1 (by rw [List.length_take, List.length_drop]; simp only []; omega) (by rw [List.length_take, List.length_drop]; omega) (fun V3 hV3 => ?_))
      refine ⟨(kp_go (by kernel_rfl) (kp_go (by kernel_rfl) kp_nil)), ?_⟩
      refine jx_S rfl rfl (.inl rfl) (xv_assign rfl ⟨rfl, rfl⟩) ?_
      refine jx_end ?_
      refine bk_n ?_
      refine th_n ?_
      refine xc_region ?_
      refine xr_op rfl rfl (xv_move rfl ?_)
      refine xr_op rfl rfl (xv_add rfl rfl (wrap_i64 (by (first|omega|(dsimp only at *;omega)|(simp at *;omega))) (by (first|omega|(dsimp only at *;omega)|(simp at *;omega)))) ?_)
      refine xr_op rfl rfl (xv_assign rfl ?_)
      refine xr_end rfl ?_
      have hins : insM xo out = (out.take i ++ xo :: out.drop i) := insM_at hi hlow hup (by rw [hrd]; exact sortM_srtd _)
      have hrd2 : (out.take i ++ xo :: out.drop i) = sortM (s.marks.take (k + 1)) := by rw [List.take_add_one, hko, ← hins, hrd]; exact (sortM_snoc _ _).symm
      have hl9 : (out.take i ++ xo :: out.drop i).length = 0 + (out.take i).length + 1 + (out.drop i).length := by rw [List.length_append, List.length_cons]; omega
      have hf9 : (out.take i ++ xo :: out.drop i).flatMap eMark = [] ++ (out.take i).flatMap eMark ++ eMark xo ++ (out.drop i).flatMap eMark := by rw [List.flatMap_append, List.flatMap_cons, List.nil_append, List.append_assoc]
      exact rnd ((k + 1, (out.take i ++ xo :: out.drop i), V3) : Nat × List Mark × Vec) ⟨by (first|omega|(dsimp only at *;omega)|(simp at *;omega)), hrd2, by dsimp only; rw [hl9, hf9]; exact hV3⟩ (by (first|omega|(dsimp only at *;omega)|(simp at *;omega))) (le_put (le_put (le_put (le_emp _) rfl) (by dsimp only; rw [hl9]; rfl)) rfl) (by dsimp only; rw [hf9]; (first|((repeat first|exact s_0|exact s_1|exact s_3|refine s_4 ?_|refine s_5 ?_|refine s_6 ?_|refine s_7 ?_);done)|((repeat first|exact s_0|exact s_1|exact s_3|refine s_4 ?_|refine s_5 ?_|refine s_6 ?_|refine s_8 ?_);done)))
  · refine xr_end rfl ?_
    refine th_n ?_
    refine xc_false rfl ?_
    refine xc_exit ?_
    refine th_x ?_
    refine th_x ?_
    refine bk_same ?_
    refine th_n ?_
    refine xc_seq (xc_region ?_)
    obtain rfl : s.marks.length = k := by (first|omega|(dsimp only at *;omega)|(simp at *;omega))
    rw [List.take_length] at hrd
    subst hrd
    refine xr_op rfl rfl (xv_move rfl ?_)
    refine xr_op rfl rfl (xv_assign rfl ?_)
    refine xr_end rfl ?_
    refine th_n ?_
    refine xc_ret ?_
    refine body_ret (h' := (V.hp 42 ((sortM s.marks).flatMap eMark) ++ h)) rfl (ro_tmp rfl ro_nil) (by (first|((repeat first|exact s_0|exact s_1|exact s_3|refine s_4 ?_|refine s_5 ?_|refine s_6 ?_|refine s_7 ?_);done)|((repeat first|exact s_0|exact s_1|exact s_3|refine s_4 ?_|refine s_5 ?_|refine s_6 ?_|refine s_8 ?_);done))) ?_
    (rw [← hsv]; exact H V hV)

end Go.Proofs.Ytlcdbjgfeoagbaa

/-
  Walks.
-/
namespace Go.Proofs.Ytlcdbjgfeoagbaa
open Go Go.H
set_option maxRecDepth 100000
set_option maxHeartbeats 8000000
set_option linter.all false
end Go.Proofs.Ytlcdbjgfeoagbaa

/-
  Walks.
-/
namespace Go.Proofs.Ytlcdbjgfeoagbaa
open Go Go.H
set_option maxRecDepth 100000
set_option maxHeartbeats 8000000
set_option linter.all false
theorem end_c {s : Slot} {h : Hp} {R : Ending → Hp → Prop} (hs : SlotV h s) (hsm : Small s) (hgs : GoodSlot s) {k : Nat} {ki : Int} (hki : ki = k) (hk : k < s.tars.length) (H : R (.returned (I (endT s k))) h) : ACalls Try.prog 99 ⟨[.agg ⟨eSlot s⟩, I ki]⟩ h R := by
  refine calls_of_xc (N := 21) Try.func99 rfl (by rfl) ?_
  subst hki
  obtain ⟨hsl9, hsk⟩ := id hsm
  refine xc_seq (xc_region ?_)
  refine xr_op rfl rfl (xv_box rfl (fun b2 hb2 => ?_))
  refine xr_op rfl rfl (xv_assign rfl ?_)
  refine xr_end rfl ?_
  refine th_n ?_
  refine xc_seq ?_
  refine xc_seq (xc_region ?_)
  refine xr_op rfl rfl (xv_move rfl ?_)
  refine xr_op rfl rfl (xv_add rfl rfl (wrap_i64 (by (first|omega|(dsimp only at *;omega)|(simp at *;omega))) (by (first|omega|(dsimp only at *;omega)|(simp at *;omega)))) ?_)
  refine xr_op rfl rfl (xv_faddr fl25_4 rfl ?_)
  refine xr_op rfl rfl (xv_load1 ty22 rfl rfl (by ((repeat first|exact z_0|assumption|refine z_1 ?_|(refine z_l ?_;(repeat first|exact z_0|assumption|refine z_1 ?_);done)|refine z_r ?_);done)) (by rfl) ?_)
  refine xr_op rfl rfl (xv_len sl22 rfl ?_)
  refine xr_op rfl rfl (xv_lss2 rfl rfl (fun q1 => ?_) (fun q1 => ?_))
  · refine xr_end rfl ?_
    refine th_n ?_
    refine xc_true rfl ?_
    refine xc_seq (xc_region ?_)
    refine xr_op rfl rfl (xv_faddr fl25_4 rfl ?_)
    refine xr_op rfl rfl (xv_load1 ty22 rfl rfl (by ((repeat first|exact z_0|assumption|refine z_1 ?_|(refine z_l ?_;(repeat first|exact z_0|assumption|refine z_1 ?_);done)|refine z_r ?_);done)) (by rfl) ?_)
    refine xr_op rfl rfl (xv_move rfl ?_)
    refine xr_op rfl rfl (xv_add rfl rfl (wrap_i64 (by (first|omega|(dsimp only at *;omega)|(simp at *;omega))) (by (first|omega|(dsimp only at *;omega)|(simp at *;omega)))) ?_)
    have hltp : (k + 1) < s.tars.length := by (first|omega|(dsimp only at *;omega)|(simp at *;omega))
    obtain ⟨bp, op, lp, tp, fzp, hap, hmp, hxp⟩ := (hs.tars).at hltp
    obtain ⟨xp, hkp⟩ : ∃ qq_, s.tars[(k + 1)]? = some qq_ := ⟨_, List.getElem?_eq_getElem hltp⟩
    have hfb := frm_bd hgs hkp
    refine xr_op rfl rfl (xv_ia (sz := 2) (j := (k + 1)) sl22 ty54 rfl (by rw [hap]; rfl) rfl (by omega) (by (first|omega|(dsimp only at *;omega)|(simp at *;omega))) (by (first|omega|(dsimp only at *;omega)|(simp at *;omega))) ?_)
    refine xr_op rfl rfl (xv_faddr fl54_0 rfl ?_)
    refine xr_op rfl rfl (xv_load1 ty3 rfl rfl (by ((repeat first|exact z_0|assumption|refine z_1 ?_|(refine z_l ?_;(repeat first|exact z_0|assumption|refine z_1 ?_);done)|refine z_r ?_);done)) (take_get (hxp ((k + 1)) xp hkp) (j := 0) rfl) ?_)
    refine xr_op rfl rfl (xv_sub rfl rfl (wrap_i64 (by (first|omega|(dsimp only at *;omega)|(simp at *;omega))) (by (first|omega|(dsimp only at *;omega)|(simp at *;omega)))) ?_)
    refine xr_op rfl rfl (xv_assign rfl ?_)
    refine xr_end rfl ?_
    refine th_n ?_
    refine xc_ret ?_
    refine th_r ?_
    refine body_ret (h' := h) rfl (ro_tmp rfl ro_nil) (by (first|((repeat first|exact s_0|exact s_1|exact s_3|refine s_4 ?_|refine s_5 ?_|refine s_6 ?_|refine s_7 ?_);done)|((repeat first|exact s_0|exact s_1|exact s_3|refine s_4 ?_|refine s_5 ?_|refine s_6 ?_|refine s_8 ?_);done))) ?_
    first | (rw [endT_p hkp] at H; exact H) | (rw [endT_n (by (first|omega|(dsimp only at *;omega)|(simp at *;omega)))] at H; exact H)
  · refine xr_end rfl ?_
    refine th_n ?_
    refine xc_false rfl ?_
    refine xc_skip ?_
    refine th_n ?_
    refine xc_seq (xc_region ?_)
    refine xr_op rfl rfl (xv_faddr fl25_3 rfl ?_)
    refine xr_op rfl rfl (xv_load1 ty3 rfl rfl (by ((repeat first|exact z_0|assumption|refine z_1 ?_|(refine z_l ?_;(repeat first|exact z_0|assumption|refine z_1 ?_);done)|refine z_r ?_);done)) (by rfl) ?_)
    refine xr_op rfl rfl (xv_assign rfl ?_)
    refine xr_end rfl ?_
    refine th_n ?_
    refine xc_ret ?_
    refine body_ret (h' := h) rfl (ro_tmp rfl ro_nil) (by (first|((repeat first|exact s_0|exact s_1|exact s_3|refine s_4 ?_|refine s_5 ?_|refine s_6 ?_|refine s_7 ?_);done)|((repeat first|exact s_0|exact s_1|exact s_3|refine s_4 ?_|refine s_5 ?_|refine s_6 ?_|refine s_8 ?_);done))) ?_
    first | (rw [endT_p hkp] at H; exact H) | (rw [endT_n (by (first|omega|(dsimp only at *;omega)|(simp at *;omega)))] at H; exact H)

theorem worth_c {s : Slot} {h : Hp} {R : Ending → Hp → Prop} (hs : SlotV h s) (hsm : Small s) (hgs : GoodSlot s) {na : Option Addr} {nc : Nat} {n : List Int} (hn : SlV h 1 eI na n) (hnb : ∀ x ∈ n, 0 ≤ x ∧ x ≤ 24) (hnl : n.length ≤ s.tars.length) (H : R (.returned (I (worthN s n n.length))) h) : ACalls Try.prog 45 ⟨[.agg ⟨eSlot s⟩, .slice na n.length nc]⟩ h R := by
  refine calls_of_xc (N := 27) Try.func45 rfl (by rfl) ?_
  obtain ⟨hsl9, hsk⟩ := id hsm
  refine xc_seq (xc_region ?_)
  refine xr_op rfl rfl (xv_box rfl (fun b2 hb2 => ?_))
  refine xr_op rfl rfl (xv_assign rfl ?_)
  refine xr_end rfl ?_
  refine th_n ?_
  refine xc_seq (xc_region ?_)
  refine xr_op rfl rfl (xv_assign rfl ?_)
  refine xr_end rfl ?_
  refine th_n ?_
  refine xc_seq ?_
  refine xc_seq (xc_region ?_)
  refine xr_op rfl rfl (xv_assign rfl ?_)
  refine xr_end rfl ?_
  refine th_n ?_
  refine xc_block ?_
  refine xc_loop (σ := Nat) (fun k => k ≤ n.length) (fun k => ((((emp.put (some 1) (.slice na n.length nc)).put (some 2) (.pointer (some ⟨b2, 0, none⟩))).put (some 5) (I (worthN s n k))).put (some 6) (I k))) (fun k => ((b2, .cells ⟨eSlot s⟩ 25) :: h)) (fun k => n.length - k) 0 (Nat.zero_le _) (le_put (le_put (le_put (le_put (le_emp _) rfl) rfl) rfl) rfl) (by (first|((repeat first|exact s_0|exact s_1|exact s_3|refine s_4 ?_|refine s_5 ?_|refine s_6 ?_|refine s_7 ?_);done)|((repeat first|exact s_0|exact s_1|exact s_3|refine s_4 ?_|refine s_5 ?_|refine s_6 ?_|refine s_8 ?_);done))) ?_
  rintro k hk
  refine xc_seq ?_
  refine xc_seq (xc_region ?_)
  refine xr_op rfl rfl (xv_move rfl ?_)
  refine xr_op rfl rfl (xv_move rfl ?_)
  refine xr_op rfl rfl (xv_len sl26 rfl ?_)
  refine xr_op rfl rfl (xv_lss2 rfl rfl (fun q1 => ?_) (fun q1 => ?_))
  · refine xr_end rfl ?_
    refine th_n ?_
    refine xc_true rfl ?_
    refine xc_skip ?_
    refine th_n ?_
    refine xc_seq ?_
    refine xc_block ?_
    refine xc_draw0 [(0, .S), (1, .S), (2, .S), (3, .S), (4, .R), (5, .S), (6, .R), (7, .S), (8, .S), (9, .S), (10, .R), (11, .S), (12, .S), (13, .S)] mixed (by kernel_rfl) ?_
    refine js_S rfl rfl (.inl rfl) (xv_move rfl ⟨rfl, rfl⟩) ?_
    refine js_S rfl rfl (.inl rfl) (xv_move rfl ⟨rfl, rfl⟩) ?_
    refine js_S rfl rfl (.inl rfl) (xv_move rfl ⟨rfl, rfl⟩) ?_
    have hlto : k < n.length := by (first|omega|(dsimp only at *;omega)|(simp at *;omega))
    obtain ⟨bo, oo, lo, to, fzo, hao, hmo, hxo⟩ := (hn).at hlto
    obtain ⟨xo, hko⟩ : ∃ qq_, n[k]? = some qq_ := ⟨_, List.getElem?_eq_getElem hlto⟩
    have hwb := worthN_bd hgs.feet hnb hnl k (by (first|omega|(dsimp only at *;omega)|(simp at *;omega)))
    have hxb := hnb xo (List.mem_of_getElem? hko)
    refine js_S rfl rfl (.inl rfl) (xv_ia (sz := 1) (j := k) sl26 ty3 rfl (by rw [hao]; rfl) rfl (by (first | assumption | with_reducible exact Int.toNat_natCast _ | with_reducible rfl | rfl)) (by (first|omega|(dsimp only at *;omega)|(simp at *;omega))) (by (first|omega|(dsimp only at *;omega)|(simp at *;omega))) ⟨rfl, rfl⟩) ?_
    refine js_R0 rfl rfl (.inl rfl) (xv_load1 ty3 rfl rfl (by ((repeat first|exact z_0|assumption|refine z_1 ?_|(refine z_l ?_;(repeat first|exact z_0|assumption|refine z_1 ?_);done)|refine z_r ?_);done)) (take_get (hxo (k) xo hko) (j := 0) rfl) ⟨rfl, rfl⟩) ?_
    refine js_S rfl rfl (.inl rfl) (xv_faddr fl25_4 rfl ⟨rfl, rfl⟩) ?_
    refine js_R0 rfl rfl (.inl rfl) (xv_load1 ty22 rfl rfl (by ((repeat first|exact z_0|assumption|refine z_1 ?_|(refine z_l ?_;(repeat first|exact z_0|assumption|refine z_1 ?_);done)|refine z_r ?_);done)) (by rfl) ⟨rfl, rfl⟩) ?_
    refine js_S rfl rfl (.inl rfl) (xv_move rfl ⟨rfl, rfl⟩) ?_
    have hltt : k < s.tars.length := by omega
    obtain ⟨bt, ot, lt, tt, fzt, hat, hmt, hxt⟩ := (hs.tars).at hltt
    obtain ⟨xt, hkt⟩ : ∃ qq_, s.tars[k]? = some qq_ := ⟨_, List.getElem?_eq_getElem hltt⟩
    have htf := hgs.feet xt (List.mem_of_getElem? hkt)
    have hmb := mul_bd hxb htf
    refine js_S rfl rfl (.inl rfl) (xv_ia (sz := 2) (j := k) sl22 ty54 rfl (by rw [hat]; rfl) rfl (by (first | assumption | with_reducible exact Int.toNat_natCast _ | with_reducible rfl | rfl)) (by (first|omega|(dsimp only at *;omega)|(simp at *;omega))) (by (first|omega|(dsimp only at *;omega)|(simp at *;omega))) ⟨rfl, rfl⟩) ?_
    refine js_S rfl rfl (.inl rfl) (xv_faddr fl54_1 rfl ⟨rfl, rfl⟩) ?_
    refine js_R0 rfl rfl (.inl rfl) (xv_load1 ty3 rfl rfl (by ((repeat first|exact z_0|assumption|refine z_1 ?_|(refine z_l ?_;(repeat first|exact z_0|assumption|refine z_1 ?_);done)|refine z_r ?_);done)) (take_get (hxt (k) xt hkt) (j := 1) rfl) ⟨rfl, rfl⟩) ?_
    refine js_S rfl rfl (.inl rfl) (xv_mul rfl rfl (wrap_i64 (by (first|omega|(dsimp only at *;omega)|(simp at *;omega))) (by (first|omega|(dsimp only at *;omega)|(simp at *;omega)))) ⟨rfl, rfl⟩) ?_
    refine js_S rfl rfl (.inl rfl) (xv_add rfl rfl (wrap_i64 (by (first|omega|(dsimp only at *;omega)|(simp at *;omega))) (by (first|omega|(dsimp only at *;omega)|(simp at *;omega)))) ⟨rfl, rfl⟩) ?_
    refine js_S rfl rfl (.inl rfl) (xv_assign rfl ⟨rfl, rfl⟩) ?_
    refine j_end0 ?_
    refine bk_n ?_
    refine th_n ?_
    refine xc_region ?_
    refine xr_op rfl rfl (xv_move rfl ?_)
    refine xr_op rfl rfl (xv_add rfl rfl (wrap_i64 (by (first|omega|(dsimp only at *;omega)|(simp at *;omega))) (by (first|omega|(dsimp only at *;omega)|(simp at *;omega)))) ?_)
    refine xr_op rfl rfl (xv_assign rfl ?_)
    refine xr_end rfl ?_
    exact rnd (k + 1) (by (first|omega|(dsimp only at *;omega)|(simp at *;omega))) (by (first|omega|(dsimp only at *;omega)|(simp at *;omega))) (le_put (le_put (le_put (le_put (le_emp _) rfl) rfl) (by rw [worthN_at hko hkt]; rfl)) rfl) (by (first|((repeat first|exact s_0|exact s_1|exact s_3|refine s_4 ?_|refine s_5 ?_|refine s_6 ?_|refine s_7 ?_);done)|((repeat first|exact s_0|exact s_1|exact s_3|refine s_4 ?_|refine s_5 ?_|refine s_6 ?_|refine s_8 ?_);done)))
  · refine xr_end rfl ?_
    refine th_n ?_
    refine xc_false rfl ?_
    refine xc_exit ?_
    refine th_x ?_
    refine th_x ?_
    refine bk_same ?_
    refine th_n ?_
    refine xc_seq (xc_region ?_)
    obtain rfl : n.length = k := by (first|omega|(dsimp only at *;omega)|(simp at *;omega))
    refine xr_op rfl rfl (xv_move rfl ?_)
    refine xr_op rfl rfl (xv_assign rfl ?_)
    refine xr_end rfl ?_
    refine th_n ?_
    refine xc_ret ?_
    refine body_ret (h' := h) rfl (ro_tmp rfl ro_nil) (by (first|((repeat first|exact s_0|exact s_1|exact s_3|refine s_4 ?_|refine s_5 ?_|refine s_6 ?_|refine s_7 ?_);done)|((repeat first|exact s_0|exact s_1|exact s_3|refine s_4 ?_|refine s_5 ?_|refine s_6 ?_|refine s_8 ?_);done))) ?_
    exact H

end Go.Proofs.Ytlcdbjgfeoagbaa
