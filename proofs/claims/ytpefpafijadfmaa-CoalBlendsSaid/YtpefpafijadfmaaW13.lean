/-
  Walks.
-/
import Derived.Test.YtpefpafijadfmaaW8
import Derived.Test.YtpefpafijadfmaaHT
import Derived.Test.YtpefpafijadfmaaHW
import Derived.Test.YtpefpafijadfmaaW15
namespace Go.Proofs.Ytpefpafijadfmaa
open Go Go.H
set_option maxRecDepth 100000
set_option maxHeartbeats 8000000
set_option linter.all false
theorem order2_c {bb cap N : Nat} {sp : List Value} {d : Array Share} {f : Value} {cm : Share → Share → Int} {p : Share → Prop} {L : Hp} {R : Ending → Hp → Prop} (hA : Arr N p d) (hN : N ≤ 49) (hf : ∀ x y, p x → p y → ∀ H R', L ⊆ H → R' (.returned (I (cm x y))) H → AFn Try.prog f [.agg ⟨eShare x⟩, .agg ⟨eShare y⟩] H R') {bs a b s : Nat} {ai bi : Int} (ea : ai = a) (eb : bi = b) (ha : a < N) (hb : b < N) (hs : s ≤ 1000) (H : R (.returned (.tuple ⟨[I (Go.Sort.order2 (ltc cm) d a b s).1, I (Go.Sort.order2 (ltc cm) d a b s).2.1]⟩)) ((bs, .cells ⟨[I (Go.Sort.order2 (ltc cm) d a b s).2.2]⟩ 3) :: (bb, .cells ⟨(d).toList.flatMap eShare ++ sp⟩ 93) :: L)) :
    ACalls Try.prog 79 ⟨[.slice (some ⟨bb, 0, none⟩) N cap, I ai, I bi, .pointer (some ⟨bs, 0, none⟩), f]⟩ ((bs, .cells ⟨[I s]⟩ 3) :: (bb, .cells ⟨(d).toList.flatMap eShare ++ sp⟩ 93) :: L) R := by
  subst ea eb
  refine calls_of_xc (N := 32) Try.func79 rfl (by rfl) ?_
  refine xc_seq (xc_region ?_)
  refine xr_op rfl rfl (xv_assign rfl ?_)
  refine xr_op rfl rfl (xv_assign rfl ?_)
  refine xr_end rfl ?_
  refine th_n ?_
  refine xc_seq ?_
  refine xc_seq ?_
  refine xc_draw0 [(0, .S), (1, .S), (2, .S), (3, .S), (4, .R), (5, .S), (6, .S), (7, .S), (8, .R), (9, .R), (10, .O)] mixed (by kernel_rfl) ?_
  refine js_S rfl rfl (.inl rfl) (xv_move rfl ⟨rfl, rfl⟩) ?_
  refine js_S rfl rfl (.inl rfl) (xv_move rfl ⟨rfl, rfl⟩) ?_
  refine js_S rfl rfl (.inl rfl) (xv_move rfl ⟨rfl, rfl⟩) ?_
  refine js_S rfl rfl (.inl rfl) (xv_ia (sz := 2) (j := b) sl95 ty93 rfl rfl rfl (by (first|omega|(dsimp only at *;omega)|(simp at *;omega))) (by (first|omega|(dsimp only at *;omega)|(simp at *;omega))) (by (first|omega|(dsimp only at *;omega)|(simp at *;omega))) ⟨rfl, rfl⟩) ?_
  refine js_R0 rfl rfl (.inl rfl) (xv_loadA ty93 rfl rfl (by ((repeat first|exact z_0|assumption|refine z_1 ?_|(refine z_l ?_;(repeat first|exact z_0|assumption|refine z_1 ?_);done)|refine z_r ?_);done)) (ca_get eShare_len (k := b) (by rw [hA.size]; (first|omega|(dsimp only at *;omega)|(simp at *;omega)))) rfl ⟨rfl, rfl⟩) ?_
  refine js_S rfl rfl (.inl rfl) (xv_move rfl ⟨rfl, rfl⟩) ?_
  refine js_S rfl rfl (.inl rfl) (xv_move rfl ⟨rfl, rfl⟩) ?_
  refine js_S rfl rfl (.inl rfl) (xv_ia (sz := 2) (j := a) sl95 ty93 rfl rfl rfl (by (first|omega|(dsimp only at *;omega)|(simp at *;omega))) (by (first|omega|(dsimp only at *;omega)|(simp at *;omega))) (by (first|omega|(dsimp only at *;omega)|(simp at *;omega))) ⟨rfl, rfl⟩) ?_
  refine js_R0 rfl rfl (.inl rfl) (xv_loadA ty93 rfl rfl (by ((repeat first|exact z_0|assumption|refine z_1 ?_|(refine z_l ?_;(repeat first|exact z_0|assumption|refine z_1 ?_);done)|refine z_r ?_);done)) (ca_get eShare_len (k := a) (by rw [hA.size]; (first|omega|(dsimp only at *;omega)|(simp at *;omega)))) rfl ⟨rfl, rfl⟩) ?_
  refine js_R0 rfl rfl (.inl rfl) (xv_fn rfl rfl (hf _ _ (hA.all _ (by (first|omega|(dsimp only at *;omega)|(simp at *;omega)))) (hA.all _ (by (first|omega|(dsimp only at *;omega)|(simp at *;omega)))) _ _ (by intro z hz; ((repeat first|exact z_0|assumption|refine z_1 ?_|(refine z_l ?_;(repeat first|exact z_0|assumption|refine z_1 ?_);done)|refine z_r ?_);done)) (up_ret ⟨rfl, rfl⟩))) ?_
  refine js_O0 rfl rfl (.inl rfl) (xv_lss2 rfl rfl (fun hq => ?_) (fun hq => ?_))
  · refine j_end0 ?_
    refine th_n ?_
    refine xc_true rfl ?_
    refine xc_seq (xc_region ?_)
    refine xr_op rfl rfl (xv_move rfl ?_)
    refine xr_op rfl rfl (xv_nilp rfl ?_)
    refine xr_op rfl rfl (xv_load1 ty3 rfl rfl (by ((repeat first|exact z_0|assumption|refine z_1 ?_|(refine z_l ?_;(repeat first|exact z_0|assumption|refine z_1 ?_);done)|refine z_r ?_);done)) (by rfl) ?_)
    refine xr_op rfl rfl (xv_add rfl rfl (wrap_i64 (by (first|omega|(dsimp only at *;omega)|(simp at *;omega))) (by (first|omega|(dsimp only at *;omega)|(simp at *;omega)))) ?_)
    refine xr_op rfl rfl (xv_nilp rfl ?_)
    refine xr_op rfl rfl (xv_s1 ty3 rfl rfl rfl (by (first|(apply u_3;(repeat first|exact u_0|assumption|apply u_1|apply u_2);done)|((repeat first|exact u_0|assumption|apply u_1|apply u_2);done)|(apply u_3;apply u_3;(repeat first|exact u_0|assumption|apply u_1|apply u_2);done)|((repeat first|exact u_0|assumption|apply u_3|apply u_1);done))) (by (first | rfl | exact Vec.one _ _)) (by (first | decide | exact Nat.le_of_ble_eq_true rfl | (simp only [List.length_cons, List.length_nil]; omega) | (simp; done))) (by ((try apply evl_some rfl);(repeat (first|exact (rfl : _ = [])|apply evl_cons rfl (by (first|exact v_1|exact v_2|exact v_3|exact v_4|exact v_5|exact v_6|exact v_7|exact v_8|exact v_9|exact rfl))|exact rfl)))) ?_)
    refine xr_end rfl ?_
    refine th_n ?_
    refine xc_seq (xc_region ?_)
    refine xr_op rfl rfl (xv_move rfl ?_)
    refine xr_op rfl rfl (xv_move rfl ?_)
    refine xr_op rfl rfl (xv_assign rfl ?_)
    refine xr_op rfl rfl (xv_assign rfl ?_)
    refine xr_end rfl ?_
    refine th_n ?_
    refine xc_ret ?_
    refine th_r ?_
    refine body_ret (h' := ((bs, .cells ⟨[I ((s : Int) + 1)]⟩ 3) :: (bb, .cells ⟨(d).toList.flatMap eShare ++ sp⟩ 93) :: L)) rfl (ro_tmp rfl (ro_tmp rfl ro_nil)) (by (first|((repeat first|exact s_0|exact s_1|exact s_3|refine s_4 ?_|refine s_5 ?_|refine s_6 ?_|refine s_7 ?_);done)|((repeat first|exact s_0|exact s_1|exact s_3|refine s_4 ?_|refine s_5 ?_|refine s_6 ?_|refine s_8 ?_);done))) ?_
    first | (have e : Go.Sort.order2 (ltc cm) d a b s = (b, a, s + 1) := if_pos (ltc_T (by omega)); rw [e] at H; dsimp only at H; rw [show ((s + 1 : Nat) : Int) = (s : Int) + 1 by omega] at H; exact H) | (have e : Go.Sort.order2 (ltc cm) d a b s = (a, b, s) := if_neg (by rw [ltc_F (by omega)]; decide); rw [e] at H; exact H)
  · refine j_end0 ?_
    refine th_n ?_
    refine xc_false rfl ?_
    refine xc_skip ?_
    refine th_n ?_
    refine xc_seq (xc_region ?_)
    refine xr_op rfl rfl (xv_move rfl ?_)
    refine xr_op rfl rfl (xv_move rfl ?_)
    refine xr_op rfl rfl (xv_assign rfl ?_)
    refine xr_op rfl rfl (xv_assign rfl ?_)
    refine xr_end rfl ?_
    refine th_n ?_
    refine xc_ret ?_
    refine body_ret (h' := ((bs, .cells ⟨[I s]⟩ 3) :: (bb, .cells ⟨(d).toList.flatMap eShare ++ sp⟩ 93) :: L)) rfl (ro_tmp rfl (ro_tmp rfl ro_nil)) (by (first|((repeat first|exact s_0|exact s_1|exact s_3|refine s_4 ?_|refine s_5 ?_|refine s_6 ?_|refine s_7 ?_);done)|((repeat first|exact s_0|exact s_1|exact s_3|refine s_4 ?_|refine s_5 ?_|refine s_6 ?_|refine s_8 ?_);done))) ?_
    first | (have e : Go.Sort.order2 (ltc cm) d a b s = (b, a, s + 1) := if_pos (ltc_T (by omega)); rw [e] at H; dsimp only at H; rw [show ((s + 1 : Nat) : Int) = (s : Int) + 1 by omega] at H; exact H) | (have e : Go.Sort.order2 (ltc cm) d a b s = (a, b, s) := if_neg (by rw [ltc_F (by omega)]; decide); rw [e] at H; exact H)

theorem median_c {bb cap N : Nat} {sp : List Value} {d : Array Share} {f : Value} {cm : Share → Share → Int} {p : Share → Prop} {L : Hp} {R : Ending → Hp → Prop} (hA : Arr N p d) (hN : N ≤ 49) (hf : ∀ x y, p x → p y → ∀ H R', L ⊆ H → R' (.returned (I (cm x y))) H → AFn Try.prog f [.agg ⟨eShare x⟩, .agg ⟨eShare y⟩] H R') {bs a b c s : Nat} {ai bi ci : Int} (ea : ai = a) (eb : bi = b) (ec : ci = c) (ha : a < N) (hb : b < N) (hc : c < N) (hs : s ≤ 900) (H : R (.returned (I (Go.Sort.median (ltc cm) d a b c s).1)) ((bs, .cells ⟨[I (Go.Sort.median (ltc cm) d a b c s).2]⟩ 3) :: (bb, .cells ⟨(d).toList.flatMap eShare ++ sp⟩ 93) :: L)) :
    ACalls Try.prog 78 ⟨[.slice (some ⟨bb, 0, none⟩) N cap, I ai, I bi, I ci, .pointer (some ⟨bs, 0, none⟩), f]⟩ ((bs, .cells ⟨[I s]⟩ 3) :: (bb, .cells ⟨(d).toList.flatMap eShare ++ sp⟩ 93) :: L) R := by
  subst ea eb ec
  have h1 := order2_bd (lt := ltc cm) (d := d) (s := s) ha hb
  have h2 := order2_bd (lt := ltc cm) (d := d) (s := (Go.Sort.order2 (ltc cm) d a b s).2.2) h1.2.1 hc
  refine calls_of_xc (N := 41) Try.func78 rfl (by rfl) ?_
  refine xc_seq (xc_region ?_)
  refine xr_op rfl rfl (xv_assign rfl ?_)
  refine xr_end rfl ?_
  refine th_n ?_
  refine xc_seq (xc_region ?_)
  refine xr_op rfl rfl (xv_move rfl ?_)
  refine xr_op rfl rfl (xv_move rfl ?_)
  refine xr_op rfl rfl (xv_move rfl ?_)
  refine xr_op rfl rfl (xv_move rfl ?_)
  refine xr_op rfl rfl (xv_move rfl ?_)
  refine xr_op rfl rfl (xv_calls rfl hb79 (order2_c (a := a) (b := b) (s := s) hA hN hf rfl rfl ha hb (by omega) (up_ret ?_)))
  refine xr_op rfl rfl (xv_move rfl ?_)
  refine xr_op rfl rfl (xv_extract rfl rfl ?_)
  refine xr_op rfl rfl (xv_extract rfl rfl ?_)
  refine xr_op rfl rfl (xv_assign rfl ?_)
  refine xr_op rfl rfl (xv_assign rfl ?_)
  refine xr_end rfl ?_
  refine th_n ?_
  refine xc_seq (xc_region ?_)
  refine xr_op rfl rfl (xv_move rfl ?_)
  refine xr_op rfl rfl (xv_move rfl ?_)
  refine xr_op rfl rfl (xv_move rfl ?_)
  refine xr_op rfl rfl (xv_move rfl ?_)
  refine xr_op rfl rfl (xv_move rfl ?_)
  refine xr_op rfl rfl (xv_calls rfl hb79 (order2_c (a := (Go.Sort.order2 (ltc cm) d a b s).2.1) (b := c) (s := (Go.Sort.order2 (ltc cm) d a b s).2.2) hA hN hf rfl rfl h1.2.1 hc (by omega) (up_ret ?_)))
  refine xr_op rfl rfl (xv_move rfl ?_)
  refine xr_op rfl rfl (xv_extract rfl rfl ?_)
  refine xr_op rfl rfl (xv_extract rfl rfl ?_)
  refine xr_op rfl rfl (xv_assign rfl ?_)
  refine xr_op rfl rfl (xv_assign rfl ?_)
  refine xr_end rfl ?_
  refine th_n ?_
  refine xc_seq (xc_region ?_)
  refine xr_op rfl rfl (xv_move rfl ?_)
  refine xr_op rfl rfl (xv_move rfl ?_)
  refine xr_op rfl rfl (xv_move rfl ?_)
  refine xr_op rfl rfl (xv_move rfl ?_)
  refine xr_op rfl rfl (xv_move rfl ?_)
  refine xr_op rfl rfl (xv_calls rfl hb79 (order2_c (a := (Go.Sort.order2 (ltc cm) d a b s).1) (b := (Go.Sort.order2 (ltc cm) d (Go.Sort.order2 (ltc cm) d a b s).2.1 c (Go.Sort.order2 (ltc cm) d a b s).2.2).1) (s := (Go.Sort.order2 (ltc cm) d (Go.Sort.order2 (ltc cm) d a b s).2.1 c (Go.Sort.order2 (ltc cm) d a b s).2.2).2.2) hA hN hf rfl rfl h1.1 h2.1 (by omega) (up_ret ?_)))
  refine xr_op rfl rfl (xv_move rfl ?_)
  refine xr_op rfl rfl (xv_extract rfl rfl ?_)
  refine xr_op rfl rfl (xv_extract rfl rfl ?_)
  refine xr_op rfl rfl (xv_assign rfl ?_)
  refine xr_op rfl rfl (xv_assign rfl ?_)
  refine xr_end rfl ?_
  refine th_n ?_
  refine xc_seq (xc_region ?_)
  refine xr_op rfl rfl (xv_move rfl ?_)
  refine xr_op rfl rfl (xv_assign rfl ?_)
  refine xr_end rfl ?_
  refine th_n ?_
  refine xc_ret ?_
  refine body_ret (h' := ((bs, .cells ⟨[I (Go.Sort.order2 (ltc cm) d (Go.Sort.order2 (ltc cm) d a b s).1 (Go.Sort.order2 (ltc cm) d (Go.Sort.order2 (ltc cm) d a b s).2.1 c (Go.Sort.order2 (ltc cm) d a b s).2.2).1 (Go.Sort.order2 (ltc cm) d (Go.Sort.order2 (ltc cm) d a b s).2.1 c (Go.Sort.order2 (ltc cm) d a b s).2.2).2.2).2.2]⟩ 3) :: (bb, .cells ⟨(d).toList.flatMap eShare ++ sp⟩ 93) :: L)) rfl (ro_tmp rfl ro_nil) (by (first|((repeat first|exact s_0|exact s_1|exact s_3|refine s_4 ?_|refine s_5 ?_|refine s_6 ?_|refine s_7 ?_);done)|((repeat first|exact s_0|exact s_1|exact s_3|refine s_4 ?_|refine s_5 ?_|refine s_6 ?_|refine s_8 ?_);done))) ?_
  exact H

theorem choose_c {bb cap N : Nat} {sp : List Value} {d : Array Share} {f : Value} {cm : Share → Share → Int} {p : Share → Prop} {L : Hp} {R : Ending → Hp → Prop} (hA : Arr N p d) (hN : N ≤ 49) (hf : ∀ x y, p x → p y → ∀ H R', L ⊆ H → R' (.returned (I (cm x y))) H → AFn Try.prog f [.agg ⟨eShare x⟩, .agg ⟨eShare y⟩] H R') {a b : Nat} {ai bi : Int} (ea : ai = a) (eb : bi = b) (h12 : 12 < b - a) (hb : b ≤ N) (H : R (.returned (.tuple ⟨[I (Go.Sort.choosePivot (ltc cm) d a b).1, I (hintI (Go.Sort.choosePivot (ltc cm) d a b).2)]⟩)) ((bb, .cells ⟨(d).toList.flatMap eShare ++ sp⟩ 93) :: L)) :
    ACalls Try.prog 66 ⟨[.slice (some ⟨bb, 0, none⟩) N cap, I ai, I bi, f]⟩ ((bb, .cells ⟨(d).toList.flatMap eShare ++ sp⟩ 93) :: L) R := by
  subst ea eb
  refine calls_of_xc (N := 63) Try.func66 rfl (by rfl) ?_
  rw [choose_8 (by omega) (by omega)] at H
  dsimp only at H
  refine xc_seq (xc_region ?_)
  refine xr_op rfl rfl (xv_assign rfl ?_)
  refine xr_op rfl rfl (xv_assign rfl ?_)
  refine xr_end rfl ?_
  refine th_n ?_
  refine xc_seq (xc_region ?_)
  refine xr_op rfl rfl (xv_move rfl ?_)
  refine xr_op rfl rfl (xv_move rfl ?_)
  refine xr_op rfl rfl (xv_sub rfl rfl (wrap_i64 (by (first|omega|(dsimp only at *;omega)|(simp at *;omega))) (by (first|omega|(dsimp only at *;omega)|(simp at *;omega)))) ?_)
  refine xr_op rfl rfl (xv_assign rfl ?_)
  refine xr_end rfl ?_
  refine th_n ?_
  refine xc_seq (xc_region ?_)
  refine xr_op rfl rfl (xv_alloc ty3 (fun bs hbs => ?_))
  refine xr_end rfl ?_
  refine th_n ?_
  refine xc_seq (xc_region ?_)
  refine xr_op rfl rfl (xv_move rfl ?_)
  refine xr_op rfl rfl (xv_move rfl ?_)
  refine xr_op rfl rfl (xv_quo (c := (((b - a) / 4 : Nat) : Int)) rfl rfl (by omega) (by have e : ((b : Int) - (a : Int)).tdiv 4 = (((b - a) / 4 : Nat) : Int) := quo_nat (n := b - a) (k := 4) (by omega); rw [e]; exact wrap_i64 (by omega) (by omega)) ?_)
  refine xr_op rfl rfl (xv_mul rfl rfl (wrap_i64 (by (first|omega|(dsimp only at *;omega)|(simp at *;omega))) (by (first|omega|(dsimp only at *;omega)|(simp at *;omega)))) ?_)
  refine xr_op rfl rfl (xv_add rfl rfl (wrap_i64 (by (first|omega|(dsimp only at *;omega)|(simp at *;omega))) (by (first|omega|(dsimp only at *;omega)|(simp at *;omega)))) ?_)
  refine xr_op rfl rfl (xv_assign rfl ?_)
  refine xr_end rfl ?_
  refine th_n ?_
  refine xc_seq (xc_region ?_)
  refine xr_op rfl rfl (xv_move rfl ?_)
  refine xr_op rfl rfl (xv_move rfl ?_)
  refine xr_op rfl rfl (xv_quo (c := (((b - a) / 4 : Nat) : Int)) rfl rfl (by omega) (by have e : ((b : Int) - (a : Int)).tdiv 4 = (((b - a) / 4 : Nat) : Int) := quo_nat (n := b - a) (k := 4) (by omega); rw [e]; exact wrap_i64 (by omega) (by omega)) ?_)
  refine xr_op rfl rfl (xv_mul rfl rfl (wrap_i64 (by (first|omega|(dsimp only at *;omega)|(simp at *;omega))) (by (first|omega|(dsimp only at *;omega)|(simp at *;omega)))) ?_)
  refine xr_op rfl rfl (xv_add rfl rfl (wrap_i64 (by (first|omega|(dsimp only at *;omega)|(simp at *;omega))) (by (first|omega|(dsimp only at *;omega)|(simp at *;omega)))) ?_)
  refine xr_op rfl rfl (xv_assign rfl ?_)
  refine xr_end rfl ?_
  refine th_n ?_
  refine xc_seq (xc_region ?_)
  refine xr_op rfl rfl (xv_move rfl ?_)
  refine xr_op rfl rfl (xv_move rfl ?_)
  refine xr_op rfl rfl (xv_quo (c := (((b - a) / 4 : Nat) : Int)) rfl rfl (by omega) (by have e : ((b : Int) - (a : Int)).tdiv 4 = (((b - a) / 4 : Nat) : Int) := quo_nat (n := b - a) (k := 4) (by omega); rw [e]; exact wrap_i64 (by omega) (by omega)) ?_)
  refine xr_op rfl rfl (xv_mul rfl rfl (wrap_i64 (by (first|omega|(dsimp only at *;omega)|(simp at *;omega))) (by (first|omega|(dsimp only at *;omega)|(simp at *;omega)))) ?_)
  refine xr_op rfl rfl (xv_add rfl rfl (wrap_i64 (by (first|omega|(dsimp only at *;omega)|(simp at *;omega))) (by (first|omega|(dsimp only at *;omega)|(simp at *;omega)))) ?_)
  refine xr_op rfl rfl (xv_assign rfl ?_)
  refine xr_end rfl ?_
  refine th_n ?_
  refine xc_seq ?_
  refine xc_seq (xc_region ?_)
  refine xr_op rfl rfl (xv_move rfl ?_)
  refine xr_op rfl rfl (xv_cmpK rfl rfl (cmpT (by simp only [cmpP]; omega)) ?_)
  refine xr_end rfl ?_
  refine th_n ?_
  refine xc_true rfl ?_
  refine xc_seq ?_
  refine xc_seq (xc_region ?_)
  refine xr_op rfl rfl (xv_move rfl ?_)
  refine xr_op rfl rfl (xv_cmpK rfl rfl (cmpF rfl (by simp only [cmpP]; omega)) ?_)
  refine xr_end rfl ?_
  refine th_n ?_
  refine xc_false rfl ?_
  refine xc_skip ?_
  refine th_n ?_
  refine xc_region ?_
  refine xr_op rfl rfl (xv_move rfl ?_)
  refine xr_op rfl rfl (xv_move rfl ?_)
  refine xr_op rfl rfl (xv_move rfl ?_)
  refine xr_op rfl rfl (xv_move rfl ?_)
  refine xr_op rfl rfl (xv_move rfl ?_)
  refine xr_op rfl rfl (xv_calls rfl hb78 (median_c (a := a + ((b - a) / 4) * 1) (b := a + ((b - a) / 4) * 2) (c := a + ((b - a) / 4) * 3) (s := 0) hA hN hf (by omega) (by omega) (by omega) (by omega) (by omega) (by omega) (by omega) (up_ret ?_)))
  refine xr_op rfl rfl (xv_assign rfl ?_)
  refine xr_end rfl ?_
  refine th_n ?_
  refine xc_seq (xc_region ?_)
  refine xr_op rfl rfl (xv_load1 ty3 rfl rfl (by ((repeat first|exact z_0|assumption|refine z_1 ?_|(refine z_l ?_;(repeat first|exact z_0|assumption|refine z_1 ?_);done)|refine z_r ?_);done)) (by rfl) ?_)
  refine xr_end rfl ?_
  refine th_n ?_
  refine xc_block ?_
  refine xc_seq (xc_region ?_)
  refine xr_op rfl rfl (xv_eql2 rfl rfl (fun q1 => ?_) (fun q1 => ?_))
  · refine xr_op rfl rfl (xv_assign rfl ?_)
    refine xr_end rfl ?_
    refine th_n ?_
    refine xc_true rfl ?_
    refine xc_seq (xc_region ?_)
    refine xr_op rfl rfl (xv_move rfl ?_)
    refine xr_op rfl rfl (xv_assign rfl ?_)
    refine xr_op rfl rfl (xv_assign rfl ?_)
    refine xr_end rfl ?_
    refine th_n ?_
    refine xc_ret ?_
    refine bk_r ?_
    refine body_ret (h' := ((bb, .cells ⟨(d).toList.flatMap eShare ++ sp⟩ 93) :: L)) rfl (ro_tmp rfl (ro_tmp rfl ro_nil)) (by (first|((repeat first|exact s_0|exact s_1|exact s_3|refine s_4 ?_|refine s_5 ?_|refine s_6 ?_|refine s_7 ?_);done)|((repeat first|exact s_0|exact s_1|exact s_3|refine s_4 ?_|refine s_5 ?_|refine s_6 ?_|refine s_8 ?_);done))) ?_
    (rw [show hintN (Go.Sort.median (ltc cm) d (a + ((b - a) / 4) * 1) (a + ((b - a) / 4) * 2) (a + ((b - a) / 4) * 3) 0).2 = _ from rfl] at H; unfold hintN at H; first | (rw [if_pos (by omega)] at H; exact H) | (rw [if_neg (by omega), if_pos (by omega)] at H; exact H) | (rw [if_neg (by omega), if_neg (by omega)] at H; exact H))
  · refine xr_op rfl rfl (xv_assign rfl ?_)
    refine xr_end rfl ?_
    refine th_n ?_
    refine xc_false rfl ?_
    refine xc_seq (xc_region ?_)
    refine xr_op rfl rfl (xv_eql2 rfl rfl (fun q2 => ?_) (fun q2 => ?_))
    · refine xr_op rfl rfl (xv_assign rfl ?_)
      refine xr_end rfl ?_
      refine th_n ?_
      refine xc_true rfl ?_
      refine xc_seq (xc_region ?_)
      refine xr_op rfl rfl (xv_move rfl ?_)
      refine xr_op rfl rfl (xv_assign rfl ?_)
      refine xr_op rfl rfl (xv_assign rfl ?_)
      refine xr_end rfl ?_
      refine th_n ?_
      refine xc_ret ?_
      refine bk_r ?_
      refine body_ret (h' := ((bb, .cells ⟨(d).toList.flatMap eShare ++ sp⟩ 93) :: L)) rfl (ro_tmp rfl (ro_tmp rfl ro_nil)) (by (first|((repeat first|exact s_0|exact s_1|exact s_3|refine s_4 ?_|refine s_5 ?_|refine s_6 ?_|refine s_7 ?_);done)|((repeat first|exact s_0|exact s_1|exact s_3|refine s_4 ?_|refine s_5 ?_|refine s_6 ?_|refine s_8 ?_);done))) ?_
      (rw [show hintN (Go.Sort.median (ltc cm) d (a + ((b - a) / 4) * 1) (a + ((b - a) / 4) * 2) (a + ((b - a) / 4) * 3) 0).2 = _ from rfl] at H; unfold hintN at H; first | (rw [if_pos (by omega)] at H; exact H) | (rw [if_neg (by omega), if_pos (by omega)] at H; exact H) | (rw [if_neg (by omega), if_neg (by omega)] at H; exact H))
    · refine xr_op rfl rfl (xv_assign rfl ?_)
      refine xr_end rfl ?_
      refine th_n ?_
      refine xc_false rfl ?_
      refine xc_seq (xc_region ?_)
      refine xr_op rfl rfl (xv_move rfl ?_)
      refine xr_op rfl rfl (xv_assign rfl ?_)
      refine xr_op rfl rfl (xv_assign rfl ?_)
      refine xr_end rfl ?_
      refine th_n ?_
      refine xc_ret ?_
      refine bk_r ?_
      refine body_ret (h' := ((bb, .cells ⟨(d).toList.flatMap eShare ++ sp⟩ 93) :: L)) rfl (ro_tmp rfl (ro_tmp rfl ro_nil)) (by (first|((repeat first|exact s_0|exact s_1|exact s_3|refine s_4 ?_|refine s_5 ?_|refine s_6 ?_|refine s_7 ?_);done)|((repeat first|exact s_0|exact s_1|exact s_3|refine s_4 ?_|refine s_5 ?_|refine s_6 ?_|refine s_8 ?_);done))) ?_
      (rw [show hintN (Go.Sort.median (ltc cm) d (a + ((b - a) / 4) * 1) (a + ((b - a) / 4) * 2) (a + ((b - a) / 4) * 3) 0).2 = _ from rfl] at H; unfold hintN at H; first | (rw [if_pos (by omega)] at H; exact H) | (rw [if_neg (by omega), if_pos (by omega)] at H; exact H) | (rw [if_neg (by omega), if_neg (by omega)] at H; exact H))

theorem len64_c {n : Nat} {h : Hp} {R : Ending → Hp → Prop} (hn : n ≤ 49) (H : R (.returned (I (Go.Sort.bitsLen n : Nat))) h) : ACalls Try.prog 72 ⟨[.int .u64 n]⟩ h R := by
  refine calls_of_xc (N := 25) Try.func72 rfl (by rfl) ?_
  have hbl := len8 hn
  refine xc_seq (xc_region ?_)
  refine xr_op rfl rfl (xv_assign rfl ?_)
  refine xr_end rfl ?_
  refine th_n ?_
  refine xc_seq ?_
  refine xc_seq (xc_region ?_)
  refine xr_op rfl rfl (xv_move rfl ?_)
  refine xr_op rfl rfl (xv_cmpK rfl rfl (cmpF rfl (by simp only [cmpP]; omega)) ?_)
  refine xr_end rfl ?_
  refine th_n ?_
  refine xc_false rfl ?_
  refine xc_skip ?_
  refine th_n ?_
  refine xc_seq ?_
  refine xc_seq (xc_region ?_)
  refine xr_op rfl rfl (xv_move rfl ?_)
  refine xr_op rfl rfl (xv_cmpK rfl rfl (cmpF rfl (by simp only [cmpP]; omega)) ?_)
  refine xr_end rfl ?_
  refine th_n ?_
  refine xc_false rfl ?_
  refine xc_skip ?_
  refine th_n ?_
  refine xc_seq ?_
  refine xc_seq (xc_region ?_)
  refine xr_op rfl rfl (xv_move rfl ?_)
  refine xr_op rfl rfl (xv_cmpK rfl rfl (cmpF rfl (by simp only [cmpP]; omega)) ?_)
  refine xr_end rfl ?_
  refine th_n ?_
  refine xc_false rfl ?_
  refine xc_skip ?_
  refine th_n ?_
  refine xc_seq (xc_region ?_)
  refine xr_op rfl rfl (xv_move rfl ?_)
  refine xr_op rfl rfl (xv_move rfl ?_)
  refine xr_op rfl rfl (xv_convI (m := (n : Int)) Try.underlying127 Try.underlying5 rfl (wrap_u8 (by omega) (by omega)) ?_)
  refine xr_op rfl rfl (xv_indexT (m := 50) (f := Go.Sort.bitsLen) Try.underlying9 rfl rfl (by omega) (by omega) (by kernel_rfl) ?_)
  refine xr_op rfl rfl (xv_convI (m := ((Go.Sort.bitsLen n : Nat) : Int)) Try.underlying5 Try.underlying3 rfl (by rw [Int.toNat_natCast, hbl.1]; exact wrap_i64 (by omega) (by omega)) ?_)
  refine xr_op rfl rfl (xv_add rfl rfl (wrap_i64 (by (first|omega|(dsimp only at *;omega)|(simp at *;omega))) (by (first|omega|(dsimp only at *;omega)|(simp at *;omega)))) ?_)
  refine xr_op rfl rfl (xv_assign rfl ?_)
  refine xr_end rfl ?_
  refine th_n ?_
  refine xc_ret ?_
  refine body_ret (h' := h) rfl (ro_tmp rfl ro_nil) (by (first|((repeat first|exact s_0|exact s_1|exact s_3|refine s_4 ?_|refine s_5 ?_|refine s_6 ?_|refine s_7 ?_);done)|((repeat first|exact s_0|exact s_1|exact s_3|refine s_4 ?_|refine s_5 ?_|refine s_6 ?_|refine s_8 ?_);done))) ?_
  (rw [← Int.zero_add ((Go.Sort.bitsLen n : Nat) : Int)] at H; exact H)

theorem len_c {n : Nat} {ni : Int} {h : Hp} {R : Ending → Hp → Prop} (en : ni = n) (hn : n ≤ 49) (H : R (.returned (I (Go.Sort.bitsLen n : Nat))) h) : ACalls Try.prog 59 ⟨[.int .u64 ni]⟩ h R := by
  subst en
  refine calls_of_xc (N := 8) Try.func59 rfl (by rfl) ?_
  refine xc_seq (xc_region ?_)
  refine xr_op rfl rfl (xv_assign rfl ?_)
  refine xr_end rfl ?_
  refine th_n ?_
  refine xc_seq ?_
  refine xc_false rfl ?_
  refine xc_skip ?_
  refine th_n ?_
  refine xc_seq (xc_region ?_)
  refine xr_op rfl rfl (xv_move rfl ?_)
  refine xr_op rfl rfl (xv_calls rfl hb72 (len64_c hn (up_ret ?_)))
  refine xr_op rfl rfl (xv_assign rfl ?_)
  refine xr_end rfl ?_
  refine th_n ?_
  refine xc_ret ?_
  refine body_ret (h' := h) rfl (ro_tmp rfl ro_nil) (by (first|((repeat first|exact s_0|exact s_1|exact s_3|refine s_4 ?_|refine s_5 ?_|refine s_6 ?_|refine s_7 ?_);done)|((repeat first|exact s_0|exact s_1|exact s_3|refine s_4 ?_|refine s_5 ?_|refine s_6 ?_|refine s_8 ?_);done))) ?_
  exact H

theorem npow_c {n : Nat} {ni : Int} {h : Hp} {R : Ending → Hp → Prop} (en : ni = n) (hn : n ≤ 49) (H : R (.returned (U ((1 : UInt64) <<< UInt64.ofNat (Go.Sort.bitsLen n)))) h) : ACalls Try.prog 75 ⟨[I ni]⟩ h R := by
  subst en
  refine calls_of_xc (N := 7) Try.func75 rfl (by rfl) ?_
  have hbl := len8 hn
  refine xc_seq (xc_region ?_)
  refine xr_op rfl rfl (xv_assign rfl ?_)
  refine xr_end rfl ?_
  refine th_n ?_
  refine xc_seq (xc_region ?_)
  refine xr_op rfl rfl (xv_move rfl ?_)
  refine xr_op rfl rfl (xv_convI (m := (n : Int)) Try.underlying3 Try.underlying112 rfl (wrap_u64 (by omega) (by omega)) ?_)
  refine xr_op rfl rfl (xv_calls rfl hb59 (len_c rfl hn (up_ret ?_)))
  refine xr_op rfl rfl (xv_shlU (w := 1) (s := Go.Sort.bitsLen n) rfl rfl (by omega) rfl ?_)
  refine xr_op rfl rfl (xv_assign rfl ?_)
  refine xr_end rfl ?_
  refine th_n ?_
  refine xc_ret ?_
  refine body_ret (h' := h) rfl (ro_tmp rfl ro_nil) (by (first|((repeat first|exact s_0|exact s_1|exact s_3|refine s_4 ?_|refine s_5 ?_|refine s_6 ?_|refine s_7 ?_);done)|((repeat first|exact s_0|exact s_1|exact s_3|refine s_4 ?_|refine s_5 ?_|refine s_6 ?_|refine s_8 ?_);done))) ?_
  exact H

theorem next_c {br : Nat} {w : UInt64} {L : Hp} {R : Ending → Hp → Prop} (H : R (.returned (U (Go.Sort.xorNext w))) ((br, .cells ⟨[U (Go.Sort.xorNext w)]⟩ 129) :: L)) : ACalls Try.prog 76 ⟨[.pointer (some ⟨br, 0, none⟩)]⟩ ((br, .cells ⟨[U w]⟩ 129) :: L) R := by
  refine calls_of_xc (N := 33) Try.func76 rfl (by rfl) ?_
  refine xc_seq (xc_region ?_)
  refine xr_op rfl rfl (xv_assign rfl ?_)
  refine xr_end rfl ?_
  refine th_n ?_
  refine xc_seq ?_
  refine xc_draw0 [(0, .S), (1, .S), (2, .R), (3, .S), (4, .S), (5, .R), (6, .S), (7, .S), (8, .S), (9, .O)] mixed (by kernel_rfl) ?_
  refine js_S rfl rfl (.inl rfl) (xv_move rfl ⟨rfl, rfl⟩) ?_
  refine js_S rfl rfl (.inl rfl) (xv_nilp rfl ⟨rfl, rfl⟩) ?_
  refine js_R0 rfl rfl (.inl rfl) (xv_load1 ty129 rfl rfl (by ((repeat first|exact z_0|assumption|refine z_1 ?_|(refine z_l ?_;(repeat first|exact z_0|assumption|refine z_1 ?_);done)|refine z_r ?_);done)) (by rfl) ⟨rfl, rfl⟩) ?_
  refine js_S rfl rfl (.inl rfl) (xv_move rfl ⟨rfl, rfl⟩) ?_
  refine js_S rfl rfl (.inl rfl) (xv_nilp rfl ⟨rfl, rfl⟩) ?_
  refine js_R0 rfl rfl (.inl rfl) (xv_load1 ty129 rfl rfl (by ((repeat first|exact z_0|assumption|refine z_1 ?_|(refine z_l ?_;(repeat first|exact z_0|assumption|refine z_1 ?_);done)|refine z_r ?_);done)) (by rfl) ⟨rfl, rfl⟩) ?_
  refine js_S rfl rfl (.inl rfl) (xv_shlU (s := 13) rfl rfl (by decide) rfl ⟨rfl, rfl⟩) ?_
  refine js_S rfl rfl (.inl rfl) (xv_xorU rfl rfl rfl ⟨rfl, rfl⟩) ?_
  refine js_S rfl rfl (.inl rfl) (xv_nilp rfl ⟨rfl, rfl⟩) ?_
  refine js_O0 rfl rfl (.inl rfl) (xv_s1 ty129 rfl rfl rfl (by (first|(apply u_3;(repeat first|exact u_0|assumption|apply u_1|apply u_2);done)|((repeat first|exact u_0|assumption|apply u_1|apply u_2);done)|(apply u_3;apply u_3;(repeat first|exact u_0|assumption|apply u_1|apply u_2);done)|((repeat first|exact u_0|assumption|apply u_3|apply u_1);done))) (by (first | rfl | exact Vec.one _ _)) (by (first | decide | exact Nat.le_of_ble_eq_true rfl | (simp only [List.length_cons, List.length_nil]; omega) | (simp; done))) (by ((try apply evl_some rfl);(repeat (first|exact (rfl : _ = [])|apply evl_cons rfl (by (first|exact v_1|exact v_2|exact v_3|exact v_4|exact v_5|exact v_6|exact v_7|exact v_8|exact v_9|exact rfl))|exact rfl)))) ?_)
  refine j_end0 ?_
  refine th_n ?_
  refine xc_seq ?_
  refine xc_draw0 [(0, .S), (1, .S), (2, .R), (3, .S), (4, .S), (5, .R), (6, .S), (7, .S), (8, .S), (9, .O)] mixed (by kernel_rfl) ?_
  refine js_S rfl rfl (.inl rfl) (xv_move rfl ⟨rfl, rfl⟩) ?_
  refine js_S rfl rfl (.inl rfl) (xv_nilp rfl ⟨rfl, rfl⟩) ?_
  refine js_R0 rfl rfl (.inl rfl) (xv_load1 ty129 rfl rfl (by ((repeat first|exact z_0|assumption|refine z_1 ?_|(refine z_l ?_;(repeat first|exact z_0|assumption|refine z_1 ?_);done)|refine z_r ?_);done)) (by rfl) ⟨rfl, rfl⟩) ?_
  refine js_S rfl rfl (.inl rfl) (xv_move rfl ⟨rfl, rfl⟩) ?_
  refine js_S rfl rfl (.inl rfl) (xv_nilp rfl ⟨rfl, rfl⟩) ?_
  refine js_R0 rfl rfl (.inl rfl) (xv_load1 ty129 rfl rfl (by ((repeat first|exact z_0|assumption|refine z_1 ?_|(refine z_l ?_;(repeat first|exact z_0|assumption|refine z_1 ?_);done)|refine z_r ?_);done)) (by rfl) ⟨rfl, rfl⟩) ?_
  refine js_S rfl rfl (.inl rfl) (xv_shrU (s := 7) rfl rfl (by decide) rfl ⟨rfl, rfl⟩) ?_
  refine js_S rfl rfl (.inl rfl) (xv_xorU rfl rfl rfl ⟨rfl, rfl⟩) ?_
  refine js_S rfl rfl (.inl rfl) (xv_nilp rfl ⟨rfl, rfl⟩) ?_
  refine js_O0 rfl rfl (.inl rfl) (xv_s1 ty129 rfl rfl rfl (by (first|(apply u_3;(repeat first|exact u_0|assumption|apply u_1|apply u_2);done)|((repeat first|exact u_0|assumption|apply u_1|apply u_2);done)|(apply u_3;apply u_3;(repeat first|exact u_0|assumption|apply u_1|apply u_2);done)|((repeat first|exact u_0|assumption|apply u_3|apply u_1);done))) (by (first | rfl | exact Vec.one _ _)) (by (first | decide | exact Nat.le_of_ble_eq_true rfl | (simp only [List.length_cons, List.length_nil]; omega) | (simp; done))) (by ((try apply evl_some rfl);(repeat (first|exact (rfl : _ = [])|apply evl_cons rfl (by (first|exact v_1|exact v_2|exact v_3|exact v_4|exact v_5|exact v_6|exact v_7|exact v_8|exact v_9|exact rfl))|exact rfl)))) ?_)
  refine j_end0 ?_
  refine th_n ?_
  refine xc_seq ?_
  refine xc_draw0 [(0, .S), (1, .S), (2, .R), (3, .S), (4, .S), (5, .R), (6, .S), (7, .S), (8, .S), (9, .O)] mixed (by kernel_rfl) ?_
  refine js_S rfl rfl (.inl rfl) (xv_move rfl ⟨rfl, rfl⟩) ?_
  refine js_S rfl rfl (.inl rfl) (xv_nilp rfl ⟨rfl, rfl⟩) ?_
  refine js_R0 rfl rfl (.inl rfl) (xv_load1 ty129 rfl rfl (by ((repeat first|exact z_0|assumption|refine z_1 ?_|(refine z_l ?_;(repeat first|exact z_0|assumption|refine z_1 ?_);done)|refine z_r ?_);done)) (by rfl) ⟨rfl, rfl⟩) ?_
  refine js_S rfl rfl (.inl rfl) (xv_move rfl ⟨rfl, rfl⟩) ?_
  refine js_S rfl rfl (.inl rfl) (xv_nilp rfl ⟨rfl, rfl⟩) ?_
  refine js_R0 rfl rfl (.inl rfl) (xv_load1 ty129 rfl rfl (by ((repeat first|exact z_0|assumption|refine z_1 ?_|(refine z_l ?_;(repeat first|exact z_0|assumption|refine z_1 ?_);done)|refine z_r ?_);done)) (by rfl) ⟨rfl, rfl⟩) ?_
  refine js_S rfl rfl (.inl rfl) (xv_shlU (s := 17) rfl rfl (by decide) rfl ⟨rfl, rfl⟩) ?_
  refine js_S rfl rfl (.inl rfl) (xv_xorU rfl rfl rfl ⟨rfl, rfl⟩) ?_
  refine js_S rfl rfl (.inl rfl) (xv_nilp rfl ⟨rfl, rfl⟩) ?_
  refine js_O0 rfl rfl (.inl rfl) (xv_s1 ty129 rfl rfl rfl (by (first|(apply u_3;(repeat first|exact u_0|assumption|apply u_1|apply u_2);done)|((repeat first|exact u_0|assumption|apply u_1|apply u_2);done)|(apply u_3;apply u_3;(repeat first|exact u_0|assumption|apply u_1|apply u_2);done)|((repeat first|exact u_0|assumption|apply u_3|apply u_1);done))) (by (first | rfl | exact Vec.one _ _)) (by (first | decide | exact Nat.le_of_ble_eq_true rfl | (simp only [List.length_cons, List.length_nil]; omega) | (simp; done))) (by ((try apply evl_some rfl);(repeat (first|exact (rfl : _ = [])|apply evl_cons rfl (by (first|exact v_1|exact v_2|exact v_3|exact v_4|exact v_5|exact v_6|exact v_7|exact v_8|exact v_9|exact rfl))|exact rfl)))) ?_)
  refine j_end0 ?_
  refine th_n ?_
  refine xc_seq (xc_region ?_)
  refine xr_op rfl rfl (xv_move rfl ?_)
  refine xr_op rfl rfl (xv_nilp rfl ?_)
  refine xr_op rfl rfl (xv_load1 ty129 rfl rfl (by ((repeat first|exact z_0|assumption|refine z_1 ?_|(refine z_l ?_;(repeat first|exact z_0|assumption|refine z_1 ?_);done)|refine z_r ?_);done)) (by rfl) ?_)
  refine xr_op rfl rfl (xv_assign rfl ?_)
  refine xr_end rfl ?_
  refine th_n ?_
  refine xc_ret ?_
  refine body_ret (h' := ((br, .cells ⟨[U (Go.Sort.xorNext w)]⟩ 129) :: L)) rfl (ro_tmp rfl ro_nil) (by (first|((repeat first|exact s_0|exact s_1|exact s_3|refine s_4 ?_|refine s_5 ?_|refine s_6 ?_|refine s_7 ?_);done)|((repeat first|exact s_0|exact s_1|exact s_3|refine s_4 ?_|refine s_5 ?_|refine s_6 ?_|refine s_8 ?_);done))) ?_
  exact H

theorem brk_c {bb cap N : Nat} {sp : List Value} {d : Array Share} {f : Value} {cm : Share → Share → Int} {p : Share → Prop} {L : Hp} {R : Ending → Hp → Prop} (hA : Arr N p d) (hN : N ≤ 49) {a b : Nat} {ai bi : Int} (ea : ai = a) (eb : bi = b) (h12 : 12 < b - a) (hb : b ≤ N) (H : Arr N p (Go.Sort.breakPatterns d a b) → R (.returned (.tuple #[])) ((bb, .cells ⟨(Go.Sort.breakPatterns d a b).toList.flatMap eShare ++ sp⟩ 93) :: L)) :
    ACalls Try.prog 65 ⟨[.slice (some ⟨bb, 0, none⟩) N cap, I ai, I bi, f]⟩ ((bb, .cells ⟨(d).toList.flatMap eShare ++ sp⟩ 93) :: L) R := by
  subst ea eb
  refine calls_of_xc (N := 67) Try.func65 rfl (by rfl) ?_
  have hmf := mod_facts (n := b - a) (by omega) (by omega)
  have hU : ((UInt64.ofNat (b - a)).toNat : Int) = (b : Int) - a := by rw [UInt64.toNat_ofNat']; omega
  have hM1 : ((((1 : UInt64) <<< UInt64.ofNat (Go.Sort.bitsLen (b - a))) - 1).toNat : Int) = (((1 : UInt64) <<< UInt64.ofNat (Go.Sort.bitsLen (b - a))).toNat : Int) - 1 := by rw [UInt64.toNat_sub_of_le _ _ (by rw [UInt64.le_iff_toNat_le, hmf.1]; show 1 ≤ _; omega)]; show (((_ - 1 : Nat)) : Int) = _; omega
  have hres := brk_res (d := d) (a := a) (b := b) (by omega)
  refine xc_seq (xc_region ?_)
  refine xr_op rfl rfl (xv_move rfl ?_)
  refine xr_op rfl rfl (xv_move rfl ?_)
  refine xr_op rfl rfl (xv_sub rfl rfl (wrap_i64 (by (first|omega|(dsimp only at *;omega)|(simp at *;omega))) (by (first|omega|(dsimp only at *;omega)|(simp at *;omega)))) ?_)
  refine xr_op rfl rfl (xv_assign rfl ?_)
  refine xr_end rfl ?_
  refine th_n ?_
  refine xc_seq (xc_region ?_)
  refine xr_op rfl rfl (xv_move rfl ?_)
  refine xr_op rfl rfl (xv_cmpK rfl rfl (cmpT (by simp only [cmpP]; omega)) ?_)
  refine xr_end rfl ?_
  refine th_n ?_
  refine xc_true rfl ?_
  refine xc_seq (xc_region ?_)
  refine xr_op rfl rfl (xv_move rfl ?_)
  refine xr_op rfl rfl (xv_convI (m := ((UInt64.ofNat (b - a)).toNat : Int)) Try.underlying3 Try.underlying129 rfl (by rw [hU]; exact wrap_u64 (by omega) (by omega)) ?_)
  refine xr_op rfl rfl (xv_alloc ty129 (fun br hbr => ?_))
  refine xr_op rfl rfl (xv_s1 ty129 rfl rfl rfl (by (first|(apply u_3;(repeat first|exact u_0|assumption|apply u_1|apply u_2);done)|((repeat first|exact u_0|assumption|apply u_1|apply u_2);done)|(apply u_3;apply u_3;(repeat first|exact u_0|assumption|apply u_1|apply u_2);done)|((repeat first|exact u_0|assumption|apply u_3|apply u_1);done))) (by (first | rfl | exact Vec.one _ _)) (by (first | decide | exact Nat.le_of_ble_eq_true rfl | (simp only [List.length_cons, List.length_nil]; omega) | (simp; done))) (by ((try apply evl_some rfl);(repeat (first|exact (rfl : _ = [])|apply evl_cons rfl (by (first|exact v_1|exact v_2|exact v_3|exact v_4|exact v_5|exact v_6|exact v_7|exact v_8|exact v_9|exact rfl))|exact rfl)))) ?_)
  refine xr_end rfl ?_
  refine th_n ?_
  refine xc_seq (xc_region ?_)
  refine xr_op rfl rfl (xv_move rfl ?_)
  refine xr_op rfl rfl (xv_calls rfl hb75 (npow_c (n := b - a) (by omega) (by omega) (up_ret ?_)))
  refine xr_op rfl rfl (xv_assign rfl ?_)
  refine xr_end rfl ?_
  refine th_n ?_
  refine xc_seq (xc_region ?_)
  refine xr_op rfl rfl (xv_move rfl ?_)
  refine xr_op rfl rfl (xv_move rfl ?_)
  refine xr_op rfl rfl (xv_quo (c := (((b - a) / 4 : Nat) : Int)) rfl rfl (by omega) (by have e : ((b : Int) - (a : Int)).tdiv 4 = (((b - a) / 4 : Nat) : Int) := quo_nat (n := b - a) (k := 4) (by omega); rw [e]; exact wrap_i64 (by omega) (by omega)) ?_)
  refine xr_op rfl rfl (xv_mul rfl rfl (wrap_i64 (by (first|omega|(dsimp only at *;omega)|(simp at *;omega))) (by (first|omega|(dsimp only at *;omega)|(simp at *;omega)))) ?_)
  refine xr_op rfl rfl (xv_add rfl rfl (wrap_i64 (by (first|omega|(dsimp only at *;omega)|(simp at *;omega))) (by (first|omega|(dsimp only at *;omega)|(simp at *;omega)))) ?_)
  refine xr_op rfl rfl (xv_sub rfl rfl (wrap_i64 (by (first|omega|(dsimp only at *;omega)|(simp at *;omega))) (by (first|omega|(dsimp only at *;omega)|(simp at *;omega)))) ?_)
  refine xr_op rfl rfl (xv_assign rfl ?_)
  refine xr_end rfl ?_
  refine th_n ?_
  refine xc_block ?_
  refine xc_loop (σ := Nat × UInt64 × Array Share) (fun z => z.1 ≤ 3 ∧ Arr N p z.2.2 ∧ (z.2.1, z.2.2) = brkN a (b - a) (1 <<< Go.Sort.bitsLen (b - a)) (UInt64.ofNat (b - a), d) (a + (b - a) / 4 * 2 - 1) z.1) (fun z => ((((((emp.put (some 0) (.slice (some ⟨bb, 0, none⟩) N cap)).put (some 1) (I a)).put (some 8) (I ((b : Int) - a))).put (some 9) (.pointer (some ⟨br, 0, none⟩))).put (some 10) (U ((1 : UInt64) <<< UInt64.ofNat (Go.Sort.bitsLen (b - a))))).put (some 11) (I ((a : Int) + (((b - a) / 4 : Nat) : Int) * 2 - 1 + z.1)))) (fun z => ((br, .cells ⟨[U z.2.1]⟩ 129) :: (bb, .cells ⟨(z.2.2).toList.flatMap eShare ++ sp⟩ 93) :: L)) (fun z => 3 - z.1) ((0, UInt64.ofNat (b - a), d) : Nat × UInt64 × Array Share) ⟨Nat.zero_le _, hA, rfl⟩ (le_put (le_put (le_put (le_put (le_put (le_put (le_emp _) rfl) rfl) rfl) rfl) rfl) (by dsimp only; rw [Int.natCast_zero, Int.add_zero]; rfl)) (by (first|((repeat first|exact s_0|exact s_1|exact s_3|refine s_4 ?_|refine s_5 ?_|refine s_6 ?_|refine s_7 ?_);done)|((repeat first|exact s_0|exact s_1|exact s_3|refine s_4 ?_|refine s_5 ?_|refine s_6 ?_|refine s_8 ?_);done))) ?_
  rintro ⟨k, w, d1⟩ ⟨hk, hA1, heq⟩
  dsimp only at hk hA1 heq
  refine xc_seq ?_
  refine xc_seq (xc_region ?_)
  refine xr_op rfl rfl (xv_move rfl ?_)
  refine xr_op rfl rfl (xv_move rfl ?_)
  refine xr_op rfl rfl (xv_move rfl ?_)
  refine xr_op rfl rfl (xv_quo (c := (((b - a) / 4 : Nat) : Int)) rfl rfl (by omega) (by have e : ((b : Int) - (a : Int)).tdiv 4 = (((b - a) / 4 : Nat) : Int) := quo_nat (n := b - a) (k := 4) (by omega); rw [e]; exact wrap_i64 (by omega) (by omega)) ?_)
  refine xr_op rfl rfl (xv_mul rfl rfl (wrap_i64 (by (first|omega|(dsimp only at *;omega)|(simp at *;omega))) (by (first|omega|(dsimp only at *;omega)|(simp at *;omega)))) ?_)
  refine xr_op rfl rfl (xv_add rfl rfl (wrap_i64 (by (first|omega|(dsimp only at *;omega)|(simp at *;omega))) (by (first|omega|(dsimp only at *;omega)|(simp at *;omega)))) ?_)
  refine xr_op rfl rfl (xv_add rfl rfl (wrap_i64 (by (first|omega|(dsimp only at *;omega)|(simp at *;omega))) (by (first|omega|(dsimp only at *;omega)|(simp at *;omega)))) ?_)
  refine xr_op rfl rfl (xv_leq2 rfl rfl (fun q1 => ?_) (fun q1 => ?_))
  · refine xr_end rfl ?_
    refine th_n ?_
    refine xc_true rfl ?_
    refine xc_skip ?_
    refine th_n ?_
    refine xc_seq ?_
    refine xc_block ?_
    refine xc_seq (xc_region ?_)
    have hM1n : (((1 : UInt64) <<< UInt64.ofNat (Go.Sort.bitsLen (b - a))) - 1).toNat = (1 <<< Go.Sort.bitsLen (b - a)) - 1 := by rw [← hmf.1]; omega
    obtain ⟨o, ho⟩ : ∃ o : Nat, o = ((Go.Sort.xorNext w) &&& (((1 : UInt64) <<< UInt64.ofNat (Go.Sort.bitsLen (b - a))) - 1)).toNat := ⟨_, rfl⟩
    have hom : o ≤ (1 <<< Go.Sort.bitsLen (b - a)) - 1 := by rw [ho, UInt64.toNat_and, hM1n]; exact Nat.and_le_right
    refine xr_op rfl rfl (xv_calls rfl hb76 (next_c (w := w) (up_ret ?_)))
    refine xr_op rfl rfl (xv_move rfl ?_)
    refine xr_op rfl rfl (xv_sub (c := ((((1 : UInt64) <<< UInt64.ofNat (Go.Sort.bitsLen (b - a))) - 1).toNat : Int)) rfl rfl (by rw [hM1]; exact wrap_u64 (by rw [hmf.1]; omega) (by rw [hmf.1]; omega)) ?_)
    refine xr_op rfl rfl (xv_andU rfl rfl rfl ?_)
    refine xr_op rfl rfl (xv_convI (m := (o : Int)) Try.underlying112 Try.underlying3 rfl (by rw [← ho]; exact wrap_i64 (by omega) (by omega)) ?_)
    refine xr_op rfl rfl (xv_assign rfl ?_)
    refine xr_end rfl ?_
    refine th_n ?_
    refine xc_seq ?_
    refine xc_seq (xc_region ?_)
    refine xr_op rfl rfl (xv_move rfl ?_)
    refine xr_op rfl rfl (xv_move rfl ?_)
    refine xr_op rfl rfl (xv_geq2 rfl rfl (fun q2 => ?_) (fun q2 => ?_))
    · refine xr_end rfl ?_
      refine th_n ?_
      refine xc_true rfl ?_
      refine xc_region ?_
      refine xr_op rfl rfl (xv_move rfl ?_)
      refine xr_op rfl rfl (xv_move rfl ?_)
      refine xr_op rfl rfl (xv_sub rfl rfl (wrap_i64 (by (first|omega|(dsimp only at *;omega)|(simp at *;omega))) (by (first|omega|(dsimp only at *;omega)|(simp at *;omega)))) ?_)
      refine xr_op rfl rfl (xv_assign rfl ?_)
      refine xr_end rfl ?_
      refine th_n ?_
      refine xc_draw0 [(0, .S), (1, .S), (2, .S), (3, .S), (4, .S), (5, .S), (6, .S), (7, .S), (8, .S), (9, .S), (10, .S), (11, .R), (12, .S), (13, .S), (14, .S), (15, .R), (16, .S), (17, .O), (18, .S), (19, .O)] mixed (by kernel_rfl) ?_
      refine js_S rfl rfl (.inl rfl) (xv_move rfl ⟨rfl, rfl⟩) ?_
      refine js_S rfl rfl (.inl rfl) (xv_move rfl ⟨rfl, rfl⟩) ?_
      refine js_S rfl rfl (.inl rfl) (xv_move rfl ⟨rfl, rfl⟩) ?_
      refine js_S rfl rfl (.inl rfl) (xv_move rfl ⟨rfl, rfl⟩) ?_
      refine js_S rfl rfl (.inl rfl) (xv_move rfl ⟨rfl, rfl⟩) ?_
      refine js_S rfl rfl (.inl rfl) (xv_add rfl rfl (wrap_i64 (by (first|omega|(dsimp only at *;omega)|(simp at *;omega))) (by (first|omega|(dsimp only at *;omega)|(simp at *;omega)))) ⟨rfl, rfl⟩) ?_
      refine js_S rfl rfl (.inl rfl) (xv_move rfl ⟨rfl, rfl⟩) ?_
      refine js_S rfl rfl (.inl rfl) (xv_move rfl ⟨rfl, rfl⟩) ?_
      refine js_S rfl rfl (.inl rfl) (xv_move rfl ⟨rfl, rfl⟩) ?_
      refine js_S rfl rfl (.inl rfl) (xv_add rfl rfl (wrap_i64 (by (first|omega|(dsimp only at *;omega)|(simp at *;omega))) (by (first|omega|(dsimp only at *;omega)|(simp at *;omega)))) ⟨rfl, rfl⟩) ?_
      refine js_S rfl rfl (.inl rfl) (xv_ia (sz := 2) (j := (a + (o - (b - a)))) sl95 ty93 rfl rfl rfl (by (first|omega|(dsimp only at *;omega)|(simp at *;omega))) (by (first|omega|(dsimp only at *;omega)|(simp at *;omega))) (by (first|omega|(dsimp only at *;omega)|(simp at *;omega))) ⟨rfl, rfl⟩) ?_
      refine js_R0 rfl rfl (.inl rfl) (xv_loadA ty93 rfl rfl (by ((repeat first|exact z_0|assumption|refine z_1 ?_|(refine z_l ?_;(repeat first|exact z_0|assumption|refine z_1 ?_);done)|refine z_r ?_);done)) (ca_get eShare_len (k := (a + (o - (b - a)))) (by rw [hA1.size]; (first|omega|(dsimp only at *;omega)|(simp at *;omega)))) rfl ⟨rfl, rfl⟩) ?_
      refine js_S rfl rfl (.inl rfl) (xv_move rfl ⟨rfl, rfl⟩) ?_
      refine js_S rfl rfl (.inl rfl) (xv_move rfl ⟨rfl, rfl⟩) ?_
      refine js_S rfl rfl (.inl rfl) (xv_ia (sz := 2) (j := ((a + (b - a) / 4 * 2 - 1) + k)) sl95 ty93 rfl rfl rfl (by (first|omega|(dsimp only at *;omega)|(simp at *;omega))) (by (first|omega|(dsimp only at *;omega)|(simp at *;omega))) (by (first|omega|(dsimp only at *;omega)|(simp at *;omega))) ⟨rfl, rfl⟩) ?_
      refine js_R0 rfl rfl (.inl rfl) (xv_loadA ty93 rfl rfl (by ((repeat first|exact z_0|assumption|refine z_1 ?_|(refine z_l ?_;(repeat first|exact z_0|assumption|refine z_1 ?_);done)|refine z_r ?_);done)) (ca_get eShare_len (k := ((a + (b - a) / 4 * 2 - 1) + k)) (by rw [hA1.size]; (first|omega|(dsimp only at *;omega)|(simp at *;omega)))) rfl ⟨rfl, rfl⟩) ?_
      refine js_S rfl rfl (.inl rfl) (xv_ia (sz := 2) (j := ((a + (b - a) / 4 * 2 - 1) + k)) sl95 ty93 rfl rfl rfl (by (first|omega|(dsimp only at *;omega)|(simp at *;omega))) (by (first|omega|(dsimp only at *;omega)|(simp at *;omega))) (by (first|omega|(dsimp only at *;omega)|(simp at *;omega))) ⟨rfl, rfl⟩) ?_
      refine js_O0 rfl rfl (.inl rfl) (xv_s ty93 rfl rfl (by (first|(apply u_3;(repeat first|exact u_0|assumption|apply u_1|apply u_2);done)|((repeat first|exact u_0|assumption|apply u_1|apply u_2);done)|(apply u_3;apply u_3;(repeat first|exact u_0|assumption|apply u_1|apply u_2);done)|((repeat first|exact u_0|assumption|apply u_3|apply u_1);done))) rfl (by rfl) (by rfl) (ca_room eShare_len (k := ((a + (b - a) / 4 * 2 - 1) + k)) (by rw [hA1.size]; (first|omega|(dsimp only at *;omega)|(simp at *;omega)))) (ca_splice eShare_len (k := ((a + (b - a) / 4 * 2 - 1) + k)) (by rw [hA1.size]; (first|omega|(dsimp only at *;omega)|(simp at *;omega)))) ?_)
      refine js_S rfl rfl (.inl rfl) (xv_ia (sz := 2) (j := (a + (o - (b - a)))) sl95 ty93 rfl rfl rfl (by (first|omega|(dsimp only at *;omega)|(simp at *;omega))) (by (first|omega|(dsimp only at *;omega)|(simp at *;omega))) (by (first|omega|(dsimp only at *;omega)|(simp at *;omega))) ⟨rfl, rfl⟩) ?_
      refine js_O0 rfl rfl (.inl rfl) (xv_s ty93 rfl rfl (by (first|(apply u_3;(repeat first|exact u_0|assumption|apply u_1|apply u_2);done)|((repeat first|exact u_0|assumption|apply u_1|apply u_2);done)|(apply u_3;apply u_3;(repeat first|exact u_0|assumption|apply u_1|apply u_2);done)|((repeat first|exact u_0|assumption|apply u_3|apply u_1);done))) rfl (by rfl) (by rfl) (ca_room eShare_len (k := (a + (o - (b - a)))) (by rw [Array.size_setIfInBounds, hA1.size]; (first|omega|(dsimp only at *;omega)|(simp at *;omega)))) (ca_splice eShare_len (k := (a + (o - (b - a)))) (by rw [Array.size_setIfInBounds, hA1.size]; (first|omega|(dsimp only at *;omega)|(simp at *;omega)))) ?_)
      refine j_end0 ?_
      refine bk_n ?_
      refine th_n ?_
      refine xc_region ?_
      refine xr_op rfl rfl (xv_move rfl ?_)
      refine xr_op rfl rfl (xv_add rfl rfl (wrap_i64 (by (first|omega|(dsimp only at *;omega)|(simp at *;omega))) (by (first|omega|(dsimp only at *;omega)|(simp at *;omega)))) ?_)
      refine xr_op rfl rfl (xv_assign rfl ?_)
      refine xr_end rfl ?_
      have hst : brkN a (b - a) (1 <<< Go.Sort.bitsLen (b - a)) (UInt64.ofNat (b - a), d) (a + (b - a) / 4 * 2 - 1) (k + 1) = ((Go.Sort.xorNext w), Go.Sort.swp d1 ((a + (b - a) / 4 * 2 - 1) + k) (a + (o - (b - a)))) := by
        show Go.Sort.breakStep a (b - a) (1 <<< Go.Sort.bitsLen (b - a)) (brkN a (b - a) (1 <<< Go.Sort.bitsLen (b - a)) (UInt64.ofNat (b - a), d) (a + (b - a) / 4 * 2 - 1) k) ((a + (b - a) / 4 * 2 - 1) + k) = _
        rw [← heq]
        unfold Go.Sort.breakStep
        dsimp only
        rw [show (Go.Sort.xorNext w).toNat &&& ((1 <<< Go.Sort.bitsLen (b - a)) - 1) = o by rw [ho, UInt64.toNat_and, hM1n]]
        first | rw [if_pos (by (first|omega|(dsimp only at *;omega)|(simp at *;omega)))] | rw [if_neg (by (first|omega|(dsimp only at *;omega)|(simp at *;omega)))]
      exact rnd ((k + 1, (Go.Sort.xorNext w), Go.Sort.swp d1 ((a + (b - a) / 4 * 2 - 1) + k) (a + (o - (b - a)))) : Nat × UInt64 × Array Share) ⟨by (first|omega|(dsimp only at *;omega)|(simp at *;omega)), hA1.swp (by (first|omega|(dsimp only at *;omega)|(simp at *;omega))) (by (first|omega|(dsimp only at *;omega)|(simp at *;omega))), hst.symm⟩ (by (first|omega|(dsimp only at *;omega)|(simp at *;omega))) (le_put (le_put (le_put (le_put (le_put (le_put (le_emp _) rfl) rfl) rfl) rfl) rfl) (by dsimp only; rw [show ((a : Int) + (((b - a) / 4 : Nat) : Int) * 2 - 1 + ((k + 1 : Nat) : Int)) = (a : Int) + (((b - a) / 4 : Nat) : Int) * 2 - 1 + (k : Int) + 1 by omega]; rfl)) (by (first|((repeat first|exact s_0|exact s_1|exact s_3|refine s_4 ?_|refine s_5 ?_|refine s_6 ?_|refine s_7 ?_);done)|((repeat first|exact s_0|exact s_1|exact s_3|refine s_4 ?_|refine s_5 ?_|refine s_6 ?_|refine s_8 ?_);done)))
    · refine xr_end rfl ?_
      refine th_n ?_
      refine xc_false rfl ?_
      refine xc_skip ?_
      refine th_n ?_
      refine xc_draw0 [(0, .S), (1, .S), (2, .S), (3, .S), (4, .S), (5, .S), (6, .S), (7, .S), (8, .S), (9, .S), (10, .S), (11, .R), (12, .S), (13, .S), (14, .S), (15, .R), (16, .S), (17, .O), (18, .S), (19, .O)] mixed (by kernel_rfl) ?_
      refine js_S rfl rfl (.inl rfl) (xv_move rfl ⟨rfl, rfl⟩) ?_
      refine js_S rfl rfl (.inl rfl) (xv_move rfl ⟨rfl, rfl⟩) ?_
      refine js_S rfl rfl (.inl rfl) (xv_move rfl ⟨rfl, rfl⟩) ?_
      refine js_S rfl rfl (.inl rfl) (xv_move rfl ⟨rfl, rfl⟩) ?_
      refine js_S rfl rfl (.inl rfl) (xv_move rfl ⟨rfl, rfl⟩) ?_
      refine js_S rfl rfl (.inl rfl) (xv_add rfl rfl (wrap_i64 (by (first|omega|(dsimp only at *;omega)|(simp at *;omega))) (by (first|omega|(dsimp only at *;omega)|(simp at *;omega)))) ⟨rfl, rfl⟩) ?_
      refine js_S rfl rfl (.inl rfl) (xv_move rfl ⟨rfl, rfl⟩) ?_
      refine js_S rfl rfl (.inl rfl) (xv_move rfl ⟨rfl, rfl⟩) ?_
      refine js_S rfl rfl (.inl rfl) (xv_move rfl ⟨rfl, rfl⟩) ?_
      refine js_S rfl rfl (.inl rfl) (xv_add rfl rfl (wrap_i64 (by (first|omega|(dsimp only at *;omega)|(simp at *;omega))) (by (first|omega|(dsimp only at *;omega)|(simp at *;omega)))) ⟨rfl, rfl⟩) ?_
      refine js_S rfl rfl (.inl rfl) (xv_ia (sz := 2) (j := (a + o)) sl95 ty93 rfl rfl rfl (by (first|omega|(dsimp only at *;omega)|(simp at *;omega))) (by (first|omega|(dsimp only at *;omega)|(simp at *;omega))) (by (first|omega|(dsimp only at *;omega)|(simp at *;omega))) ⟨rfl, rfl⟩) ?_
      refine js_R0 rfl rfl (.inl rfl) (xv_loadA ty93 rfl rfl (by ((repeat first|exact z_0|assumption|refine z_1 ?_|(refine z_l ?_;(repeat first|exact z_0|assumption|refine z_1 ?_);done)|refine z_r ?_);done)) (ca_get eShare_len (k := (a + o)) (by rw [hA1.size]; (first|omega|(dsimp only at *;omega)|(simp at *;omega)))) rfl ⟨rfl, rfl⟩) ?_
      refine js_S rfl rfl (.inl rfl) (xv_move rfl ⟨rfl, rfl⟩) ?_
      refine js_S rfl rfl (.inl rfl) (xv_move rfl ⟨rfl, rfl⟩) ?_
      refine js_S rfl rfl (.inl rfl) (xv_ia (sz := 2) (j := ((a + (b - a) / 4 * 2 - 1) + k)) sl95 ty93 rfl rfl rfl (by (first|omega|(dsimp only at *;omega)|(simp at *;omega))) (by (first|omega|(dsimp only at *;omega)|(simp at *;omega))) (by (first|omega|(dsimp only at *;omega)|(simp at *;omega))) ⟨rfl, rfl⟩) ?_
      refine js_R0 rfl rfl (.inl rfl) (xv_loadA ty93 rfl rfl (by ((repeat first|exact z_0|assumption|refine z_1 ?_|(refine z_l ?_;(repeat first|exact z_0|assumption|refine z_1 ?_);done)|refine z_r ?_);done)) (ca_get eShare_len (k := ((a + (b - a) / 4 * 2 - 1) + k)) (by rw [hA1.size]; (first|omega|(dsimp only at *;omega)|(simp at *;omega)))) rfl ⟨rfl, rfl⟩) ?_
      refine js_S rfl rfl (.inl rfl) (xv_ia (sz := 2) (j := ((a + (b - a) / 4 * 2 - 1) + k)) sl95 ty93 rfl rfl rfl (by (first|omega|(dsimp only at *;omega)|(simp at *;omega))) (by (first|omega|(dsimp only at *;omega)|(simp at *;omega))) (by (first|omega|(dsimp only at *;omega)|(simp at *;omega))) ⟨rfl, rfl⟩) ?_
      refine js_O0 rfl rfl (.inl rfl) (xv_s ty93 rfl rfl (by (first|(apply u_3;(repeat first|exact u_0|assumption|apply u_1|apply u_2);done)|((repeat first|exact u_0|assumption|apply u_1|apply u_2);done)|(apply u_3;apply u_3;(repeat first|exact u_0|assumption|apply u_1|apply u_2);done)|((repeat first|exact u_0|assumption|apply u_3|apply u_1);done))) rfl (by rfl) (by rfl) (ca_room eShare_len (k := ((a + (b - a) / 4 * 2 - 1) + k)) (by rw [hA1.size]; (first|omega|(dsimp only at *;omega)|(simp at *;omega)))) (ca_splice eShare_len (k := ((a + (b - a) / 4 * 2 - 1) + k)) (by rw [hA1.size]; (first|omega|(dsimp only at *;omega)|(simp at *;omega)))) ?_)
      refine js_S rfl rfl (.inl rfl) (xv_ia (sz := 2) (j := (a + o)) sl95 ty93 rfl rfl rfl (by (first|omega|(dsimp only at *;omega)|(simp at *;omega))) (by (first|omega|(dsimp only at *;omega)|(simp at *;omega))) (by (first|omega|(dsimp only at *;omega)|(simp at *;omega))) ⟨rfl, rfl⟩) ?_
      refine js_O0 rfl rfl (.inl rfl) (xv_s ty93 rfl rfl (by (first|(apply u_3;(repeat first|exact u_0|assumption|apply u_1|apply u_2);done)|((repeat first|exact u_0|assumption|apply u_1|apply u_2);done)|(apply u_3;apply u_3;(repeat first|exact u_0|assumption|apply u_1|apply u_2);done)|((repeat first|exact u_0|assumption|apply u_3|apply u_1);done))) rfl (by rfl) (by rfl) (ca_room eShare_len (k := (a + o)) (by rw [Array.size_setIfInBounds, hA1.size]; (first|omega|(dsimp only at *;omega)|(simp at *;omega)))) (ca_splice eShare_len (k := (a + o)) (by rw [Array.size_setIfInBounds, hA1.size]; (first|omega|(dsimp only at *;omega)|(simp at *;omega)))) ?_)
      refine j_end0 ?_
      refine bk_n ?_
      refine th_n ?_
      refine xc_region ?_
      refine xr_op rfl rfl (xv_move rfl ?_)
      refine xr_op rfl rfl (xv_add rfl rfl (wrap_i64 (by (first|omega|(dsimp only at *;omega)|(simp at *;omega))) (by (first|omega|(dsimp only at *;omega)|(simp at *;omega)))) ?_)
      refine xr_op rfl rfl (xv_assign rfl ?_)
      refine xr_end rfl ?_
      have hst : brkN a (b - a) (1 <<< Go.Sort.bitsLen (b - a)) (UInt64.ofNat (b - a), d) (a + (b - a) / 4 * 2 - 1) (k + 1) = ((Go.Sort.xorNext w), Go.Sort.swp d1 ((a + (b - a) / 4 * 2 - 1) + k) (a + o)) := by
        show Go.Sort.breakStep a (b - a) (1 <<< Go.Sort.bitsLen (b - a)) (brkN a (b - a) (1 <<< Go.Sort.bitsLen (b - a)) (UInt64.ofNat (b - a), d) (a + (b - a) / 4 * 2 - 1) k) ((a + (b - a) / 4 * 2 - 1) + k) = _
        rw [← heq]
        unfold Go.Sort.breakStep
        dsimp only
        rw [show (Go.Sort.xorNext w).toNat &&& ((1 <<< Go.Sort.bitsLen (b - a)) - 1) = o by rw [ho, UInt64.toNat_and, hM1n]]
        first | rw [if_pos (by (first|omega|(dsimp only at *;omega)|(simp at *;omega)))] | rw [if_neg (by (first|omega|(dsimp only at *;omega)|(simp at *;omega)))]
      exact rnd ((k + 1, (Go.Sort.xorNext w), Go.Sort.swp d1 ((a + (b - a) / 4 * 2 - 1) + k) (a + o)) : Nat × UInt64 × Array Share) ⟨by (first|omega|(dsimp only at *;omega)|(simp at *;omega)), hA1.swp (by (first|omega|(dsimp only at *;omega)|(simp at *;omega))) (by (first|omega|(dsimp only at *;omega)|(simp at *;omega))), hst.symm⟩ (by (first|omega|(dsimp only at *;omega)|(simp at *;omega))) (le_put (le_put (le_put (le_put (le_put (le_put (le_emp _) rfl) rfl) rfl) rfl) rfl) (by dsimp only; rw [show ((a : Int) + (((b - a) / 4 : Nat) : Int) * 2 - 1 + ((k + 1 : Nat) : Int)) = (a : Int) + (((b - a) / 4 : Nat) : Int) * 2 - 1 + (k : Int) + 1 by omega]; rfl)) (by (first|((repeat first|exact s_0|exact s_1|exact s_3|refine s_4 ?_|refine s_5 ?_|refine s_6 ?_|refine s_7 ?_);done)|((repeat first|exact s_0|exact s_1|exact s_3|refine s_4 ?_|refine s_5 ?_|refine s_6 ?_|refine s_8 ?_);done)))
  · refine xr_end rfl ?_
    refine th_n ?_
    refine xc_false rfl ?_
    refine xc_exit ?_
    refine th_x ?_
    refine th_x ?_
    refine bk_same ?_
    refine body_end (h' := ((bb, .cells ⟨(d1).toList.flatMap eShare ++ sp⟩ 93) :: L)) rfl ro_nil (by (first|((repeat first|exact s_0|exact s_1|exact s_3|refine s_4 ?_|refine s_5 ?_|refine s_6 ?_|refine s_7 ?_);done)|((repeat first|exact s_0|exact s_1|exact s_3|refine s_4 ?_|refine s_5 ?_|refine s_6 ?_|refine s_8 ?_);done))) ?_
    (obtain rfl : k = 3 := by (first|omega|(dsimp only at *;omega)|(simp at *;omega))); (have e : d1 = Go.Sort.breakPatterns d a b := by rw [hres, ← heq]); rw [← e] at H; exact H hA1

def PdqOk (m : Nat) : Prop := ∀ {bb cap N : Nat} {sp : List Value} {d : Array Share} {f : Value} {cm : Share → Share → Int} {p : Share → Prop} {L : Hp} {R : Ending → Hp → Prop} (hA : Arr N p d) (hN : N ≤ 49) (hf : ∀ x y, p x → p y → ∀ H R', L ⊆ H → R' (.returned (I (cm x y))) H → AFn Try.prog f [.agg ⟨eShare x⟩, .agg ⟨eShare y⟩] H R') {a b limit : Nat} {ai bi li : Int} (ea : ai = a) (eb : bi = b) (el : li = limit) (hab : a ≤ b) (hb : b ≤ N) (hm : b - a ≤ m) (hl : limit ≤ 1000) (H : Arr N p (Go.Sort.pdq (ltc cm) d a b limit true true) → R (.returned (.tuple #[])) ((bb, .cells ⟨(Go.Sort.pdq (ltc cm) d a b limit true true).toList.flatMap eShare ++ sp⟩ 93) :: L)),
    ACalls Try.prog 58 ⟨[.slice (some ⟨bb, 0, none⟩) N cap, I ai, I bi, I li, f]⟩ ((bb, .cells ⟨(d).toList.flatMap eShare ++ sp⟩ 93) :: L) R

theorem pdq_step {m : Nat} (ih : ∀ j, j < m → PdqOk j) : PdqOk m := by
  intro bb cap N sp d f cm p L R hA hN hf a b limit ai bi li ea eb el hab hb hm hl H
  subst ea eb el
  refine calls_of_xc (N := 148) Try.func58 rfl (by rfl) ?_
  refine xc_seq (xc_region ?_)
  refine xr_op rfl rfl (xv_assign rfl ?_)
  refine xr_end rfl ?_
  refine th_n ?_
  refine xc_seq (xc_region ?_)
  refine xr_op rfl rfl (xv_assign rfl ?_)
  refine xr_end rfl ?_
  refine th_n ?_
  refine xc_block ?_
  refine xc_loop (σ := PdqS Share) (fun z => a ≤ z.a ∧ z.a ≤ z.b ∧ z.b ≤ b ∧ z.lim ≤ limit ∧ Arr N p z.d ∧ Go.Sort.pdq (ltc cm) z.d z.a z.b z.lim z.wb z.wp = Go.Sort.pdq (ltc cm) d a b limit true true) (fun z => (((((((emp.put (some 0) (.slice (some ⟨bb, 0, none⟩) N cap)).put (some 1) (I z.a)).put (some 2) (I z.b)).put (some 3) (I z.lim)).put (some 4) (f)).put (some 10) (.bool z.wb)).put (some 11) (.bool z.wp))) (fun z => ((bb, .cells ⟨(z.d).toList.flatMap eShare ++ sp⟩ 93) :: L)) (fun z => z.b - z.a) (⟨a, b, limit, true, true, d⟩ : PdqS Share) ⟨Nat.le_refl _, hab, Nat.le_refl _, Nat.le_refl _, hA, rfl⟩ (le_put (le_put (le_put (le_put (le_put (le_put (le_put (le_emp _) rfl) rfl) rfl) rfl) rfl) rfl) rfl) (by (first|((repeat first|exact s_0|exact s_1|exact s_3|refine s_4 ?_|refine s_5 ?_|refine s_6 ?_|refine s_7 ?_);done)|((repeat first|exact s_0|exact s_1|exact s_3|refine s_4 ?_|refine s_5 ?_|refine s_6 ?_|refine s_8 ?_);done))) ?_
  rintro ⟨a1, b1, l1, wb, wp, d1⟩ ⟨ho1, ho2, ho3, hl1, hA1, heq⟩
  dsimp only at ho1 ho2 ho3 hl1 hA1 heq
  refine xc_block ?_
  refine xc_seq (xc_region ?_)
  refine xr_op rfl rfl (xv_move rfl ?_)
  refine xr_op rfl rfl (xv_move rfl ?_)
  refine xr_op rfl rfl (xv_sub rfl rfl (wrap_i64 (by (first|omega|(dsimp only at *;omega)|(simp at *;omega))) (by (first|omega|(dsimp only at *;omega)|(simp at *;omega)))) ?_)
  refine xr_op rfl rfl (xv_assign rfl ?_)
  refine xr_end rfl ?_
  refine th_n ?_
  refine xc_seq ?_
  refine xc_seq (xc_region ?_)
  refine xr_op rfl rfl (xv_move rfl ?_)
  refine xr_op rfl rfl (xv_leq2 rfl rfl (fun q1 => ?_) (fun q1 => ?_))
  · refine xr_end rfl ?_
    refine th_n ?_
    refine xc_true rfl ?_
    refine xc_seq (xc_region ?_)
    refine xr_op rfl rfl (xv_move rfl ?_)
    refine xr_op rfl rfl (xv_move rfl ?_)
    refine xr_op rfl rfl (xv_move rfl ?_)
    refine xr_op rfl rfl (xv_move rfl ?_)
    refine xr_op rfl rfl (xv_calls rfl hb63 (ins_c (a := a1) (b := b1) hA1 hN hf rfl rfl (by (first|omega|(dsimp only at *;omega)|(simp at *;omega))) (by (first|omega|(dsimp only at *;omega)|(simp at *;omega))) (fun hA2 => up_ret ?_)))
    refine xr_end rfl ?_
    refine th_n ?_
    refine xc_ret ?_
    refine th_r ?_
    refine bk_r ?_
    refine th_r ?_
    refine bk_r ?_
    refine body_ret (h' := ((bb, .cells ⟨(Go.Sort.insertionSort (ltc cm) d1 a1 b1).toList.flatMap eShare ++ sp⟩ 93) :: L)) rfl ro_nil (by (first|((repeat first|exact s_0|exact s_1|exact s_3|refine s_4 ?_|refine s_5 ?_|refine s_6 ?_|refine s_7 ?_);done)|((repeat first|exact s_0|exact s_1|exact s_3|refine s_4 ?_|refine s_5 ?_|refine s_6 ?_|refine s_8 ?_);done))) ?_
    first | (have e := (pdq_ins (by (first|omega|(dsimp only at *;omega)|(simp at *;omega)))).symm.trans heq; rw [← e] at H; exact H hA2) | (have e := (pdq_heap (by (first|omega|(dsimp only at *;omega)|(simp at *;omega))) (by (first|omega|(dsimp only at *;omega)|(simp at *;omega)))).symm.trans heq; rw [← e] at H; exact H hA2) | (have e := pdq_pi (lt := ltc cm) (d := d1) (a := a1) (b := b1) (limit := l1) (wb := true) (wp := true) (by (first|omega|(dsimp only at *;omega)|(simp at *;omega))) (by (first|omega|(dsimp only at *;omega)|(simp at *;omega))) (by (first|omega|(dsimp only at *;omega)|(simp at *;omega))) rfl rfl; rw [← hd2] at e; rw [← hd3, ← hph] at e; have e2 := (e (hintI_1.1 (by (first|omega|(dsimp only at *;omega)|(simp at *;omega)))) (by assumption)).symm.trans heq; rw [← e2] at H; exact H hA3)
  · refine xr_end rfl ?_
    refine th_n ?_
    refine xc_false rfl ?_
    refine xc_skip ?_
    refine th_n ?_
    refine xc_seq ?_
    refine xc_seq (xc_region ?_)
    refine xr_op rfl rfl (xv_move rfl ?_)
    refine xr_op rfl rfl (xv_eql2 rfl rfl (fun q2 => ?_) (fun q2 => ?_))
    · refine xr_end rfl ?_
      refine th_n ?_
      refine xc_true rfl ?_
      refine xc_seq (xc_region ?_)
      refine xr_op rfl rfl (xv_move rfl ?_)
      refine xr_op rfl rfl (xv_move rfl ?_)
      refine xr_op rfl rfl (xv_move rfl ?_)
      refine xr_op rfl rfl (xv_move rfl ?_)
      refine xr_op rfl rfl (xv_calls rfl hb64 (heap_c (a := a1) (b := b1) hA1 hN hf rfl rfl (by (first|omega|(dsimp only at *;omega)|(simp at *;omega))) (by (first|omega|(dsimp only at *;omega)|(simp at *;omega))) (fun hA2 => up_ret ?_)))
      refine xr_end rfl ?_
      refine th_n ?_
      refine xc_ret ?_
      refine th_r ?_
      refine bk_r ?_
      refine th_r ?_
      refine bk_r ?_
      refine body_ret (h' := ((bb, .cells ⟨(Go.Sort.heapSort (ltc cm) d1 a1 b1).toList.flatMap eShare ++ sp⟩ 93) :: L)) rfl ro_nil (by (first|((repeat first|exact s_0|exact s_1|exact s_3|refine s_4 ?_|refine s_5 ?_|refine s_6 ?_|refine s_7 ?_);done)|((repeat first|exact s_0|exact s_1|exact s_3|refine s_4 ?_|refine s_5 ?_|refine s_6 ?_|refine s_8 ?_);done))) ?_
      first | (have e := (pdq_ins (by (first|omega|(dsimp only at *;omega)|(simp at *;omega)))).symm.trans heq; rw [← e] at H; exact H hA2) | (have e := (pdq_heap (by (first|omega|(dsimp only at *;omega)|(simp at *;omega))) (by (first|omega|(dsimp only at *;omega)|(simp at *;omega)))).symm.trans heq; rw [← e] at H; exact H hA2) | (have e := pdq_pi (lt := ltc cm) (d := d1) (a := a1) (b := b1) (limit := l1) (wb := true) (wp := true) (by (first|omega|(dsimp only at *;omega)|(simp at *;omega))) (by (first|omega|(dsimp only at *;omega)|(simp at *;omega))) (by (first|omega|(dsimp only at *;omega)|(simp at *;omega))) rfl rfl; rw [← hd2] at e; rw [← hd3, ← hph] at e; have e2 := (e (hintI_1.1 (by (first|omega|(dsimp only at *;omega)|(simp at *;omega)))) (by assumption)).symm.trans heq; rw [← e2] at H; exact H hA3)
    · refine xr_end rfl ?_
      refine th_n ?_
      refine xc_false rfl ?_
      refine xc_skip ?_
      refine th_n ?_
      refine xc_join (σ := Nat × Array Share) (fun q => q.1 = pl1 wb l1 ∧ q.2 = pq1 wb d1 a1 b1 ∧ Arr N p q.2) (fun q => ((((((((emp.put (some 0) (.slice (some ⟨bb, 0, none⟩) N cap)).put (some 1) (I a1)).put (some 2) (I b1)).put (some 3) (I q.1)).put (some 4) (f)).put (some 10) (.bool wb)).put (some 11) (.bool wp)).put (some 12) (I ((b1 : Int) - a1)))) (fun q => ((bb, .cells ⟨(q.2).toList.flatMap eShare ++ sp⟩ 93) :: L)) ?_ ?_
      · refine xc_seq (xc_region ?_)
        cases wb
        · refine xr_op rfl rfl (xv_move rfl ?_)
          refine xr_op rfl rfl (xv_not rfl ?_)
          refine xr_end rfl ?_
          refine th_n ?_
          refine xc_true rfl ?_
          refine xc_seq (xc_region ?_)
          refine xr_op rfl rfl (xv_move rfl ?_)
          refine xr_op rfl rfl (xv_move rfl ?_)
          refine xr_op rfl rfl (xv_move rfl ?_)
          refine xr_op rfl rfl (xv_move rfl ?_)
          refine xr_op rfl rfl (xv_calls rfl hb65 (brk_c (cm := cm) (a := a1) (b := b1) hA1 hN rfl rfl (by (first|omega|(dsimp only at *;omega)|(simp at *;omega))) (by (first|omega|(dsimp only at *;omega)|(simp at *;omega))) (fun hA2 => up_ret ?_)))
          refine xr_end rfl ?_
          refine th_n ?_
          refine xc_region ?_
          refine xr_op rfl rfl (xv_move rfl ?_)
          refine xr_op rfl rfl (xv_sub rfl rfl (wrap_i64 (by (first|omega|(dsimp only at *;omega)|(simp at *;omega))) (by (first|omega|(dsimp only at *;omega)|(simp at *;omega)))) ?_)
          refine xr_op rfl rfl (xv_assign rfl ?_)
          refine xr_end rfl ?_
          exact jn_n ((l1 - 1, Go.Sort.breakPatterns d1 a1 b1) : Nat × Array Share) ⟨rfl, rfl, hA2⟩ (le_put (le_put (le_put (le_put (le_put (le_put (le_put (le_put (le_emp _) rfl) rfl) rfl) (by first | rfl | (dsimp only; rw [show ((l1 - 1 : Nat) : Int) = (l1 : Int) - 1 by (first|omega|(dsimp only at *;omega)|(simp at *;omega))]; rfl))) rfl) rfl) rfl) rfl) (by (first|((repeat first|exact s_0|exact s_1|exact s_3|refine s_4 ?_|refine s_5 ?_|refine s_6 ?_|refine s_7 ?_);done)|((repeat first|exact s_0|exact s_1|exact s_3|refine s_4 ?_|refine s_5 ?_|refine s_6 ?_|refine s_8 ?_);done)))
        · refine xr_op rfl rfl (xv_move rfl ?_)
          refine xr_op rfl rfl (xv_not rfl ?_)
          refine xr_end rfl ?_
          refine th_n ?_
          refine xc_false rfl ?_
          refine xc_skip ?_
          exact jn_n ((l1, d1) : Nat × Array Share) ⟨rfl, rfl, hA1⟩ (le_put (le_put (le_put (le_put (le_put (le_put (le_put (le_put (le_emp _) rfl) rfl) rfl) (by first | rfl | (dsimp only; rw [show ((l1 - 1 : Nat) : Int) = (l1 : Int) - 1 by (first|omega|(dsimp only at *;omega)|(simp at *;omega))]; rfl))) rfl) rfl) rfl) rfl) (by (first|((repeat first|exact s_0|exact s_1|exact s_3|refine s_4 ?_|refine s_5 ?_|refine s_6 ?_|refine s_7 ?_);done)|((repeat first|exact s_0|exact s_1|exact s_3|refine s_4 ?_|refine s_5 ?_|refine s_6 ?_|refine s_8 ?_);done)))
      · rintro ⟨l2, d2⟩ ⟨hl2, hd2, hA2⟩
        dsimp only at hl2 hd2 hA2
        have hl2b : l2 ≤ l1 := by rw [hl2]; unfold pl1; split <;> omega
        refine xc_seq (xc_region ?_)
        refine xr_op rfl rfl (xv_move rfl ?_)
        refine xr_op rfl rfl (xv_move rfl ?_)
        refine xr_op rfl rfl (xv_move rfl ?_)
        refine xr_op rfl rfl (xv_move rfl ?_)
        refine xr_op rfl rfl (xv_calls rfl hb66 (choose_c (a := a1) (b := b1) hA2 hN hf rfl rfl (by (first|omega|(dsimp only at *;omega)|(simp at *;omega))) (by (first|omega|(dsimp only at *;omega)|(simp at *;omega))) (up_ret ?_)))
        refine xr_op rfl rfl (xv_move rfl ?_)
        refine xr_op rfl rfl (xv_extract rfl rfl ?_)
        refine xr_op rfl rfl (xv_extract rfl rfl ?_)
        refine xr_op rfl rfl (xv_assign rfl ?_)
        refine xr_op rfl rfl (xv_assign rfl ?_)
        refine xr_end rfl ?_
        refine th_n ?_
        refine xc_join (σ := Nat × Go.Sort.Hint × Array Share) (fun q => q.1 = pv2 (ltc cm) d2 a1 b1 ∧ q.2.1 = ph2 (ltc cm) d2 a1 b1 ∧ q.2.2 = pq2 (ltc cm) d2 a1 b1 ∧ Arr N p q.2.2 ∧ a1 ≤ q.1 ∧ q.1 < b1) (fun q => ((((((((((emp.put (some 0) (.slice (some ⟨bb, 0, none⟩) N cap)).put (some 1) (I a1)).put (some 2) (I b1)).put (some 3) (I l2)).put (some 4) (f)).put (some 10) (.bool wb)).put (some 11) (.bool wp)).put (some 12) (I ((b1 : Int) - a1))).put (some 13) (I q.1)).put (some 14) (I (hintI q.2.1)))) (fun q => ((bb, .cells ⟨(q.2.2).toList.flatMap eShare ++ sp⟩ 93) :: L)) ?_ ?_
        · refine xc_seq (xc_region ?_)
          have hcb := Go.Sort.choosePivot_holds (ltc cm) d2 a1 b1 (by (first|omega|(dsimp only at *;omega)|(simp at *;omega)))
          refine xr_op rfl rfl (xv_move rfl ?_)
          refine xr_op rfl rfl (xv_eql2 rfl rfl (fun q3 => ?_) (fun q3 => ?_))
          · refine xr_end rfl ?_
            refine th_n ?_
            refine xc_true rfl ?_
            refine xc_seq (xc_region ?_)
            refine xr_op rfl rfl (xv_move rfl ?_)
            refine xr_op rfl rfl (xv_move rfl ?_)
            refine xr_op rfl rfl (xv_move rfl ?_)
            refine xr_op rfl rfl (xv_move rfl ?_)
            refine xr_op rfl rfl (xv_calls rfl hb67 (rev_c (cm := cm) (a := a1) (b := b1) hA2 hN rfl rfl (by (first|omega|(dsimp only at *;omega)|(simp at *;omega))) (by (first|omega|(dsimp only at *;omega)|(simp at *;omega))) (fun hA3 => up_ret ?_)))
            refine xr_end rfl ?_
            refine th_n ?_
            refine xc_seq (xc_region ?_)
            refine xr_op rfl rfl (xv_move rfl ?_)
            refine xr_op rfl rfl (xv_sub rfl rfl (wrap_i64 (by (first|omega|(dsimp only at *;omega)|(simp at *;omega))) (by (first|omega|(dsimp only at *;omega)|(simp at *;omega)))) ?_)
            refine xr_op rfl rfl (xv_move rfl ?_)
            refine xr_op rfl rfl (xv_move rfl ?_)
            refine xr_op rfl rfl (xv_sub rfl rfl (wrap_i64 (by (first|omega|(dsimp only at *;omega)|(simp at *;omega))) (by (first|omega|(dsimp only at *;omega)|(simp at *;omega)))) ?_)
            refine xr_op rfl rfl (xv_sub rfl rfl (wrap_i64 (by (first|omega|(dsimp only at *;omega)|(simp at *;omega))) (by (first|omega|(dsimp only at *;omega)|(simp at *;omega)))) ?_)
            refine xr_op rfl rfl (xv_assign rfl ?_)
            refine xr_end rfl ?_
            refine th_n ?_
            refine xc_region ?_
            refine xr_op rfl rfl (xv_assign rfl ?_)
            refine xr_end rfl ?_
            have hdec := hintI_2.1 (show hintI (Go.Sort.choosePivot (ltc cm) d2 a1 b1).2 = 2 by (first|omega|(dsimp only at *;omega)|(simp at *;omega)))
            exact jn_n (((b1 - 1) - ((Go.Sort.choosePivot (ltc cm) d2 a1 b1).1 - a1), .increasing, Go.Sort.reverseRange d2 a1 b1) : Nat × Go.Sort.Hint × Array Share) ⟨(if_pos hdec).symm, (if_pos hdec).symm, (if_pos hdec).symm, hA3, by (first|omega|(dsimp only at *;omega)|(simp at *;omega)), by (first|omega|(dsimp only at *;omega)|(simp at *;omega))⟩ (le_put (le_put (le_put (le_put (le_put (le_put (le_put (le_put (le_put (le_put (le_emp _) rfl) rfl) rfl) rfl) rfl) rfl) rfl) rfl) (by first | rfl | (dsimp only; rw [show (((b1 - 1) - ((Go.Sort.choosePivot (ltc cm) d2 a1 b1).1 - a1) : Nat) : Int) = (b1 : Int) - 1 - (((Go.Sort.choosePivot (ltc cm) d2 a1 b1).1 : Nat) - (a1 : Int)) by (first|omega|(dsimp only at *;omega)|(simp at *;omega))]; rfl))) rfl) (by (first|((repeat first|exact s_0|exact s_1|exact s_3|refine s_4 ?_|refine s_5 ?_|refine s_6 ?_|refine s_7 ?_);done)|((repeat first|exact s_0|exact s_1|exact s_3|refine s_4 ?_|refine s_5 ?_|refine s_6 ?_|refine s_8 ?_);done)))
          · refine xr_end rfl ?_
            refine th_n ?_
            refine xc_false rfl ?_
            refine xc_skip ?_
            have hdec : ¬ (Go.Sort.choosePivot (ltc cm) d2 a1 b1).2 = .decreasing := fun hq9 => absurd (hintI_2.2 hq9) (by (first|omega|(dsimp only at *;omega)|(simp at *;omega)))
            exact jn_n (((Go.Sort.choosePivot (ltc cm) d2 a1 b1).1, (Go.Sort.choosePivot (ltc cm) d2 a1 b1).2, d2) : Nat × Go.Sort.Hint × Array Share) ⟨(if_neg hdec).symm, (if_neg hdec).symm, (if_neg hdec).symm, hA2, hcb.1, hcb.2⟩ (le_put (le_put (le_put (le_put (le_put (le_put (le_put (le_put (le_put (le_put (le_emp _) rfl) rfl) rfl) rfl) rfl) rfl) rfl) rfl) (by first | rfl | (dsimp only; rw [show (((b1 - 1) - ((Go.Sort.choosePivot (ltc cm) d2 a1 b1).1 - a1) : Nat) : Int) = (b1 : Int) - 1 - (((Go.Sort.choosePivot (ltc cm) d2 a1 b1).1 : Nat) - (a1 : Int)) by (first|omega|(dsimp only at *;omega)|(simp at *;omega))]; rfl))) rfl) (by (first|((repeat first|exact s_0|exact s_1|exact s_3|refine s_4 ?_|refine s_5 ?_|refine s_6 ?_|refine s_7 ?_);done)|((repeat first|exact s_0|exact s_1|exact s_3|refine s_4 ?_|refine s_5 ?_|refine s_6 ?_|refine s_8 ?_);done)))
        · rintro ⟨pv, hint, d3⟩ ⟨hpv, hph, hd3, hA3, hpa, hpb⟩
          dsimp only at hpv hph hd3 hA3 hpa hpb
          refine xc_join (σ := Unit) (fun _ => ¬ (wb = true ∧ wp = true ∧ hint = .increasing ∧ (Go.Sort.partialInsertionSort (ltc cm) d3 a1 b1).2 = true)) (fun _ => ((((((((((emp.put (some 0) (.slice (some ⟨bb, 0, none⟩) N cap)).put (some 1) (I a1)).put (some 2) (I b1)).put (some 3) (I l2)).put (some 4) (f)).put (some 10) (.bool wb)).put (some 11) (.bool wp)).put (some 12) (I ((b1 : Int) - a1))).put (some 13) (I pv)).put (some 14) (I (hintI hint)))) (fun _ => ((bb, .cells ⟨(d3).toList.flatMap eShare ++ sp⟩ 93) :: L)) ?_ ?_
          · refine xc_seq (xc_region ?_)
            cases wb <;> cases wp
            · refine xr_op rfl rfl (xv_move rfl ?_)
              refine xr_op rfl rfl (xv_move rfl ?_)
              refine xr_no rfl rfl rfl rfl ?_
              refine xr_op rfl rfl (xv_pick rfl rfl ?_)
              refine xr_op rfl rfl (xv_move rfl ?_)
              refine xr_no rfl rfl rfl rfl ?_
              refine xr_no rfl rfl rfl rfl ?_
              refine xr_op rfl rfl (xv_pick rfl rfl ?_)
              refine xr_end rfl ?_
              refine th_n ?_
              refine xc_false rfl ?_
              refine xc_skip ?_
              exact jn_n () (fun hq9 => by first | (exact absurd hq9.1 (by decide)) | (exact absurd hq9.2.1 (by decide)) | (exact absurd (hintI_1.2 hq9.2.2.1) (by (first|omega|(dsimp only at *;omega)|(simp at *;omega)))) | (have h9 : (Go.Sort.partialInsertionSort (ltc cm) d3 a1 b1).2 = false := (by assumption); rw [h9] at hq9; exact absurd hq9.2.2.2 (by decide))) (le_put (le_put (le_put (le_put (le_put (le_put (le_put (le_put (le_put (le_put (le_emp _) rfl) rfl) rfl) rfl) rfl) rfl) rfl) rfl) rfl) rfl) (by (first|((repeat first|exact s_0|exact s_1|exact s_3|refine s_4 ?_|refine s_5 ?_|refine s_6 ?_|refine s_7 ?_);done)|((repeat first|exact s_0|exact s_1|exact s_3|refine s_4 ?_|refine s_5 ?_|refine s_6 ?_|refine s_8 ?_);done)))
            · refine xr_op rfl rfl (xv_move rfl ?_)
              refine xr_op rfl rfl (xv_move rfl ?_)
              refine xr_no rfl rfl rfl rfl ?_
              refine xr_op rfl rfl (xv_pick rfl rfl ?_)
              refine xr_op rfl rfl (xv_move rfl ?_)
              refine xr_no rfl rfl rfl rfl ?_
              refine xr_no rfl rfl rfl rfl ?_
              refine xr_op rfl rfl (xv_pick rfl rfl ?_)
              refine xr_end rfl ?_
              refine th_n ?_
              refine xc_false rfl ?_
              refine xc_skip ?_
              exact jn_n () (fun hq9 => by first | (exact absurd hq9.1 (by decide)) | (exact absurd hq9.2.1 (by decide)) | (exact absurd (hintI_1.2 hq9.2.2.1) (by (first|omega|(dsimp only at *;omega)|(simp at *;omega)))) | (have h9 : (Go.Sort.partialInsertionSort (ltc cm) d3 a1 b1).2 = false := (by assumption); rw [h9] at hq9; exact absurd hq9.2.2.2 (by decide))) (le_put (le_put (le_put (le_put (le_put (le_put (le_put (le_put (le_put (le_put (le_emp _) rfl) rfl) rfl) rfl) rfl) rfl) rfl) rfl) rfl) rfl) (by (first|((repeat first|exact s_0|exact s_1|exact s_3|refine s_4 ?_|refine s_5 ?_|refine s_6 ?_|refine s_7 ?_);done)|((repeat first|exact s_0|exact s_1|exact s_3|refine s_4 ?_|refine s_5 ?_|refine s_6 ?_|refine s_8 ?_);done)))
            · refine xr_op rfl rfl (xv_move rfl ?_)
              refine xr_op rfl rfl (xv_move rfl ?_)
              refine xr_gd rfl rfl rfl (xv_move rfl ?_)
              refine xr_op rfl rfl (xv_pick rfl rfl ?_)
              refine xr_op rfl rfl (xv_move rfl ?_)
              refine xr_no rfl rfl rfl rfl ?_
              refine xr_no rfl rfl rfl rfl ?_
              refine xr_op rfl rfl (xv_pick rfl rfl ?_)
              refine xr_end rfl ?_
              refine th_n ?_
              refine xc_false rfl ?_
              refine xc_skip ?_
              exact jn_n () (fun hq9 => by first | (exact absurd hq9.1 (by decide)) | (exact absurd hq9.2.1 (by decide)) | (exact absurd (hintI_1.2 hq9.2.2.1) (by (first|omega|(dsimp only at *;omega)|(simp at *;omega)))) | (have h9 : (Go.Sort.partialInsertionSort (ltc cm) d3 a1 b1).2 = false := (by assumption); rw [h9] at hq9; exact absurd hq9.2.2.2 (by decide))) (le_put (le_put (le_put (le_put (le_put (le_put (le_put (le_put (le_put (le_put (le_emp _) rfl) rfl) rfl) rfl) rfl) rfl) rfl) rfl) rfl) rfl) (by (first|((repeat first|exact s_0|exact s_1|exact s_3|refine s_4 ?_|refine s_5 ?_|refine s_6 ?_|refine s_7 ?_);done)|((repeat first|exact s_0|exact s_1|exact s_3|refine s_4 ?_|refine s_5 ?_|refine s_6 ?_|refine s_8 ?_);done)))
            · refine xr_op rfl rfl (xv_move rfl ?_)
              refine xr_op rfl rfl (xv_move rfl ?_)
              refine xr_gd rfl rfl rfl (xv_move rfl ?_)
              refine xr_op rfl rfl (xv_pick rfl rfl ?_)
              refine xr_op rfl rfl (xv_move rfl ?_)
              refine xr_gd rfl rfl rfl (xv_move rfl ?_)
              refine xr_gd rfl rfl rfl (xv_eql2 rfl rfl (fun q4 => ?_) (fun q4 => ?_))
              · refine xr_op rfl rfl (xv_pick rfl rfl ?_)
                refine xr_end rfl ?_
                refine th_n ?_
                refine xc_true rfl ?_
                refine xc_seq (xc_region ?_)
                refine xr_op rfl rfl (xv_move rfl ?_)
                refine xr_op rfl rfl (xv_move rfl ?_)
                refine xr_op rfl rfl (xv_move rfl ?_)
                refine xr_op rfl rfl (xv_move rfl ?_)
                refine xr_op rfl rfl (xv_calls rfl hb68 (partial_c (a := a1) (b := b1) hA3 hN hf rfl rfl (by (first|omega|(dsimp only at *;omega)|(simp at *;omega))) (by (first|omega|(dsimp only at *;omega)|(simp at *;omega))) (up_ret ?_)))
                refine xr_end rfl ?_
                refine th_n ?_
                refine xc_bool rfl (fun q5 => ?_) (fun q5 => ?_)
                · refine xc_ret ?_
                  refine jn_r ?_
                  refine bk_r ?_
                  refine th_r ?_
                  refine bk_r ?_
                  refine body_ret (h' := ((bb, .cells ⟨(d3).toList.flatMap eShare ++ sp⟩ 93) :: L)) rfl ro_nil (by (first|((repeat first|exact s_0|exact s_1|exact s_3|refine s_4 ?_|refine s_5 ?_|refine s_6 ?_|refine s_7 ?_);done)|((repeat first|exact s_0|exact s_1|exact s_3|refine s_4 ?_|refine s_5 ?_|refine s_6 ?_|refine s_8 ?_);done))) ?_
                  first | (have e := (pdq_ins (by (first|omega|(dsimp only at *;omega)|(simp at *;omega)))).symm.trans heq; rw [← e] at H; exact H hA2) | (have e := (pdq_heap (by (first|omega|(dsimp only at *;omega)|(simp at *;omega))) (by (first|omega|(dsimp only at *;omega)|(simp at *;omega)))).symm.trans heq; rw [← e] at H; exact H hA2) | (have e := pdq_pi (lt := ltc cm) (d := d1) (a := a1) (b := b1) (limit := l1) (wb := true) (wp := true) (by (first|omega|(dsimp only at *;omega)|(simp at *;omega))) (by (first|omega|(dsimp only at *;omega)|(simp at *;omega))) (by (first|omega|(dsimp only at *;omega)|(simp at *;omega))) rfl rfl; rw [← hd2] at e; rw [← hd3, ← hph] at e; have e2 := (e (hintI_1.1 (by (first|omega|(dsimp only at *;omega)|(simp at *;omega)))) (by assumption)).symm.trans heq; rw [← e2] at H; exact H hA3)
                · refine xc_skip ?_
                  exact jn_n () (fun hq9 => by first | (exact absurd hq9.1 (by decide)) | (exact absurd hq9.2.1 (by decide)) | (exact absurd (hintI_1.2 hq9.2.2.1) (by (first|omega|(dsimp only at *;omega)|(simp at *;omega)))) | (have h9 : (Go.Sort.partialInsertionSort (ltc cm) d3 a1 b1).2 = false := (by assumption); rw [h9] at hq9; exact absurd hq9.2.2.2 (by decide))) (le_put (le_put (le_put (le_put (le_put (le_put (le_put (le_put (le_put (le_put (le_emp _) rfl) rfl) rfl) rfl) rfl) rfl) rfl) rfl) rfl) rfl) (by (first|((repeat first|exact s_0|exact s_1|exact s_3|refine s_4 ?_|refine s_5 ?_|refine s_6 ?_|refine s_7 ?_);done)|((repeat first|exact s_0|exact s_1|exact s_3|refine s_4 ?_|refine s_5 ?_|refine s_6 ?_|refine s_8 ?_);done)))
              · refine xr_op rfl rfl (xv_pick rfl rfl ?_)
                refine xr_end rfl ?_
                refine th_n ?_
                refine xc_false rfl ?_
                refine xc_skip ?_
                exact jn_n () (fun hq9 => by first | (exact absurd hq9.1 (by decide)) | (exact absurd hq9.2.1 (by decide)) | (exact absurd (hintI_1.2 hq9.2.2.1) (by (first|omega|(dsimp only at *;omega)|(simp at *;omega)))) | (have h9 : (Go.Sort.partialInsertionSort (ltc cm) d3 a1 b1).2 = false := (by assumption); rw [h9] at hq9; exact absurd hq9.2.2.2 (by decide))) (le_put (le_put (le_put (le_put (le_put (le_put (le_put (le_put (le_put (le_put (le_emp _) rfl) rfl) rfl) rfl) rfl) rfl) rfl) rfl) rfl) rfl) (by (first|((repeat first|exact s_0|exact s_1|exact s_3|refine s_4 ?_|refine s_5 ?_|refine s_6 ?_|refine s_7 ?_);done)|((repeat first|exact s_0|exact s_1|exact s_3|refine s_4 ?_|refine s_5 ?_|refine s_6 ?_|refine s_8 ?_);done)))
          · rintro ⟨⟩ hno
            refine xc_seq ?_
            refine xc_seq ?_
            refine xc_draw0 [(0, .S), (1, .O), (2, .S), (3, .S), (4, .S), (5, .S), (6, .S), (7, .S), (8, .R), (9, .S), (10, .S), (11, .S), (12, .R), (13, .R), (14, .O), (15, .S), (16, .S)] mixed (by kernel_rfl) ?_
            refine js_S rfl rfl (.inl rfl) (xv_move rfl ⟨rfl, rfl⟩) ?_
            refine js_O0 rfl rfl (.inl rfl) (xv_gtr2 rfl rfl (fun hq => ?_) (fun hq => ?_))
            · refine js_S rfl rfl (.inl rfl) (xv_move rfl ⟨rfl, rfl⟩) ?_
              refine js_S rfl rfl (.inr ⟨_, _, rfl, rfl⟩) (xv_move rfl ⟨rfl, rfl⟩) ?_
              refine js_S rfl rfl (.inr ⟨_, _, rfl, rfl⟩) (xv_move rfl ⟨rfl, rfl⟩) ?_
              refine js_S rfl rfl (.inr ⟨_, _, rfl, rfl⟩) (xv_move rfl ⟨rfl, rfl⟩) ?_
              refine js_S rfl rfl (.inr ⟨_, _, rfl, rfl⟩) (xv_sub rfl rfl (wrap_i64 (by (first|omega|(dsimp only at *;omega)|(simp at *;omega))) (by (first|omega|(dsimp only at *;omega)|(simp at *;omega)))) ⟨rfl, rfl⟩) ?_
              refine js_S rfl rfl (.inr ⟨_, _, rfl, rfl⟩) (xv_ia (sz := 2) (j := (a1 - 1)) sl95 ty93 rfl rfl rfl (by (first|omega|(dsimp only at *;omega)|(simp at *;omega))) (by (first|omega|(dsimp only at *;omega)|(simp at *;omega))) (by (first|omega|(dsimp only at *;omega)|(simp at *;omega))) ⟨rfl, rfl⟩) ?_
              refine js_R0 rfl rfl (.inr ⟨_, _, rfl, rfl⟩) (xv_loadA ty93 rfl rfl (by ((repeat first|exact z_0|assumption|refine z_1 ?_|(refine z_l ?_;(repeat first|exact z_0|assumption|refine z_1 ?_);done)|refine z_r ?_);done)) (ca_get eShare_len (k := (a1 - 1)) (by rw [hA3.size]; (first|omega|(dsimp only at *;omega)|(simp at *;omega)))) rfl ⟨rfl, rfl⟩) ?_
              refine js_S rfl rfl (.inr ⟨_, _, rfl, rfl⟩) (xv_move rfl ⟨rfl, rfl⟩) ?_
              refine js_S rfl rfl (.inr ⟨_, _, rfl, rfl⟩) (xv_move rfl ⟨rfl, rfl⟩) ?_
              refine js_S rfl rfl (.inr ⟨_, _, rfl, rfl⟩) (xv_ia (sz := 2) (j := pv) sl95 ty93 rfl rfl rfl (by (first|omega|(dsimp only at *;omega)|(simp at *;omega))) (by (first|omega|(dsimp only at *;omega)|(simp at *;omega))) (by (first|omega|(dsimp only at *;omega)|(simp at *;omega))) ⟨rfl, rfl⟩) ?_
              refine js_R0 rfl rfl (.inr ⟨_, _, rfl, rfl⟩) (xv_loadA ty93 rfl rfl (by ((repeat first|exact z_0|assumption|refine z_1 ?_|(refine z_l ?_;(repeat first|exact z_0|assumption|refine z_1 ?_);done)|refine z_r ?_);done)) (ca_get eShare_len (k := pv) (by rw [hA3.size]; (first|omega|(dsimp only at *;omega)|(simp at *;omega)))) rfl ⟨rfl, rfl⟩) ?_
              refine js_R0 rfl rfl (.inr ⟨_, _, rfl, rfl⟩) (xv_fn rfl rfl (hf _ _ (hA3.all _ (by (first|omega|(dsimp only at *;omega)|(simp at *;omega)))) (hA3.all _ (by (first|omega|(dsimp only at *;omega)|(simp at *;omega)))) _ _ (by intro z hz; ((repeat first|exact z_0|assumption|refine z_1 ?_|(refine z_l ?_;(repeat first|exact z_0|assumption|refine z_1 ?_);done)|refine z_r ?_);done)) (up_ret ⟨rfl, rfl⟩))) ?_
              refine js_O0 rfl rfl (.inr ⟨_, _, rfl, rfl⟩) (xv_lss2 rfl rfl (fun hq => ?_) (fun hq => ?_))
              · refine js_S rfl rfl (.inr ⟨_, _, rfl, rfl⟩) (xv_not rfl ⟨rfl, rfl⟩) ?_
                refine js_S rfl rfl (.inl rfl) (xv_pick rfl rfl ⟨rfl, rfl⟩) ?_
                refine j_end0 ?_
                refine th_n ?_
                refine xc_false rfl ?_
                refine xc_skip ?_
                refine th_n ?_
                refine xc_seq (xc_region ?_)
                have hnl : ¬ (0 < a1 ∧ ltc cm d3[a1 - 1]! d3[pv]! = false) := by first | exact (fun hq9 => absurd hq9.1 (by (first|omega|(dsimp only at *;omega)|(simp at *;omega)))) | exact (fun hq9 => by rw [ltc_T (by (first|omega|(dsimp only at *;omega)|(simp at *;omega)))] at hq9; exact absurd hq9.2 (by decide))
                refine xr_op rfl rfl (xv_move rfl ?_)
                refine xr_op rfl rfl (xv_move rfl ?_)
                refine xr_op rfl rfl (xv_move rfl ?_)
                refine xr_op rfl rfl (xv_move rfl ?_)
                refine xr_op rfl rfl (xv_move rfl ?_)
                refine xr_op rfl rfl (xv_calls rfl hb70 (part_c (a := a1) (b := b1) (pivot := pv) hA3 hN hf rfl rfl rfl (by (first|omega|(dsimp only at *;omega)|(simp at *;omega))) (by (first|omega|(dsimp only at *;omega)|(simp at *;omega))) (by (first|omega|(dsimp only at *;omega)|(simp at *;omega))) (fun hm1 hm2 hA4 => up_ret ?_)))
                refine xr_op rfl rfl (xv_move rfl ?_)
                refine xr_op rfl rfl (xv_extract rfl rfl ?_)
                refine xr_op rfl rfl (xv_extract rfl rfl ?_)
                refine xr_op rfl rfl (xv_assign rfl ?_)
                refine xr_op rfl rfl (xv_assign rfl ?_)
                refine xr_end rfl ?_
                refine th_n ?_
                refine xc_seq (xc_region ?_)
                refine xr_op rfl rfl (xv_move rfl ?_)
                refine xr_op rfl rfl (xv_assign rfl ?_)
                refine xr_end rfl ?_
                refine th_n ?_
                refine xc_seq (xc_region ?_)
                refine xr_op rfl rfl (xv_move rfl ?_)
                refine xr_op rfl rfl (xv_move rfl ?_)
                refine xr_op rfl rfl (xv_sub rfl rfl (wrap_i64 (by (first|omega|(dsimp only at *;omega)|(simp at *;omega))) (by (first|omega|(dsimp only at *;omega)|(simp at *;omega)))) ?_)
                refine xr_op rfl rfl (xv_move rfl ?_)
                refine xr_op rfl rfl (xv_move rfl ?_)
                refine xr_op rfl rfl (xv_sub rfl rfl (wrap_i64 (by (first|omega|(dsimp only at *;omega)|(simp at *;omega))) (by (first|omega|(dsimp only at *;omega)|(simp at *;omega)))) ?_)
                refine xr_op rfl rfl (xv_assign rfl ?_)
                refine xr_op rfl rfl (xv_assign rfl ?_)
                refine xr_end rfl ?_
                refine th_n ?_
                refine xc_seq (xc_region ?_)
                refine xr_op rfl rfl (xv_move rfl ?_)
                refine xr_op rfl rfl (xv_quo (c := (((b1 - a1) / 8 : Nat) : Int)) rfl rfl (by omega) (by have e : ((b1 : Int) - (a1 : Int)).tdiv 8 = (((b1 - a1) / 8 : Nat) : Int) := quo_nat (n := b1 - a1) (k := 8) (by omega); rw [e]; exact wrap_i64 (by omega) (by omega)) ?_)
                refine xr_op rfl rfl (xv_assign rfl ?_)
                refine xr_end rfl ?_
                refine th_n ?_
                refine xc_seq (xc_region ?_)
                refine xr_op rfl rfl (xv_move rfl ?_)
                refine xr_op rfl rfl (xv_move rfl ?_)
                refine xr_op rfl rfl (xv_lss2 rfl rfl (fun q6 => ?_) (fun q6 => ?_))
                · refine xr_end rfl ?_
                  refine th_n ?_
                  refine xc_true rfl ?_
                  refine xc_seq (xc_region ?_)
                  refine xr_op rfl rfl (xv_move rfl ?_)
                  refine xr_op rfl rfl (xv_move rfl ?_)
                  refine xr_op rfl rfl (xv_cmpK (c := decide ((Go.Sort.partition (ltc cm) d3 a1 b1 pv).1 - a1 ≥ (b1 - a1) / 8)) rfl rfl (by by_cases h9 : (Go.Sort.partition (ltc cm) d3 a1 b1 pv).1 - a1 ≥ (b1 - a1) / 8; (rw [decide_eq_true h9]; exact cmpT (by simp only [cmpP]; omega)); (rw [decide_eq_false h9]; exact cmpF rfl (by simp only [cmpP]; omega))) ?_)
                  refine xr_op rfl rfl (xv_assign rfl ?_)
                  refine xr_end rfl ?_
                  refine th_n ?_
                  refine xc_seq (xc_region ?_)
                  refine xr_op rfl rfl (xv_move rfl ?_)
                  refine xr_op rfl rfl (xv_move rfl ?_)
                  refine xr_op rfl rfl (xv_move rfl ?_)
                  refine xr_op rfl rfl (xv_move rfl ?_)
                  refine xr_op rfl rfl (xv_move rfl ?_)
                  refine xr_op rfl rfl (xv_calls rfl hb58 (ih ((Go.Sort.partition (ltc cm) d3 a1 b1 pv).1 - a1) (by (first|omega|(dsimp only at *;omega)|(simp at *;omega))) hA4 hN hf rfl rfl rfl (by (first|omega|(dsimp only at *;omega)|(simp at *;omega))) (by (first|omega|(dsimp only at *;omega)|(simp at *;omega))) (Nat.le_refl _) (by (first|omega|(dsimp only at *;omega)|(simp at *;omega))) (fun hA5 => up_ret ?_)))
                  refine xr_end rfl ?_
                  refine th_n ?_
                  refine xc_region ?_
                  refine xr_op rfl rfl (xv_move rfl ?_)
                  refine xr_op rfl rfl (xv_add rfl rfl (wrap_i64 (by (first|omega|(dsimp only at *;omega)|(simp at *;omega))) (by (first|omega|(dsimp only at *;omega)|(simp at *;omega)))) ?_)
                  refine xr_op rfl rfl (xv_assign rfl ?_)
                  refine xr_end rfl ?_
                  refine bk_n ?_
                  exact rnd (⟨(Go.Sort.partition (ltc cm) d3 a1 b1 pv).1 + 1, b1, l2, decide ((Go.Sort.partition (ltc cm) d3 a1 b1 pv).1 - a1 ≥ (b1 - a1) / 8), (Go.Sort.partition (ltc cm) d3 a1 b1 pv).2.1, Go.Sort.pdq (ltc cm) (Go.Sort.partition (ltc cm) d3 a1 b1 pv).2.2 a1 (Go.Sort.partition (ltc cm) d3 a1 b1 pv).1 l2 true true⟩ : PdqS Share) ⟨by (first|omega|(dsimp only at *;omega)|(simp at *;omega)), by (first|omega|(dsimp only at *;omega)|(simp at *;omega)), by (first|omega|(dsimp only at *;omega)|(simp at *;omega)), by (first|omega|(dsimp only at *;omega)|(simp at *;omega)), hA5, by
                    have e := pdq_part (mid := (Go.Sort.partition (ltc cm) d3 a1 b1 pv).1) (ap := (Go.Sort.partition (ltc cm) d3 a1 b1 pv).2.1) (d4 := (Go.Sort.partition (ltc cm) d3 a1 b1 pv).2.2) (lt := ltc cm) (d := d1) (a := a1) (b := b1) (limit := l1) (wb := wb) (wp := wp) (by (first|omega|(dsimp only at *;omega)|(simp at *;omega))) (by (first|omega|(dsimp only at *;omega)|(simp at *;omega))) (by (first|omega|(dsimp only at *;omega)|(simp at *;omega))); rw [← hd2] at e; rw [← hd3, ← hph] at e; rw [← hpv, ← hl2] at e
                    have e2 := e hno hnl rfl hm1 hm2
                    rw [if_pos (by (first|omega|(dsimp only at *;omega)|(simp at *;omega)))] at e2
                    exact e2.symm.trans heq⟩ (by (first|omega|(dsimp only at *;omega)|(simp at *;omega))) (le_put (le_put (le_put (le_put (le_put (le_put (le_put (le_emp _) rfl) (by first | rfl | (dsimp only; rw [show (((Go.Sort.partition (ltc cm) d3 a1 b1 pv).1 + 1 : Nat) : Int) = (((Go.Sort.partition (ltc cm) d3 a1 b1 pv).1 : Nat) : Int) + 1 by omega]; rfl))) rfl) rfl) rfl) rfl) rfl) (by (first|((repeat first|exact s_0|exact s_1|exact s_3|refine s_4 ?_|refine s_5 ?_|refine s_6 ?_|refine s_7 ?_);done)|((repeat first|exact s_0|exact s_1|exact s_3|refine s_4 ?_|refine s_5 ?_|refine s_6 ?_|refine s_8 ?_);done)))
                · refine xr_end rfl ?_
                  refine th_n ?_
                  refine xc_false rfl ?_
                  refine xc_seq (xc_region ?_)
                  refine xr_op rfl rfl (xv_move rfl ?_)
                  refine xr_op rfl rfl (xv_move rfl ?_)
                  refine xr_op rfl rfl (xv_cmpK (c := decide (b1 - (Go.Sort.partition (ltc cm) d3 a1 b1 pv).1 ≥ (b1 - a1) / 8)) rfl rfl (by by_cases h9 : b1 - (Go.Sort.partition (ltc cm) d3 a1 b1 pv).1 ≥ (b1 - a1) / 8; (rw [decide_eq_true h9]; exact cmpT (by simp only [cmpP]; omega)); (rw [decide_eq_false h9]; exact cmpF rfl (by simp only [cmpP]; omega))) ?_)
                  refine xr_op rfl rfl (xv_assign rfl ?_)
                  refine xr_end rfl ?_
                  refine th_n ?_
                  refine xc_seq (xc_region ?_)
                  refine xr_op rfl rfl (xv_move rfl ?_)
                  refine xr_op rfl rfl (xv_move rfl ?_)
                  refine xr_op rfl rfl (xv_add rfl rfl (wrap_i64 (by (first|omega|(dsimp only at *;omega)|(simp at *;omega))) (by (first|omega|(dsimp only at *;omega)|(simp at *;omega)))) ?_)
                  refine xr_op rfl rfl (xv_move rfl ?_)
                  refine xr_op rfl rfl (xv_move rfl ?_)
                  refine xr_op rfl rfl (xv_move rfl ?_)
                  refine xr_op rfl rfl (xv_calls rfl hb58 (ih (b1 - ((Go.Sort.partition (ltc cm) d3 a1 b1 pv).1 + 1)) (by (first|omega|(dsimp only at *;omega)|(simp at *;omega))) hA4 hN hf (show (((Go.Sort.partition (ltc cm) d3 a1 b1 pv).1 : Nat) : Int) + 1 = (((Go.Sort.partition (ltc cm) d3 a1 b1 pv).1 + 1 : Nat) : Int) by omega) rfl rfl (by (first|omega|(dsimp only at *;omega)|(simp at *;omega))) (by (first|omega|(dsimp only at *;omega)|(simp at *;omega))) (Nat.le_refl _) (by (first|omega|(dsimp only at *;omega)|(simp at *;omega))) (fun hA5 => up_ret ?_)))
                  refine xr_end rfl ?_
                  refine th_n ?_
                  refine xc_region ?_
                  refine xr_op rfl rfl (xv_move rfl ?_)
                  refine xr_op rfl rfl (xv_assign rfl ?_)
                  refine xr_end rfl ?_
                  refine bk_n ?_
                  exact rnd (⟨a1, (Go.Sort.partition (ltc cm) d3 a1 b1 pv).1, l2, decide (b1 - (Go.Sort.partition (ltc cm) d3 a1 b1 pv).1 ≥ (b1 - a1) / 8), (Go.Sort.partition (ltc cm) d3 a1 b1 pv).2.1, Go.Sort.pdq (ltc cm) (Go.Sort.partition (ltc cm) d3 a1 b1 pv).2.2 ((Go.Sort.partition (ltc cm) d3 a1 b1 pv).1 + 1) b1 l2 true true⟩ : PdqS Share) ⟨by (first|omega|(dsimp only at *;omega)|(simp at *;omega)), by (first|omega|(dsimp only at *;omega)|(simp at *;omega)), by (first|omega|(dsimp only at *;omega)|(simp at *;omega)), by (first|omega|(dsimp only at *;omega)|(simp at *;omega)), hA5, by
                    have e := pdq_part (mid := (Go.Sort.partition (ltc cm) d3 a1 b1 pv).1) (ap := (Go.Sort.partition (ltc cm) d3 a1 b1 pv).2.1) (d4 := (Go.Sort.partition (ltc cm) d3 a1 b1 pv).2.2) (lt := ltc cm) (d := d1) (a := a1) (b := b1) (limit := l1) (wb := wb) (wp := wp) (by (first|omega|(dsimp only at *;omega)|(simp at *;omega))) (by (first|omega|(dsimp only at *;omega)|(simp at *;omega))) (by (first|omega|(dsimp only at *;omega)|(simp at *;omega))); rw [← hd2] at e; rw [← hd3, ← hph] at e; rw [← hpv, ← hl2] at e
                    have e2 := e hno hnl rfl hm1 hm2
                    rw [if_neg (by (first|omega|(dsimp only at *;omega)|(simp at *;omega)))] at e2
                    exact e2.symm.trans heq⟩ (by (first|omega|(dsimp only at *;omega)|(simp at *;omega))) (le_put (le_put (le_put (le_put (le_put (le_put (le_put (le_emp _) rfl) (by first | rfl | (dsimp only; rw [show (((Go.Sort.partition (ltc cm) d3 a1 b1 pv).1 + 1 : Nat) : Int) = (((Go.Sort.partition (ltc cm) d3 a1 b1 pv).1 : Nat) : Int) + 1 by omega]; rfl))) rfl) rfl) rfl) rfl) rfl) (by (first|((repeat first|exact s_0|exact s_1|exact s_3|refine s_4 ?_|refine s_5 ?_|refine s_6 ?_|refine s_7 ?_);done)|((repeat first|exact s_0|exact s_1|exact s_3|refine s_4 ?_|refine s_5 ?_|refine s_6 ?_|refine s_8 ?_);done)))
              · refine js_S rfl rfl (.inr ⟨_, _, rfl, rfl⟩) (xv_not rfl ⟨rfl, rfl⟩) ?_
                refine js_S rfl rfl (.inl rfl) (xv_pick rfl rfl ⟨rfl, rfl⟩) ?_
                refine j_end0 ?_
                refine th_n ?_
                refine xc_true rfl ?_
                refine xc_seq (xc_region ?_)
                refine xr_op rfl rfl (xv_move rfl ?_)
                refine xr_op rfl rfl (xv_move rfl ?_)
                refine xr_op rfl rfl (xv_move rfl ?_)
                refine xr_op rfl rfl (xv_move rfl ?_)
                refine xr_op rfl rfl (xv_move rfl ?_)
                refine xr_op rfl rfl (xv_calls rfl hb69 (parteq_c (a := a1) (b := b1) (pivot := pv) hA3 hN hf rfl rfl rfl (by (first|omega|(dsimp only at *;omega)|(simp at *;omega))) (by (first|omega|(dsimp only at *;omega)|(simp at *;omega))) (by (first|omega|(dsimp only at *;omega)|(simp at *;omega))) (fun hm1 hm2 hA4 => up_ret ?_)))
                refine xr_op rfl rfl (xv_assign rfl ?_)
                refine xr_end rfl ?_
                refine th_n ?_
                refine xc_seq (xc_region ?_)
                refine xr_op rfl rfl (xv_move rfl ?_)
                refine xr_op rfl rfl (xv_assign rfl ?_)
                refine xr_end rfl ?_
                refine th_n ?_
                refine xc_exit ?_
                refine th_x ?_
                refine bk_same ?_
                exact rnd (⟨(Go.Sort.partitionEqual (ltc cm) d3 a1 b1 pv).1, b1, l2, wb, wp, (Go.Sort.partitionEqual (ltc cm) d3 a1 b1 pv).2⟩ : PdqS Share) ⟨by (first|omega|(dsimp only at *;omega)|(simp at *;omega)), by (first|omega|(dsimp only at *;omega)|(simp at *;omega)), by (first|omega|(dsimp only at *;omega)|(simp at *;omega)), by (first|omega|(dsimp only at *;omega)|(simp at *;omega)), hA4, by
                  have e := pdq_eq (pi := true) (mid := (Go.Sort.partitionEqual (ltc cm) d3 a1 b1 pv).1) (d4 := (Go.Sort.partitionEqual (ltc cm) d3 a1 b1 pv).2) (lt := ltc cm) (d := d1) (a := a1) (b := b1) (limit := l1) (wb := wb) (wp := wp) (by (first|omega|(dsimp only at *;omega)|(simp at *;omega))) (by (first|omega|(dsimp only at *;omega)|(simp at *;omega))) (by (first|omega|(dsimp only at *;omega)|(simp at *;omega))); rw [← hd2] at e; rw [← hd3, ← hph] at e; rw [← hpv, ← hl2] at e
                  exact (e hno (by (first|omega|(dsimp only at *;omega)|(simp at *;omega))) (ltc_F (by (first|omega|(dsimp only at *;omega)|(simp at *;omega)))) rfl hm1 hm2).symm.trans heq⟩ (by (first|omega|(dsimp only at *;omega)|(simp at *;omega))) (le_put (le_put (le_put (le_put (le_put (le_put (le_put (le_emp _) rfl) (by first | rfl | (dsimp only; rw [show (((Go.Sort.partition (ltc cm) d3 a1 b1 pv).1 + 1 : Nat) : Int) = (((Go.Sort.partition (ltc cm) d3 a1 b1 pv).1 : Nat) : Int) + 1 by omega]; rfl))) rfl) rfl) rfl) rfl) rfl) (by (first|((repeat first|exact s_0|exact s_1|exact s_3|refine s_4 ?_|refine s_5 ?_|refine s_6 ?_|refine s_7 ?_);done)|((repeat first|exact s_0|exact s_1|exact s_3|refine s_4 ?_|refine s_5 ?_|refine s_6 ?_|refine s_8 ?_);done)))
            · refine js_S rfl rfl (.inl rfl) (xv_move rfl ⟨rfl, rfl⟩) ?_
              refine js_Ss rfl rfl ⟨_, _, _, rfl, rfl, rfl⟩ ?_
              refine js_Ss rfl rfl ⟨_, _, _, rfl, rfl, rfl⟩ ?_
              refine js_Ss rfl rfl ⟨_, _, _, rfl, rfl, rfl⟩ ?_
              refine js_Ss rfl rfl ⟨_, _, _, rfl, rfl, rfl⟩ ?_
              refine js_Ss rfl rfl ⟨_, _, _, rfl, rfl, rfl⟩ ?_
              refine js_Rs rfl rfl ⟨_, _, _, rfl, rfl, rfl⟩ ?_
              refine js_Ss rfl rfl ⟨_, _, _, rfl, rfl, rfl⟩ ?_
              refine js_Ss rfl rfl ⟨_, _, _, rfl, rfl, rfl⟩ ?_
              refine js_Ss rfl rfl ⟨_, _, _, rfl, rfl, rfl⟩ ?_
              refine js_Rs rfl rfl ⟨_, _, _, rfl, rfl, rfl⟩ ?_
              refine js_Rs rfl rfl ⟨_, _, _, rfl, rfl, rfl⟩ ?_
              refine js_Os rfl rfl ⟨_, _, _, rfl, rfl, rfl⟩ ?_
              refine js_Ss rfl rfl ⟨_, _, _, rfl, rfl, rfl⟩ ?_
              refine js_S rfl rfl (.inl rfl) (xv_pick rfl rfl ⟨rfl, rfl⟩) ?_
              refine j_end0 ?_
              refine th_n ?_
              refine xc_false rfl ?_
              refine xc_skip ?_
              refine th_n ?_
              refine xc_seq (xc_region ?_)
              have hnl : ¬ (0 < a1 ∧ ltc cm d3[a1 - 1]! d3[pv]! = false) := by first | exact (fun hq9 => absurd hq9.1 (by (first|omega|(dsimp only at *;omega)|(simp at *;omega)))) | exact (fun hq9 => by rw [ltc_T (by (first|omega|(dsimp only at *;omega)|(simp at *;omega)))] at hq9; exact absurd hq9.2 (by decide))
              refine xr_op rfl rfl (xv_move rfl ?_)
              refine xr_op rfl rfl (xv_move rfl ?_)
              refine xr_op rfl rfl (xv_move rfl ?_)
              refine xr_op rfl rfl (xv_move rfl ?_)
              refine xr_op rfl rfl (xv_move rfl ?_)
              refine xr_op rfl rfl (xv_calls rfl hb70 (part_c (a := a1) (b := b1) (pivot := pv) hA3 hN hf rfl rfl rfl (by (first|omega|(dsimp only at *;omega)|(simp at *;omega))) (by (first|omega|(dsimp only at *;omega)|(simp at *;omega))) (by (first|omega|(dsimp only at *;omega)|(simp at *;omega))) (fun hm1 hm2 hA4 => up_ret ?_)))
              refine xr_op rfl rfl (xv_move rfl ?_)
              refine xr_op rfl rfl (xv_extract rfl rfl ?_)
              refine xr_op rfl rfl (xv_extract rfl rfl ?_)
              refine xr_op rfl rfl (xv_assign rfl ?_)
              refine xr_op rfl rfl (xv_assign rfl ?_)
              refine xr_end rfl ?_
              refine th_n ?_
              refine xc_seq (xc_region ?_)
              refine xr_op rfl rfl (xv_move rfl ?_)
              refine xr_op rfl rfl (xv_assign rfl ?_)
              refine xr_end rfl ?_
              refine th_n ?_
              refine xc_seq (xc_region ?_)
              refine xr_op rfl rfl (xv_move rfl ?_)
              refine xr_op rfl rfl (xv_move rfl ?_)
              refine xr_op rfl rfl (xv_sub rfl rfl (wrap_i64 (by (first|omega|(dsimp only at *;omega)|(simp at *;omega))) (by (first|omega|(dsimp only at *;omega)|(simp at *;omega)))) ?_)
              refine xr_op rfl rfl (xv_move rfl ?_)
              refine xr_op rfl rfl (xv_move rfl ?_)
              refine xr_op rfl rfl (xv_sub rfl rfl (wrap_i64 (by (first|omega|(dsimp only at *;omega)|(simp at *;omega))) (by (first|omega|(dsimp only at *;omega)|(simp at *;omega)))) ?_)
              refine xr_op rfl rfl (xv_assign rfl ?_)
              refine xr_op rfl rfl (xv_assign rfl ?_)
              refine xr_end rfl ?_
              refine th_n ?_
              refine xc_seq (xc_region ?_)
              refine xr_op rfl rfl (xv_move rfl ?_)
              refine xr_op rfl rfl (xv_quo (c := (((b1 - a1) / 8 : Nat) : Int)) rfl rfl (by omega) (by have e : ((b1 : Int) - (a1 : Int)).tdiv 8 = (((b1 - a1) / 8 : Nat) : Int) := quo_nat (n := b1 - a1) (k := 8) (by omega); rw [e]; exact wrap_i64 (by omega) (by omega)) ?_)
              refine xr_op rfl rfl (xv_assign rfl ?_)
              refine xr_end rfl ?_
              refine th_n ?_
              refine xc_seq (xc_region ?_)
              refine xr_op rfl rfl (xv_move rfl ?_)
              refine xr_op rfl rfl (xv_move rfl ?_)
              refine xr_op rfl rfl (xv_lss2 rfl rfl (fun q7 => ?_) (fun q7 => ?_))
              · refine xr_end rfl ?_
                refine th_n ?_
                refine xc_true rfl ?_
                refine xc_seq (xc_region ?_)
                refine xr_op rfl rfl (xv_move rfl ?_)
                refine xr_op rfl rfl (xv_move rfl ?_)
                refine xr_op rfl rfl (xv_cmpK (c := decide ((Go.Sort.partition (ltc cm) d3 a1 b1 pv).1 - a1 ≥ (b1 - a1) / 8)) rfl rfl (by by_cases h9 : (Go.Sort.partition (ltc cm) d3 a1 b1 pv).1 - a1 ≥ (b1 - a1) / 8; (rw [decide_eq_true h9]; exact cmpT (by simp only [cmpP]; omega)); (rw [decide_eq_false h9]; exact cmpF rfl (by simp only [cmpP]; omega))) ?_)
                refine xr_op rfl rfl (xv_assign rfl ?_)
                refine xr_end rfl ?_
                refine th_n ?_
                refine xc_seq (xc_region ?_)
                refine xr_op rfl rfl (xv_move rfl ?_)
                refine xr_op rfl rfl (xv_move rfl ?_)
                refine xr_op rfl rfl (xv_move rfl ?_)
                refine xr_op rfl rfl (xv_move rfl ?_)
                refine xr_op rfl rfl (xv_move rfl ?_)
                refine xr_op rfl rfl (xv_calls rfl hb58 (ih ((Go.Sort.partition (ltc cm) d3 a1 b1 pv).1 - a1) (by (first|omega|(dsimp only at *;omega)|(simp at *;omega))) hA4 hN hf rfl rfl rfl (by (first|omega|(dsimp only at *;omega)|(simp at *;omega))) (by (first|omega|(dsimp only at *;omega)|(simp at *;omega))) (Nat.le_refl _) (by (first|omega|(dsimp only at *;omega)|(simp at *;omega))) (fun hA5 => up_ret ?_)))
                refine xr_end rfl ?_
                refine th_n ?_
                refine xc_region ?_
                refine xr_op rfl rfl (xv_move rfl ?_)
                refine xr_op rfl rfl (xv_add rfl rfl (wrap_i64 (by (first|omega|(dsimp only at *;omega)|(simp at *;omega))) (by (first|omega|(dsimp only at *;omega)|(simp at *;omega)))) ?_)
                refine xr_op rfl rfl (xv_assign rfl ?_)
                refine xr_end rfl ?_
                refine bk_n ?_
                exact rnd (⟨(Go.Sort.partition (ltc cm) d3 a1 b1 pv).1 + 1, b1, l2, decide ((Go.Sort.partition (ltc cm) d3 a1 b1 pv).1 - a1 ≥ (b1 - a1) / 8), (Go.Sort.partition (ltc cm) d3 a1 b1 pv).2.1, Go.Sort.pdq (ltc cm) (Go.Sort.partition (ltc cm) d3 a1 b1 pv).2.2 a1 (Go.Sort.partition (ltc cm) d3 a1 b1 pv).1 l2 true true⟩ : PdqS Share) ⟨by (first|omega|(dsimp only at *;omega)|(simp at *;omega)), by (first|omega|(dsimp only at *;omega)|(simp at *;omega)), by (first|omega|(dsimp only at *;omega)|(simp at *;omega)), by (first|omega|(dsimp only at *;omega)|(simp at *;omega)), hA5, by
                  have e := pdq_part (mid := (Go.Sort.partition (ltc cm) d3 a1 b1 pv).1) (ap := (Go.Sort.partition (ltc cm) d3 a1 b1 pv).2.1) (d4 := (Go.Sort.partition (ltc cm) d3 a1 b1 pv).2.2) (lt := ltc cm) (d := d1) (a := a1) (b := b1) (limit := l1) (wb := wb) (wp := wp) (by (first|omega|(dsimp only at *;omega)|(simp at *;omega))) (by (first|omega|(dsimp only at *;omega)|(simp at *;omega))) (by (first|omega|(dsimp only at *;omega)|(simp at *;omega))); rw [← hd2] at e; rw [← hd3, ← hph] at e; rw [← hpv, ← hl2] at e
                  have e2 := e hno hnl rfl hm1 hm2
                  rw [if_pos (by (first|omega|(dsimp only at *;omega)|(simp at *;omega)))] at e2
                  exact e2.symm.trans heq⟩ (by (first|omega|(dsimp only at *;omega)|(simp at *;omega))) (le_put (le_put (le_put (le_put (le_put (le_put (le_put (le_emp _) rfl) (by first | rfl | (dsimp only; rw [show (((Go.Sort.partition (ltc cm) d3 a1 b1 pv).1 + 1 : Nat) : Int) = (((Go.Sort.partition (ltc cm) d3 a1 b1 pv).1 : Nat) : Int) + 1 by omega]; rfl))) rfl) rfl) rfl) rfl) rfl) (by (first|((repeat first|exact s_0|exact s_1|exact s_3|refine s_4 ?_|refine s_5 ?_|refine s_6 ?_|refine s_7 ?_);done)|((repeat first|exact s_0|exact s_1|exact s_3|refine s_4 ?_|refine s_5 ?_|refine s_6 ?_|refine s_8 ?_);done)))
              · refine xr_end rfl ?_
                refine th_n ?_
                refine xc_false rfl ?_
                refine xc_seq (xc_region ?_)
                refine xr_op rfl rfl (xv_move rfl ?_)
                refine xr_op rfl rfl (xv_move rfl ?_)
                refine xr_op rfl rfl (xv_cmpK (c := decide (b1 - (Go.Sort.partition (ltc cm) d3 a1 b1 pv).1 ≥ (b1 - a1) / 8)) rfl rfl (by by_cases h9 : b1 - (Go.Sort.partition (ltc cm) d3 a1 b1 pv).1 ≥ (b1 - a1) / 8; (rw [decide_eq_true h9]; exact cmpT (by simp only [cmpP]; omega)); (rw [decide_eq_false h9]; exact cmpF rfl (by simp only [cmpP]; omega))) ?_)
                refine xr_op rfl rfl (xv_assign rfl ?_)
                refine xr_end rfl ?_
                refine th_n ?_
                refine xc_seq (xc_region ?_)
                refine xr_op rfl rfl (xv_move rfl ?_)
                refine xr_op rfl rfl (xv_move rfl ?_)
                refine xr_op rfl rfl (xv_add rfl rfl (wrap_i64 (by (first|omega|(dsimp only at *;omega)|(simp at *;omega))) (by (first|omega|(dsimp only at *;omega)|(simp at *;omega)))) ?_)
                refine xr_op rfl rfl (xv_move rfl ?_)
                refine xr_op rfl rfl (xv_move rfl ?_)
                refine xr_op rfl rfl (xv_move rfl ?_)
                refine xr_op rfl rfl (xv_calls rfl hb58 (ih (b1 - ((Go.Sort.partition (ltc cm) d3 a1 b1 pv).1 + 1)) (by (first|omega|(dsimp only at *;omega)|(simp at *;omega))) hA4 hN hf (show (((Go.Sort.partition (ltc cm) d3 a1 b1 pv).1 : Nat) : Int) + 1 = (((Go.Sort.partition (ltc cm) d3 a1 b1 pv).1 + 1 : Nat) : Int) by omega) rfl rfl (by (first|omega|(dsimp only at *;omega)|(simp at *;omega))) (by (first|omega|(dsimp only at *;omega)|(simp at *;omega))) (Nat.le_refl _) (by (first|omega|(dsimp only at *;omega)|(simp at *;omega))) (fun hA5 => up_ret ?_)))
                refine xr_end rfl ?_
                refine th_n ?_
                refine xc_region ?_
                refine xr_op rfl rfl (xv_move rfl ?_)
                refine xr_op rfl rfl (xv_assign rfl ?_)
                refine xr_end rfl ?_
                refine bk_n ?_
                exact rnd (⟨a1, (Go.Sort.partition (ltc cm) d3 a1 b1 pv).1, l2, decide (b1 - (Go.Sort.partition (ltc cm) d3 a1 b1 pv).1 ≥ (b1 - a1) / 8), (Go.Sort.partition (ltc cm) d3 a1 b1 pv).2.1, Go.Sort.pdq (ltc cm) (Go.Sort.partition (ltc cm) d3 a1 b1 pv).2.2 ((Go.Sort.partition (ltc cm) d3 a1 b1 pv).1 + 1) b1 l2 true true⟩ : PdqS Share) ⟨by (first|omega|(dsimp only at *;omega)|(simp at *;omega)), by (first|omega|(dsimp only at *;omega)|(simp at *;omega)), by (first|omega|(dsimp only at *;omega)|(simp at *;omega)), by (first|omega|(dsimp only at *;omega)|(simp at *;omega)), hA5, by
                  have e := pdq_part (mid := (Go.Sort.partition (ltc cm) d3 a1 b1 pv).1) (ap := (Go.Sort.partition (ltc cm) d3 a1 b1 pv).2.1) (d4 := (Go.Sort.partition (ltc cm) d3 a1 b1 pv).2.2) (lt := ltc cm) (d := d1) (a := a1) (b := b1) (limit := l1) (wb := wb) (wp := wp) (by (first|omega|(dsimp only at *;omega)|(simp at *;omega))) (by (first|omega|(dsimp only at *;omega)|(simp at *;omega))) (by (first|omega|(dsimp only at *;omega)|(simp at *;omega))); rw [← hd2] at e; rw [← hd3, ← hph] at e; rw [← hpv, ← hl2] at e
                  have e2 := e hno hnl rfl hm1 hm2
                  rw [if_neg (by (first|omega|(dsimp only at *;omega)|(simp at *;omega)))] at e2
                  exact e2.symm.trans heq⟩ (by (first|omega|(dsimp only at *;omega)|(simp at *;omega))) (le_put (le_put (le_put (le_put (le_put (le_put (le_put (le_emp _) rfl) (by first | rfl | (dsimp only; rw [show (((Go.Sort.partition (ltc cm) d3 a1 b1 pv).1 + 1 : Nat) : Int) = (((Go.Sort.partition (ltc cm) d3 a1 b1 pv).1 : Nat) : Int) + 1 by omega]; rfl))) rfl) rfl) rfl) rfl) rfl) (by (first|((repeat first|exact s_0|exact s_1|exact s_3|refine s_4 ?_|refine s_5 ?_|refine s_6 ?_|refine s_7 ?_);done)|((repeat first|exact s_0|exact s_1|exact s_3|refine s_4 ?_|refine s_5 ?_|refine s_6 ?_|refine s_8 ?_);done)))

theorem pdq_all (m : Nat) : PdqOk m := by
  induction m using Nat.strongRecOn with
  | ind m ih => exact pdq_step ih

theorem sort_c {bb cap N : Nat} {sp : List Value} {d : Array Share} {f : Value} {cm : Share → Share → Int} {p : Share → Prop} {L : Hp} {R : Ending → Hp → Prop} (hA : Arr N p d) (hN : N ≤ 49) (hf : ∀ x y, p x → p y → ∀ H R', L ⊆ H → R' (.returned (I (cm x y))) H → AFn Try.prog f [.agg ⟨eShare x⟩, .agg ⟨eShare y⟩] H R') (hs : Go.Sort.SWO (ltc cm)) (H : ∀ d2 : Array Share, Arr N p d2 → Go.Sort.PermIn 0 N d d2 → Go.Sort.SortedIn (ltc cm) 0 N d2 → R (.returned (.tuple #[])) ((bb, .cells ⟨(d2).toList.flatMap eShare ++ sp⟩ 93) :: L)) :
    ACalls Try.prog 42 ⟨[.slice (some ⟨bb, 0, none⟩) N cap, f]⟩ ((bb, .cells ⟨(d).toList.flatMap eShare ++ sp⟩ 93) :: L) R := by
  refine calls_of_xc (N := 14) Try.func42 rfl (by rfl) ?_
  have hps := Go.Sort.pdq_sorts (ltc cm) hs d 0 N (Go.Sort.bitsLen N) true true (Nat.zero_le _) (by rw [hA.size]; exact Nat.le_refl _) (.inl rfl)
  have hbl := len8 hN
  refine xc_seq (xc_region ?_)
  refine xr_op rfl rfl (xv_move rfl ?_)
  refine xr_op rfl rfl (xv_len sl95 rfl ?_)
  refine xr_op rfl rfl (xv_assign rfl ?_)
  refine xr_end rfl ?_
  refine th_n ?_
  refine xc_region ?_
  refine xr_op rfl rfl (xv_move rfl ?_)
  refine xr_op rfl rfl (xv_move rfl ?_)
  refine xr_op rfl rfl (xv_move rfl ?_)
  refine xr_op rfl rfl (xv_convI (m := (N : Int)) Try.underlying3 Try.underlying112 rfl (wrap_u64 (by omega) (by omega)) ?_)
  refine xr_op rfl rfl (xv_calls rfl hb59 (len_c (n := N) rfl hN (up_ret ?_)))
  refine xr_op rfl rfl (xv_move rfl ?_)
  refine xr_op rfl rfl (xv_calls rfl hb58 (pdq_all N hA hN hf (show (0 : Int) = ((0 : Nat) : Int) from rfl) rfl rfl (Nat.zero_le _) (Nat.le_refl _) (by omega) (by omega) (fun hA2 => up_ret ?_)))
  refine xr_end rfl ?_
  refine body_end (h' := ((bb, .cells ⟨(Go.Sort.pdq (ltc cm) d 0 N (Go.Sort.bitsLen N) true true).toList.flatMap eShare ++ sp⟩ 93) :: L)) rfl ro_nil (by (first|((repeat first|exact s_0|exact s_1|exact s_3|refine s_4 ?_|refine s_5 ?_|refine s_6 ?_|refine s_7 ?_);done)|((repeat first|exact s_0|exact s_1|exact s_3|refine s_4 ?_|refine s_5 ?_|refine s_6 ?_|refine s_8 ?_);done))) ?_
  exact H _ hA2 hps.1 hps.2

theorem ins0_c {f : Value} {h : Hp} {R : Ending → Hp → Prop} (H : R (.returned (.tuple #[])) h) : ACalls Try.prog 63 ⟨[.slice none 0 0, I 0, I 0, f]⟩ h R := by
  refine calls_of_xc (N := 53) Try.func63 rfl (by rfl) ?_
  refine xc_seq (xc_region ?_)
  refine xr_op rfl rfl (xv_move rfl ?_)
  refine xr_op rfl rfl (xv_add rfl rfl (wrap_i64 (by (first|omega|(dsimp only at *;omega)|(simp at *;omega))) (by (first|omega|(dsimp only at *;omega)|(simp at *;omega)))) ?_)
  refine xr_op rfl rfl (xv_assign rfl ?_)
  refine xr_end rfl ?_
  refine th_n ?_
  refine xc_block ?_
  refine xc_loop (σ := Unit) (fun _ => True) (fun _ => ((emp.put (some 2) (I 0)).put (some 8) (I ((0 : Int) + 1)))) (fun _ => h) (fun _ => 0) () trivial (le_put (le_put (le_emp _) rfl) rfl) (by (first|((repeat first|exact s_0|exact s_1|exact s_3|refine s_4 ?_|refine s_5 ?_|refine s_6 ?_|refine s_7 ?_);done)|((repeat first|exact s_0|exact s_1|exact s_3|refine s_4 ?_|refine s_5 ?_|refine s_6 ?_|refine s_8 ?_);done))) ?_
  rintro ⟨⟩ _
  refine xc_seq ?_
  refine xc_seq (xc_region ?_)
  refine xr_op rfl rfl (xv_move rfl ?_)
  refine xr_op rfl rfl (xv_move rfl ?_)
  refine xr_op rfl rfl (xv_cmpK (c := false) rfl rfl (by simp [cmpB]) ?_)
  refine xr_end rfl ?_
  refine th_n ?_
  refine xc_false rfl ?_
  refine xc_exit ?_
  refine th_x ?_
  refine th_x ?_
  refine bk_same ?_
  refine body_end (h' := h) rfl ro_nil (by (first|((repeat first|exact s_0|exact s_1|exact s_3|refine s_4 ?_|refine s_5 ?_|refine s_6 ?_|refine s_7 ?_);done)|((repeat first|exact s_0|exact s_1|exact s_3|refine s_4 ?_|refine s_5 ?_|refine s_6 ?_|refine s_8 ?_);done))) ?_
  exact H

theorem pdq0_c {f : Value} {l : Int} {h : Hp} {R : Ending → Hp → Prop} (H : R (.returned (.tuple #[])) h) : ACalls Try.prog 58 ⟨[.slice none 0 0, I 0, I 0, I l, f]⟩ h R := by
  refine calls_of_xc (N := 148) Try.func58 rfl (by rfl) ?_
  refine xc_seq (xc_region ?_)
  refine xr_op rfl rfl (xv_assign rfl ?_)
  refine xr_end rfl ?_
  refine th_n ?_
  refine xc_seq (xc_region ?_)
  refine xr_op rfl rfl (xv_assign rfl ?_)
  refine xr_end rfl ?_
  refine th_n ?_
  refine xc_block ?_
  refine xc_loop (σ := Unit) (fun _ => True) (fun _ => ((((emp.put (some 0) (.slice none 0 0)).put (some 1) (I 0)).put (some 2) (I 0)).put (some 4) (f))) (fun _ => h) (fun _ => 0) () trivial (le_put (le_put (le_put (le_put (le_emp _) rfl) rfl) rfl) rfl) (by (first|((repeat first|exact s_0|exact s_1|exact s_3|refine s_4 ?_|refine s_5 ?_|refine s_6 ?_|refine s_7 ?_);done)|((repeat first|exact s_0|exact s_1|exact s_3|refine s_4 ?_|refine s_5 ?_|refine s_6 ?_|refine s_8 ?_);done))) ?_
  rintro ⟨⟩ _
  refine xc_block ?_
  refine xc_seq (xc_region ?_)
  refine xr_op rfl rfl (xv_move rfl ?_)
  refine xr_op rfl rfl (xv_move rfl ?_)
  refine xr_op rfl rfl (xv_sub rfl rfl (wrap_i64 (by (first|omega|(dsimp only at *;omega)|(simp at *;omega))) (by (first|omega|(dsimp only at *;omega)|(simp at *;omega)))) ?_)
  refine xr_op rfl rfl (xv_assign rfl ?_)
  refine xr_end rfl ?_
  refine th_n ?_
  refine xc_seq ?_
  refine xc_seq (xc_region ?_)
  refine xr_op rfl rfl (xv_move rfl ?_)
  refine xr_op rfl rfl (xv_cmpK (c := true) rfl rfl (by simp [cmpB]) ?_)
  refine xr_end rfl ?_
  refine th_n ?_
  refine xc_true rfl ?_
  refine xc_seq (xc_region ?_)
  refine xr_op rfl rfl (xv_move rfl ?_)
  refine xr_op rfl rfl (xv_move rfl ?_)
  refine xr_op rfl rfl (xv_move rfl ?_)
  refine xr_op rfl rfl (xv_move rfl ?_)
  refine xr_op rfl rfl (xv_calls rfl hb63 (ins0_c (up_ret ?_)))
  refine xr_end rfl ?_
  refine th_n ?_
  refine xc_ret ?_
  refine th_r ?_
  refine bk_r ?_
  refine th_r ?_
  refine bk_r ?_
  refine body_ret (h' := h) rfl ro_nil (by (first|((repeat first|exact s_0|exact s_1|exact s_3|refine s_4 ?_|refine s_5 ?_|refine s_6 ?_|refine s_7 ?_);done)|((repeat first|exact s_0|exact s_1|exact s_3|refine s_4 ?_|refine s_5 ?_|refine s_6 ?_|refine s_8 ?_);done))) ?_
  exact H

theorem sort0_c {f : Value} {h : Hp} {R : Ending → Hp → Prop} (H : R (.returned (.tuple #[])) h) : ACalls Try.prog 42 ⟨[.slice none 0 0, f]⟩ h R := by
  refine calls_of_xc (N := 14) Try.func42 rfl (by rfl) ?_
  refine xc_seq (xc_region ?_)
  refine xr_op rfl rfl (xv_move rfl ?_)
  refine xr_op rfl rfl (xv_len sl95 rfl ?_)
  refine xr_op rfl rfl (xv_assign rfl ?_)
  refine xr_end rfl ?_
  refine th_n ?_
  refine xc_region ?_
  refine xr_op rfl rfl (xv_move rfl ?_)
  refine xr_op rfl rfl (xv_move rfl ?_)
  refine xr_op rfl rfl (xv_move rfl ?_)
  refine xr_op rfl rfl (xv_convI (m := ((0 : Nat) : Int)) Try.underlying3 Try.underlying112 rfl (by decide) ?_)
  refine xr_op rfl rfl (xv_calls rfl hb59 (len_c (n := 0) rfl (by decide) (up_ret ?_)))
  refine xr_op rfl rfl (xv_move rfl ?_)
  refine xr_op rfl rfl (xv_calls rfl hb58 (pdq0_c (up_ret ?_)))
  refine xr_end rfl ?_
  refine body_end (h' := h) rfl ro_nil (by (first|((repeat first|exact s_0|exact s_1|exact s_3|refine s_4 ?_|refine s_5 ?_|refine s_6 ?_|refine s_7 ?_);done)|((repeat first|exact s_0|exact s_1|exact s_3|refine s_4 ?_|refine s_5 ?_|refine s_6 ?_|refine s_8 ?_);done))) ?_
  exact H

theorem sortV_c {V : Vec} {xs : List Share} {f : Value} {cm : Share → Share → Int} {L : Hp} {R : Ending → Hp → Prop} (hV : V.ok 2 xs.length (xs.flatMap eShare)) (hn : xs.length ≤ 49)
    (hf : ∀ x y, x ∈ xs → y ∈ xs → ∀ H R', L ⊆ H → R' (.returned (I (cm x y))) H → AFn Try.prog f [.agg ⟨eShare x⟩, .agg ⟨eShare y⟩] H R') (hs : Go.Sort.SWO (ltc cm))
    (H : ∀ ys : List Share, ys.Perm xs → ys.Pairwise (fun a b => ¬ cm b a < 0) → V.ok 2 ys.length (ys.flatMap eShare) → R (.returned (.tuple #[])) (V.hp 93 (ys.flatMap eShare) ++ L)) :
    ACalls Try.prog 42 ⟨[V.val xs.length, f]⟩ (V.hp 93 (xs.flatMap eShare) ++ L) R := by
  cases V with
  | nil =>
    obtain ⟨h1, h2⟩ := hV
    have hx : xs = [] := List.length_eq_zero_iff.1 h2
    subst hx
    exact sort0_c (H [] .nil .nil ⟨rfl, rfl⟩)
  | «at» b cap sp =>
    have hd : Arr xs.length (fun x => x ∈ xs) xs.toArray := ⟨by simp, fun i hi => by simp [hi]⟩
    refine sort_c (N := xs.length) (p := fun x => x ∈ xs) (d := xs.toArray) hd hn (fun x y hx hy H R' hs h2 => hf x y hx hy H R' hs h2) hs ?_
    intro d2 hA hp hso
    have e1 : d2.extract 0 xs.length = d2 := by rw [← hA.size]; simp
    have hpp : d2.toList.Perm xs := by
      have := hp.2.2
      rw [e1] at this
      simpa using this
    have hlen : d2.toList.length = xs.length := hpp.length_eq
    have hV2 : (Vec.at b cap sp).ok 2 d2.toList.length (d2.toList.flatMap eShare) := by
      obtain ⟨h1, h2, h3⟩ := hV
      rw [List.length_append, flat_lenM eShare_len] at h3
      refine ⟨flat_lenM eShare_len _, by rw [hlen]; exact h2, ?_⟩
      rw [List.length_append, flat_lenM eShare_len, hlen]; exact h3
    refine H d2.toList hpp ?_ hV2
    rw [List.pairwise_iff_getElem]
    intro i j hi hj hij
    have := hso i j (Nat.zero_le _) hij (by omega)
    have gi : d2[i]! = d2.toList[i] := by
      have := ca_list (d := d2) (k := i) (by simpa using hi)
      rw [List.getElem?_eq_getElem hi] at this
      exact (Option.some.inj this).symm
    have gj : d2[j]! = d2.toList[j] := by
      have := ca_list (d := d2) (k := j) (by simpa using hj)
      rw [List.getElem?_eq_getElem hj] at this
      exact (Option.some.inj this).symm
    rw [gi, gj] at this
    exact of_decide_eq_false this

end Go.Proofs.Ytpefpafijadfmaa

/-
  Walks.
-/
namespace Go.Proofs.Ytpefpafijadfmaa
open Go Go.H
set_option maxRecDepth 100000
set_option maxHeartbeats 8000000
set_option linter.all false
theorem first_c {l : List Share} {a : Option Addr} {c : Nat} {need : Int} {h : Hp} {R : Ending → Hp → Prop} (hl : SlV h 2 eShare a l) (hlen : l.length ≤ 1000) (hok : ∀ x ∈ l, ShareOk x) (hn0 : 0 ≤ need) (hn1 : need ≤ 1048576000) (H : R (.returned (I (fstP l need).1)) h) : ACalls Try.prog 44 ⟨[.slice a l.length c, I need]⟩ h R := by
  refine calls_of_xc (N := 29) Try.func44 rfl (by rfl) ?_
  refine xc_seq (xc_region ?_)
  refine xr_op rfl rfl (xv_assign rfl ?_)
  refine xr_end rfl ?_
  refine th_n ?_
  refine xc_seq ?_
  refine xc_seq (xc_region ?_)
  refine xr_op rfl rfl (xv_move rfl ?_)
  refine xr_op rfl rfl (xv_len sl95 rfl ?_)
  refine xr_op rfl rfl (xv_move rfl ?_)
  refine xr_end rfl ?_
  refine th_n ?_
  refine xc_block ?_
  refine xc_loop (σ := Nat) (fun k => k ≤ l.length) (fun k => (((((emp.put (some 1) (I (fstP (l.take k) need).2)).put (some 4) (I (fstP (l.take k) need).1)).put (some 8) (.slice a l.length c)).put (some 9) (I l.length)).put (some 10) (I k))) (fun k => h) (fun k => l.length - k) 0 (Nat.zero_le _) (le_put (le_put (le_put (le_put (le_put (le_emp _) rfl) rfl) rfl) rfl) rfl) (by (first|((repeat first|exact s_0|exact s_1|exact s_3|refine s_4 ?_|refine s_5 ?_|refine s_6 ?_|refine s_7 ?_);done)|((repeat first|exact s_0|exact s_1|exact s_3|refine s_4 ?_|refine s_5 ?_|refine s_6 ?_|refine s_8 ?_);done))) ?_
  rintro k hk
  have hfb := fstP_bd hn0 hok k
  refine xc_seq (xc_region ?_)
  refine xr_op rfl rfl (xv_lss2 rfl rfl (fun q1 => ?_) (fun q1 => ?_))
  · refine xr_end rfl ?_
    refine th_n ?_
    refine xc_seq ?_
    refine xc_true rfl ?_
    refine xc_skip ?_
    refine th_n ?_
    refine xc_seq ?_
    refine xc_block ?_
    refine xc_seq (xc_region ?_)
    have hlto : k < l.length := by (first|omega|(dsimp only at *;omega)|(simp at *;omega))
    obtain ⟨bo, oo, lo, to, fzo, hao, hmo, hxo⟩ := (hl).at hlto
    obtain ⟨xo, hko⟩ : ∃ qq_, l[k]? = some qq_ := ⟨_, List.getElem?_eq_getElem hlto⟩
    obtain ⟨so1, so2, so3⟩ := hok xo (List.mem_of_getElem? hko)
    have hmb := mul_bdE (n := min (fstP (l.take k) need).2 xo.tons) (e := xo.each) (N := 1048576000) (by omega) (by omega) ⟨so2, so3⟩
    refine xr_op rfl rfl (xv_ia (sz := 2) (j := k) sl95 ty93 rfl (by rw [hao]; rfl) rfl (by (first | assumption | with_reducible exact Int.toNat_natCast _ | with_reducible rfl | rfl)) (by (first|omega|(dsimp only at *;omega)|(simp at *;omega))) (by (first|omega|(dsimp only at *;omega)|(simp at *;omega))) ?_)
    refine xr_op rfl rfl (xv_loadA ty93 rfl rfl (by ((repeat first|exact z_0|assumption|refine z_1 ?_|(refine z_l ?_;(repeat first|exact z_0|assumption|refine z_1 ?_);done)|refine z_r ?_);done)) (hxo (k) xo hko) rfl ?_)
    refine xr_op rfl rfl (xv_alloc ty93 (fun b6 hb6 => ?_))
    refine xr_op rfl rfl (xv_s ty93 rfl rfl (by (first|(apply u_3;(repeat first|exact u_0|assumption|apply u_1|apply u_2);done)|((repeat first|exact u_0|assumption|apply u_1|apply u_2);done)|(apply u_3;apply u_3;(repeat first|exact u_0|assumption|apply u_1|apply u_2);done)|((repeat first|exact u_0|assumption|apply u_3|apply u_1);done))) (by ((try apply evl_some rfl);(repeat (first|exact (rfl : _ = [])|apply evl_cons rfl (by (first|exact v_1|exact v_2|exact v_3|exact v_4|exact v_5|exact v_6|exact v_7|exact v_8|exact v_9|exact rfl))|exact rfl)))) (by rfl) (by rfl) (by rfl) (by ((try apply evl_some rfl);(repeat (first|exact (rfl : _ = [])|apply evl_cons rfl (by (first|exact v_1|exact v_2|exact v_3|exact v_4|exact v_5|exact v_6|exact v_7|exact v_8|exact v_9|exact rfl))|exact rfl)))) ?_)
    refine xr_end rfl ?_
    refine th_n ?_
    refine xc_seq (xc_region ?_)
    refine xr_op rfl rfl (xv_move rfl ?_)
    refine xr_op rfl rfl (xv_faddr fl93_0 rfl ?_)
    refine xr_op rfl rfl (xv_load1 ty3 rfl rfl (by ((repeat first|exact z_0|assumption|refine z_1 ?_|(refine z_l ?_;(repeat first|exact z_0|assumption|refine z_1 ?_);done)|refine z_r ?_);done)) (by rfl) ?_)
    refine xr_op rfl rfl (xv_min rfl rfl rfl ?_)
    refine xr_op rfl rfl (xv_assign rfl ?_)
    refine xr_end rfl ?_
    refine th_n ?_
    refine xc_seq (xc_region ?_)
    refine xr_op rfl rfl (xv_move rfl ?_)
    refine xr_op rfl rfl (xv_move rfl ?_)
    refine xr_op rfl rfl (xv_faddr fl93_1 rfl ?_)
    refine xr_op rfl rfl (xv_load1 ty3 rfl rfl (by ((repeat first|exact z_0|assumption|refine z_1 ?_|(refine z_l ?_;(repeat first|exact z_0|assumption|refine z_1 ?_);done)|refine z_r ?_);done)) (by rfl) ?_)
    refine xr_op rfl rfl (xv_mul rfl rfl (wrap_i64 (by (first|omega|(dsimp only at *;omega)|(simp at *;omega))) (by (first|omega|(dsimp only at *;omega)|(simp at *;omega)))) ?_)
    refine xr_op rfl rfl (xv_add rfl rfl (wrap_i64 (by (first|omega|(dsimp only at *;omega)|(simp at *;omega))) (by (first|omega|(dsimp only at *;omega)|(simp at *;omega)))) ?_)
    refine xr_op rfl rfl (xv_assign rfl ?_)
    refine xr_end rfl ?_
    refine th_n ?_
    refine xc_region ?_
    refine xr_op rfl rfl (xv_move rfl ?_)
    refine xr_op rfl rfl (xv_move rfl ?_)
    refine xr_op rfl rfl (xv_sub rfl rfl (wrap_i64 (by (first|omega|(dsimp only at *;omega)|(simp at *;omega))) (by (first|omega|(dsimp only at *;omega)|(simp at *;omega)))) ?_)
    refine xr_op rfl rfl (xv_assign rfl ?_)
    refine xr_end rfl ?_
    refine bk_n ?_
    refine th_n ?_
    refine xc_region ?_
    refine xr_op rfl rfl (xv_add rfl rfl (wrap_i64 (by (first|omega|(dsimp only at *;omega)|(simp at *;omega))) (by (first|omega|(dsimp only at *;omega)|(simp at *;omega)))) ?_)
    refine xr_op rfl rfl (xv_move rfl ?_)
    refine xr_end rfl ?_
    have hft := fstP_take (need := need) hko
    exact rnd (k + 1) (by (first|omega|(dsimp only at *;omega)|(simp at *;omega))) (by (first|omega|(dsimp only at *;omega)|(simp at *;omega))) (le_put (le_put (le_put (le_put (le_put (le_emp _) (by rw [hft]; rfl)) (by rw [hft]; rfl)) rfl) rfl) rfl) (by (first|((repeat first|exact s_0|exact s_1|exact s_3|refine s_4 ?_|refine s_5 ?_|refine s_6 ?_|refine s_7 ?_);done)|((repeat first|exact s_0|exact s_1|exact s_3|refine s_4 ?_|refine s_5 ?_|refine s_6 ?_|refine s_8 ?_);done)))
  · refine xr_end rfl ?_
    refine th_n ?_
    refine xc_seq ?_
    refine xc_false rfl ?_
    refine xc_exit ?_
    refine th_x ?_
    refine th_x ?_
    refine bk_same ?_
    refine th_n ?_
    refine xc_seq (xc_region ?_)
    obtain rfl : k = l.length := by (first|omega|(dsimp only at *;omega)|(simp at *;omega))
    rw [List.take_length]
    refine xr_op rfl rfl (xv_move rfl ?_)
    refine xr_op rfl rfl (xv_assign rfl ?_)
    refine xr_end rfl ?_
    refine th_n ?_
    refine xc_ret ?_
    refine body_ret (h' := h) rfl (ro_tmp rfl ro_nil) (by (first|((repeat first|exact s_0|exact s_1|exact s_3|refine s_4 ?_|refine s_5 ?_|refine s_6 ?_|refine s_7 ?_);done)|((repeat first|exact s_0|exact s_1|exact s_3|refine s_4 ?_|refine s_5 ?_|refine s_6 ?_|refine s_8 ?_);done))) ?_
    exact H

end Go.Proofs.Ytpefpafijadfmaa

/-
  Walks.
-/
namespace Go.Proofs.Ytpefpafijadfmaa
open Go Go.H
set_option maxRecDepth 100000
set_option maxHeartbeats 8000000
set_option linter.all false
theorem reverse_c {xs : List Share} {bb cap : Nat} {sp : List Value} {h : Hp} {R : Ending → Hp → Prop} (hlen : xs.length ≤ 1000) (H : R (.returned (.tuple #[])) ((bb, .cells ⟨xs.reverse.flatMap eShare ++ sp⟩ 93) :: h)) : ACalls Try.prog 43 ⟨[.slice (some ⟨bb, 0, none⟩) xs.length cap]⟩ ((bb, .cells ⟨xs.flatMap eShare ++ sp⟩ 93) :: h) R := by
  refine calls_of_xc (N := 28) Try.func43 rfl (by rfl) ?_
  refine xc_seq (xc_region ?_)
  refine xr_op rfl rfl (xv_move rfl ?_)
  refine xr_op rfl rfl (xv_len sl95 rfl ?_)
  refine xr_op rfl rfl (xv_sub rfl rfl (wrap_i64 (by (first|omega|(dsimp only at *;omega)|(simp at *;omega))) (by (first|omega|(dsimp only at *;omega)|(simp at *;omega)))) ?_)
  refine xr_op rfl rfl (xv_assign rfl ?_)
  refine xr_op rfl rfl (xv_assign rfl ?_)
  refine xr_end rfl ?_
  refine th_n ?_
  refine xc_block ?_
  refine xc_loop (σ := Nat) (fun k => k ≤ xs.length) (fun k => (((emp.put (some 0) (.slice (some ⟨bb, 0, none⟩) xs.length cap)).put (some 2) (I k)).put (some 3) (I ((xs.length : Int) - 1 - (k : Int))))) (fun k => ((bb, .cells ⟨(revK xs k).flatMap eShare ++ sp⟩ 93) :: h)) (fun k => xs.length - k) 0 (Nat.zero_le _) (le_put (le_put (le_put (le_emp _) rfl) rfl) (by show _ = some (I (_ - 0)); rw [Int.sub_zero]; rfl)) (by rw [revK_0]; (first|((repeat first|exact s_0|exact s_1|exact s_3|refine s_4 ?_|refine s_5 ?_|refine s_6 ?_|refine s_7 ?_);done)|((repeat first|exact s_0|exact s_1|exact s_3|refine s_4 ?_|refine s_5 ?_|refine s_6 ?_|refine s_8 ?_);done))) ?_
  rintro k hk
  refine xc_seq ?_
  refine xc_seq (xc_region ?_)
  refine xr_op rfl rfl (xv_move rfl ?_)
  refine xr_op rfl rfl (xv_move rfl ?_)
  refine xr_op rfl rfl (xv_lss2 rfl rfl (fun q1 => ?_) (fun q1 => ?_))
  · refine xr_end rfl ?_
    refine th_n ?_
    refine xc_true rfl ?_
    refine xc_skip ?_
    refine th_n ?_
    refine xc_seq ?_
    refine xc_block ?_
    refine xc_draw0 [(0, .S), (1, .S), (2, .S), (3, .S), (4, .S), (5, .S), (6, .S), (7, .R), (8, .S), (9, .S), (10, .S), (11, .R), (12, .S), (13, .O), (14, .S), (15, .O)] mixed (by kernel_rfl) ?_
    have hkq : k < xs.length - 1 - k := by (first|omega|(dsimp only at *;omega)|(simp at *;omega))
    have hg1 := revK_get (xs := xs) (k := k) (i := xs.length - 1 - k) (by omega)
    rw [if_neg (by omega)] at hg1
    have hg2 := revK_get (xs := xs) (k := k) (i := k) (by omega)
    rw [if_neg (by omega)] at hg2
    refine js_S rfl rfl (.inl rfl) (xv_move rfl ⟨rfl, rfl⟩) ?_
    refine js_S rfl rfl (.inl rfl) (xv_move rfl ⟨rfl, rfl⟩) ?_
    refine js_S rfl rfl (.inl rfl) (xv_move rfl ⟨rfl, rfl⟩) ?_
    refine js_S rfl rfl (.inl rfl) (xv_move rfl ⟨rfl, rfl⟩) ?_
    refine js_S rfl rfl (.inl rfl) (xv_move rfl ⟨rfl, rfl⟩) ?_
    refine js_S rfl rfl (.inl rfl) (xv_move rfl ⟨rfl, rfl⟩) ?_
    refine js_S rfl rfl (.inl rfl) (xv_ia (sz := 2) (j := xs.length - 1 - k) sl95 ty93 rfl rfl rfl (by omega) (by (first|omega|(dsimp only at *;omega)|(simp at *;omega))) (by (first|omega|(dsimp only at *;omega)|(simp at *;omega))) ⟨rfl, rfl⟩) ?_
    refine js_R0 rfl rfl (.inl rfl) (xv_loadA ty93 rfl rfl (by ((repeat first|exact z_0|assumption|refine z_1 ?_|(refine z_l ?_;(repeat first|exact z_0|assumption|refine z_1 ?_);done)|refine z_r ?_);done)) (flat_at eShare_len sp (revK xs k) (xs.length - 1 - k) hg1) rfl ⟨rfl, rfl⟩) ?_
    refine js_S rfl rfl (.inl rfl) (xv_move rfl ⟨rfl, rfl⟩) ?_
    refine js_S rfl rfl (.inl rfl) (xv_move rfl ⟨rfl, rfl⟩) ?_
    refine js_S rfl rfl (.inl rfl) (xv_ia (sz := 2) (j := k) sl95 ty93 rfl rfl rfl (by omega) (by (first|omega|(dsimp only at *;omega)|(simp at *;omega))) (by (first|omega|(dsimp only at *;omega)|(simp at *;omega))) ⟨rfl, rfl⟩) ?_
    refine js_R0 rfl rfl (.inl rfl) (xv_loadA ty93 rfl rfl (by ((repeat first|exact z_0|assumption|refine z_1 ?_|(refine z_l ?_;(repeat first|exact z_0|assumption|refine z_1 ?_);done)|refine z_r ?_);done)) (flat_at eShare_len sp (revK xs k) k hg2) rfl ⟨rfl, rfl⟩) ?_
    refine js_S rfl rfl (.inl rfl) (xv_ia (sz := 2) (j := k) sl95 ty93 rfl rfl rfl (by omega) (by (first|omega|(dsimp only at *;omega)|(simp at *;omega))) (by (first|omega|(dsimp only at *;omega)|(simp at *;omega))) ⟨rfl, rfl⟩) ?_
    refine js_O0 rfl rfl (.inl rfl) (xv_s ty93 rfl rfl (by (first|(apply u_3;(repeat first|exact u_0|assumption|apply u_1|apply u_2);done)|((repeat first|exact u_0|assumption|apply u_1|apply u_2);done)|(apply u_3;apply u_3;(repeat first|exact u_0|assumption|apply u_1|apply u_2);done)|((repeat first|exact u_0|assumption|apply u_3|apply u_1);done))) rfl (by rfl) (by rfl) (Nat.ble_eq_true_of_le (by rw [List.length_append, flat_lenM eShare_len]; simp only [List.length_set, revK_len]; omega)) (splice_flat eShare_len sp (revK xs k) k (by simp only [List.length_set, revK_len]; omega)) ?_)
    refine js_S rfl rfl (.inl rfl) (xv_ia (sz := 2) (j := xs.length - 1 - k) sl95 ty93 rfl rfl rfl (by omega) (by (first|omega|(dsimp only at *;omega)|(simp at *;omega))) (by (first|omega|(dsimp only at *;omega)|(simp at *;omega))) ⟨rfl, rfl⟩) ?_
    refine js_O0 rfl rfl (.inl rfl) (xv_s ty93 rfl rfl (by (first|(apply u_3;(repeat first|exact u_0|assumption|apply u_1|apply u_2);done)|((repeat first|exact u_0|assumption|apply u_1|apply u_2);done)|(apply u_3;apply u_3;(repeat first|exact u_0|assumption|apply u_1|apply u_2);done)|((repeat first|exact u_0|assumption|apply u_3|apply u_1);done))) rfl (by rfl) (by rfl) (Nat.ble_eq_true_of_le (by rw [List.length_append, flat_lenM eShare_len]; simp only [List.length_set, revK_len]; omega)) (splice_flat eShare_len sp ((revK xs k).set k (xs.getD (xs.length - 1 - k) default)) (xs.length - 1 - k) (by simp only [List.length_set, revK_len]; omega)) ?_)
    refine j_end0 ?_
    refine bk_n ?_
    refine th_n ?_
    refine xc_region ?_
    refine xr_op rfl rfl (xv_move rfl ?_)
    refine xr_op rfl rfl (xv_add rfl rfl (wrap_i64 (by (first|omega|(dsimp only at *;omega)|(simp at *;omega))) (by (first|omega|(dsimp only at *;omega)|(simp at *;omega)))) ?_)
    refine xr_op rfl rfl (xv_move rfl ?_)
    refine xr_op rfl rfl (xv_sub rfl rfl (wrap_i64 (by (first|omega|(dsimp only at *;omega)|(simp at *;omega))) (by (first|omega|(dsimp only at *;omega)|(simp at *;omega)))) ?_)
    refine xr_op rfl rfl (xv_assign rfl ?_)
    refine xr_op rfl rfl (xv_assign rfl ?_)
    refine xr_end rfl ?_
    exact rnd (k + 1) (by (first|omega|(dsimp only at *;omega)|(simp at *;omega))) (by (first|omega|(dsimp only at *;omega)|(simp at *;omega))) (le_put (le_put (le_put (le_emp _) rfl) rfl) (by rw [show (xs.length : Int) - 1 - ((k + 1 : Nat) : Int) = (xs.length : Int) - 1 - (k : Int) - 1 from by omega]; rfl)) (by rw [← revK_step (k := k) hkq]; (first|((repeat first|exact s_0|exact s_1|exact s_3|refine s_4 ?_|refine s_5 ?_|refine s_6 ?_|refine s_7 ?_);done)|((repeat first|exact s_0|exact s_1|exact s_3|refine s_4 ?_|refine s_5 ?_|refine s_6 ?_|refine s_8 ?_);done)))
  · refine xr_end rfl ?_
    refine th_n ?_
    refine xc_false rfl ?_
    refine xc_exit ?_
    refine th_x ?_
    refine th_x ?_
    refine bk_same ?_
    refine body_end (h' := ((bb, .cells ⟨(revK xs k).flatMap eShare ++ sp⟩ 93) :: h)) rfl ro_nil (by (first|((repeat first|exact s_0|exact s_1|exact s_3|refine s_4 ?_|refine s_5 ?_|refine s_6 ?_|refine s_7 ?_);done)|((repeat first|exact s_0|exact s_1|exact s_3|refine s_4 ?_|refine s_5 ?_|refine s_6 ?_|refine s_8 ?_);done))) ?_
    (rw [← revK_end (k := k) (by omega)] at H; exact H)

end Go.Proofs.Ytpefpafijadfmaa

/-
  Walks.
-/
namespace Go.Proofs.Ytpefpafijadfmaa
open Go Go.H
set_option maxRecDepth 100000
set_option maxHeartbeats 8000000
set_option linter.all false
theorem csum_c {ct : List Int} {h : Hp} {R : Ending → Hp → Prop} (h6 : ct.length = 6) (hb : ∀ x ∈ ct, 0 ≤ x ∧ x ≤ 2000000000) (H : R (.returned (I (sumI ct))) h) : ACalls Try.prog 34 ⟨[.agg ⟨ct.flatMap eI⟩]⟩ h R := by
  refine calls_of_xc (N := 14) Try.func34 rfl (by rfl) ?_
  refine xc_seq (xc_region ?_)
  refine xr_op rfl rfl (xv_box rfl (fun b1 hb1 => ?_))
  refine xr_op rfl rfl (xv_assign rfl ?_)
  refine xr_end rfl ?_
  refine th_n ?_
  refine xc_seq ?_
  refine xc_seq (xc_region ?_)
  refine xr_op rfl rfl (xv_loadA (l := ct.flatMap eI) (l' := ct.flatMap eI) ty80 rfl rfl (by ((repeat first|exact z_0|assumption|refine z_1 ?_|(refine z_l ?_;(repeat first|exact z_0|assumption|refine z_1 ?_);done)|refine z_r ?_);done)) (by rw [List.drop_zero]; exact List.take_of_length_le (by rw [ints_len, h6]; exact Nat.le_refl 6)) (by rw [ints_len, h6]) ?_)
  refine xr_op rfl rfl (xv_move rfl ?_)
  refine xr_end rfl ?_
  refine th_n ?_
  refine xc_block ?_
  refine xc_loop (σ := Nat) (fun k => k ≤ 6) (fun k => (((emp.put (some 2) (I (sumI (ct.take k)))).put (some 5) (.agg ⟨ct.flatMap eI⟩)).put (some 6) (I k))) (fun k => h) (fun k => 6 - k) 0 (Nat.zero_le _) (le_put (le_put (le_put (le_emp _) rfl) rfl) rfl) (by (first|((repeat first|exact s_0|exact s_1|exact s_3|refine s_4 ?_|refine s_5 ?_|refine s_6 ?_|refine s_7 ?_);done)|((repeat first|exact s_0|exact s_1|exact s_3|refine s_4 ?_|refine s_5 ?_|refine s_6 ?_|refine s_8 ?_);done))) ?_
  rintro k hk
  refine xc_seq (xc_region ?_)
  refine xr_op rfl rfl (xv_lss2 rfl rfl (fun q1 => ?_) (fun q1 => ?_))
  · refine xr_end rfl ?_
    refine th_n ?_
    refine xc_seq ?_
    refine xc_true rfl ?_
    refine xc_skip ?_
    refine th_n ?_
    refine xc_seq ?_
    refine xc_block ?_
    refine xc_seq (xc_region ?_)
    obtain ⟨x, hkx⟩ : ∃ x, ct[k]? = some x := ⟨_, List.getElem?_eq_getElem (by (first|omega|(dsimp only at *;omega)|(simp at *;omega)))⟩
    have hxb := hb x (List.mem_of_getElem? hkx)
    have hsb := sumI_bd (l := ct.take k) (fun x hx => hb x (List.mem_of_mem_take hx))
    rw [List.length_take] at hsb
    refine xr_op rfl rfl (xv_index1 Try.underlying80 ty3 rfl rfl rfl (by (first|omega|(dsimp only at *;omega)|(simp at *;omega))) (by (first|omega|(dsimp only at *;omega)|(simp at *;omega))) (idx_get hkx) ?_)
    refine xr_op rfl rfl (xv_assign rfl ?_)
    refine xr_end rfl ?_
    refine th_n ?_
    refine xc_region ?_
    refine xr_op rfl rfl (xv_move rfl ?_)
    refine xr_op rfl rfl (xv_move rfl ?_)
    refine xr_op rfl rfl (xv_add rfl rfl (wrap_i64 (by (first|omega|(dsimp only at *;omega)|(simp at *;omega))) (by (first|omega|(dsimp only at *;omega)|(simp at *;omega)))) ?_)
    refine xr_op rfl rfl (xv_assign rfl ?_)
    refine xr_end rfl ?_
    refine bk_n ?_
    refine th_n ?_
    refine xc_region ?_
    refine xr_op rfl rfl (xv_add rfl rfl (wrap_i64 (by (first|omega|(dsimp only at *;omega)|(simp at *;omega))) (by (first|omega|(dsimp only at *;omega)|(simp at *;omega)))) ?_)
    refine xr_op rfl rfl (xv_move rfl ?_)
    refine xr_end rfl ?_
    exact rnd (k + 1) (by (first|omega|(dsimp only at *;omega)|(simp at *;omega))) (by (first|omega|(dsimp only at *;omega)|(simp at *;omega))) (le_put (le_put (le_put (le_emp _) (by rw [sumI_take hkx]; rfl)) rfl) rfl) (by (first|((repeat first|exact s_0|exact s_1|exact s_3|refine s_4 ?_|refine s_5 ?_|refine s_6 ?_|refine s_7 ?_);done)|((repeat first|exact s_0|exact s_1|exact s_3|refine s_4 ?_|refine s_5 ?_|refine s_6 ?_|refine s_8 ?_);done)))
  · refine xr_end rfl ?_
    refine th_n ?_
    refine xc_seq ?_
    refine xc_false rfl ?_
    refine xc_exit ?_
    refine th_x ?_
    refine th_x ?_
    refine bk_same ?_
    refine th_n ?_
    refine xc_seq (xc_region ?_)
    obtain rfl : k = 6 := by (first|omega|(dsimp only at *;omega)|(simp at *;omega))
    have e6 : ct.take 6 = ct := List.take_of_length_le (by omega)
    rw [e6]
    refine xr_op rfl rfl (xv_move rfl ?_)
    refine xr_op rfl rfl (xv_assign rfl ?_)
    refine xr_end rfl ?_
    refine th_n ?_
    refine xc_ret ?_
    refine body_ret (h' := h) rfl (ro_tmp rfl ro_nil) (by (first|((repeat first|exact s_0|exact s_1|exact s_3|refine s_4 ?_|refine s_5 ?_|refine s_6 ?_|refine s_7 ?_);done)|((repeat first|exact s_0|exact s_1|exact s_3|refine s_4 ?_|refine s_5 ?_|refine s_6 ?_|refine s_8 ?_);done))) ?_
    exact H

end Go.Proofs.Ytpefpafijadfmaa
