/-
  Walks.
-/
import Derived.Test.YtckaaaebegemoaaDoorTy
import Derived.Test.YtckaaaebegemoaaDoorD
namespace Go.Proofs.YtckaaaebegemoaaDoor
open Go Go.H
set_option maxRecDepth 100000
set_option maxHeartbeats 2000000
set_option linter.all false
theorem order2_c {bb cap N : Nat} {sp : List Value} {d : Array Card} {f : Value} {cm : Card → Card → Int} {p : Card → Prop} {L : Hp} {R : Ending → Hp → Prop} (hA : Arr N p d) (hN : N ≤ 49) (hf : ∀ x y, p x → p y → ∀ H R', L ⊆ H → R' (.returned (I (cm x y))) H → AFn Tryd.prog f [.agg ⟨eCard x⟩, .agg ⟨eCard y⟩] H R') {bs a b s : Nat} {ai bi : Int} (ea : ai = a) (eb : bi = b) (ha : a < N) (hb : b < N) (hs : s ≤ 1000) (H : R (.returned (.tuple ⟨[I (Go.Sort.order2 (ltc cm) d a b s).1, I (Go.Sort.order2 (ltc cm) d a b s).2.1]⟩)) ((bs, .cells ⟨[I (Go.Sort.order2 (ltc cm) d a b s).2.2]⟩ 3) :: (bb, .cells ⟨(d).toList.flatMap eCard ++ sp⟩ 78) :: L)) :
    ACalls Tryd.prog 77 ⟨[.slice (some ⟨bb, 0, none⟩) N cap, I ai, I bi, .pointer (some ⟨bs, 0, none⟩), f]⟩ ((bs, .cells ⟨[I s]⟩ 3) :: (bb, .cells ⟨(d).toList.flatMap eCard ++ sp⟩ 78) :: L) R := by
  subst ea eb
  refine calls_of_xc (N := 32) Tryd.func77 rfl (by rfl) ?_
  refine xc_seq (xc_region ?_)
  refine xr_op rfl rfl (xv_assign rfl ?_)
  refine xr_op rfl rfl (xv_assign rfl ?_)
  refine xr_end rfl ?_
  refine th_n ?_
  refine xc_seq ?_
  refine xc_seq ?_
  refine xc_draw0 [(0, .S), (1, .S), (2, .S), (3, .S), (4, .R), (5, .S), (6, .S), (7, .S), (8, .R), (9, .R), (10, .O)] mixed (by kernel_rfl) ?_
  refine js_S rfl rfl (.inl rfl) (xv_move rfl ⟨rfl, rfl⟩) ?_
  refine js_S rfl rfl (.inl rfl) (xv_move rfl ⟨rfl, rfl⟩) ?_
  refine js_S rfl rfl (.inl rfl) (xv_move rfl ⟨rfl, rfl⟩) ?_
  refine js_S rfl rfl (.inl rfl) (xv_ia (sz := 3) (j := b) sl72 ty78 rfl rfl rfl (by (first | omega | (dsimp only at *; omega) | (simp at *; omega))) (by (first | omega | (dsimp only at *; omega) | (simp at *; omega))) (by (first | omega | (dsimp only at *; omega) | (simp at *; omega))) ⟨rfl, rfl⟩) ?_
  refine js_R0 rfl rfl (.inl rfl) (xv_loadA ty78 rfl rfl (by ((repeat first|exact z_0|assumption|refine z_1 ?_|(refine z_l ?_;(repeat first|exact z_0|assumption|refine z_1 ?_);done)|refine z_r ?_);done)) (ca_get eCard_len (k := b) (by rw [hA.size]; (first | omega | (dsimp only at *; omega) | (simp at *; omega)))) rfl ⟨rfl, rfl⟩) ?_
  refine js_S rfl rfl (.inl rfl) (xv_move rfl ⟨rfl, rfl⟩) ?_
  refine js_S rfl rfl (.inl rfl) (xv_move rfl ⟨rfl, rfl⟩) ?_
  refine js_S rfl rfl (.inl rfl) (xv_ia (sz := 3) (j := a) sl72 ty78 rfl rfl rfl (by (first | omega | (dsimp only at *; omega) | (simp at *; omega))) (by (first | omega | (dsimp only at *; omega) | (simp at *; omega))) (by (first | omega | (dsimp only at *; omega) | (simp at *; omega))) ⟨rfl, rfl⟩) ?_
  refine js_R0 rfl rfl (.inl rfl) (xv_loadA ty78 rfl rfl (by ((repeat first|exact z_0|assumption|refine z_1 ?_|(refine z_l ?_;(repeat first|exact z_0|assumption|refine z_1 ?_);done)|refine z_r ?_);done)) (ca_get eCard_len (k := a) (by rw [hA.size]; (first | omega | (dsimp only at *; omega) | (simp at *; omega)))) rfl ⟨rfl, rfl⟩) ?_
  refine js_R0 rfl rfl (.inl rfl) (xv_fn rfl rfl (hf _ _ (hA.all _ (by (first | omega | (dsimp only at *; omega) | (simp at *; omega)))) (hA.all _ (by (first | omega | (dsimp only at *; omega) | (simp at *; omega)))) _ _ (by intro z hz; ((repeat first|exact z_0|assumption|refine z_1 ?_|(refine z_l ?_;(repeat first|exact z_0|assumption|refine z_1 ?_);done)|refine z_r ?_);done)) (up_ret ⟨rfl, rfl⟩))) ?_
  refine js_O0 rfl rfl (.inl rfl) (xv_lss2 rfl rfl (fun hq => ?_) (fun hq => ?_))
  · refine j_end0 ?_
    refine th_n ?_
    refine xc_true rfl ?_
    refine xc_seq (xc_region ?_)
    refine xr_op rfl rfl (xv_move rfl ?_)
    refine xr_op rfl rfl (xv_nilp rfl ?_)
    refine xr_op rfl rfl (xv_load1 ty3 rfl rfl (by ((repeat first|exact z_0|assumption|refine z_1 ?_|(refine z_l ?_;(repeat first|exact z_0|assumption|refine z_1 ?_);done)|refine z_r ?_);done)) (by rfl) ?_)
    refine xr_op rfl rfl (xv_add rfl rfl (wrap_i64 (by (first | omega | (dsimp only at *; omega) | (simp at *; omega))) (by (first | omega | (dsimp only at *; omega) | (simp at *; omega)))) ?_)
    refine xr_op rfl rfl (xv_nilp rfl ?_)
    refine xr_op rfl rfl (xv_s1 ty3 rfl rfl rfl (by (first|(apply u_3;(repeat first|exact u_0|assumption|apply u_1|apply u_2);done)|((repeat first|exact u_0|assumption|apply u_1|apply u_2);done)|(apply u_3;apply u_3;(repeat first|exact u_0|assumption|apply u_1|apply u_2);done)|((repeat first|exact u_0|assumption|apply u_3|apply u_1);done))) (by (first | rfl | exact Vec.one _ _)) (by (first | decide | exact Nat.le_of_ble_eq_true rfl | (simp only [List.length_cons, List.length_nil]; omega) | (simp; done))) (by ((try apply evl_some rfl);(repeat (first|exact (rfl : _ = [])|apply evl_cons rfl (by (first|exact v_1|exact v_2|exact v_3|exact v_4|exact v_5|exact v_6|exact v_7|exact v_8|exact v_9|exact rfl))|exact rfl)))) ?_)
    refine xr_end rfl ?_
    refine th_n ?_
    refine xc_seq (xc_region ?_)
    refine xr_op rfl rfl (xv_move rfl ?_)
    refine xr_op rfl rfl (xv_move rfl ?_)
    refine xr_op rfl rfl (xv_assign rfl ?_)
    refine xr_op rfl rfl (xv_assign rfl ?_)
    refine xr_end rfl ?_
    refine th_n ?_
    refine xc_ret ?_
    refine th_r ?_
    refine body_ret (h' := ((bs, .cells ⟨[I ((s : Int) + 1)]⟩ 3) :: (bb, .cells ⟨(d).toList.flatMap eCard ++ sp⟩ 78) :: L)) rfl (ro_tmp rfl (ro_tmp rfl ro_nil)) (by (first|((repeat first|exact s_0|exact s_1|exact s_3|refine s_4 ?_|refine s_5 ?_|refine s_6 ?_|refine s_7 ?_);done)|((repeat first|exact s_0|exact s_1|exact s_3|refine s_4 ?_|refine s_5 ?_|refine s_6 ?_|refine s_8 ?_);done))) ?_
    first | (have e : Go.Sort.order2 (ltc cm) d a b s = (b, a, s + 1) := if_pos (ltc_T (by omega)); rw [e] at H; dsimp only at H; rw [show ((s + 1 : Nat) : Int) = (s : Int) + 1 by omega] at H; exact H) | (have e : Go.Sort.order2 (ltc cm) d a b s = (a, b, s) := if_neg (by rw [ltc_F (by omega)]; decide); rw [e] at H; exact H)
  · refine j_end0 ?_
    refine th_n ?_
    refine xc_false rfl ?_
    refine xc_skip ?_
    refine th_n ?_
    refine xc_seq (xc_region ?_)
    refine xr_op rfl rfl (xv_move rfl ?_)
    refine xr_op rfl rfl (xv_move rfl ?_)
    refine xr_op rfl rfl (xv_assign rfl ?_)
    refine xr_op rfl rfl (xv_assign rfl ?_)
    refine xr_end rfl ?_
    refine th_n ?_
    refine xc_ret ?_
    refine body_ret (h' := ((bs, .cells ⟨[I s]⟩ 3) :: (bb, .cells ⟨(d).toList.flatMap eCard ++ sp⟩ 78) :: L)) rfl (ro_tmp rfl (ro_tmp rfl ro_nil)) (by (first|((repeat first|exact s_0|exact s_1|exact s_3|refine s_4 ?_|refine s_5 ?_|refine s_6 ?_|refine s_7 ?_);done)|((repeat first|exact s_0|exact s_1|exact s_3|refine s_4 ?_|refine s_5 ?_|refine s_6 ?_|refine s_8 ?_);done))) ?_
    first | (have e : Go.Sort.order2 (ltc cm) d a b s = (b, a, s + 1) := if_pos (ltc_T (by omega)); rw [e] at H; dsimp only at H; rw [show ((s + 1 : Nat) : Int) = (s : Int) + 1 by omega] at H; exact H) | (have e : Go.Sort.order2 (ltc cm) d a b s = (a, b, s) := if_neg (by rw [ltc_F (by omega)]; decide); rw [e] at H; exact H)

theorem median_c {bb cap N : Nat} {sp : List Value} {d : Array Card} {f : Value} {cm : Card → Card → Int} {p : Card → Prop} {L : Hp} {R : Ending → Hp → Prop} (hA : Arr N p d) (hN : N ≤ 49) (hf : ∀ x y, p x → p y → ∀ H R', L ⊆ H → R' (.returned (I (cm x y))) H → AFn Tryd.prog f [.agg ⟨eCard x⟩, .agg ⟨eCard y⟩] H R') {bs a b c s : Nat} {ai bi ci : Int} (ea : ai = a) (eb : bi = b) (ec : ci = c) (ha : a < N) (hb : b < N) (hc : c < N) (hs : s ≤ 900) (H : R (.returned (I (Go.Sort.median (ltc cm) d a b c s).1)) ((bs, .cells ⟨[I (Go.Sort.median (ltc cm) d a b c s).2]⟩ 3) :: (bb, .cells ⟨(d).toList.flatMap eCard ++ sp⟩ 78) :: L)) :
    ACalls Tryd.prog 76 ⟨[.slice (some ⟨bb, 0, none⟩) N cap, I ai, I bi, I ci, .pointer (some ⟨bs, 0, none⟩), f]⟩ ((bs, .cells ⟨[I s]⟩ 3) :: (bb, .cells ⟨(d).toList.flatMap eCard ++ sp⟩ 78) :: L) R := by
  subst ea eb ec
  have h1 := order2_bd (lt := ltc cm) (d := d) (s := s) ha hb
  have h2 := order2_bd (lt := ltc cm) (d := d) (s := (Go.Sort.order2 (ltc cm) d a b s).2.2) h1.2.1 hc
  refine calls_of_xc (N := 41) Tryd.func76 rfl (by rfl) ?_
  refine xc_seq (xc_region ?_)
  refine xr_op rfl rfl (xv_assign rfl ?_)
  refine xr_end rfl ?_
  refine th_n ?_
  refine xc_seq (xc_region ?_)
  refine xr_op rfl rfl (xv_move rfl ?_)
  refine xr_op rfl rfl (xv_move rfl ?_)
  refine xr_op rfl rfl (xv_move rfl ?_)
  refine xr_op rfl rfl (xv_move rfl ?_)
  refine xr_op rfl rfl (xv_move rfl ?_)
  refine xr_op rfl rfl (xv_calls rfl hb77 (order2_c (a := a) (b := b) (s := s) hA hN hf rfl rfl ha hb (by omega) (up_ret ?_)))
  refine xr_op rfl rfl (xv_move rfl ?_)
  refine xr_op rfl rfl (xv_extract rfl rfl ?_)
  refine xr_op rfl rfl (xv_extract rfl rfl ?_)
  refine xr_op rfl rfl (xv_assign rfl ?_)
  refine xr_op rfl rfl (xv_assign rfl ?_)
  refine xr_end rfl ?_
  refine th_n ?_
  refine xc_seq (xc_region ?_)
  refine xr_op rfl rfl (xv_move rfl ?_)
  refine xr_op rfl rfl (xv_move rfl ?_)
  refine xr_op rfl rfl (xv_move rfl ?_)
  refine xr_op rfl rfl (xv_move rfl ?_)
  refine xr_op rfl rfl (xv_move rfl ?_)
  refine xr_op rfl rfl (xv_calls rfl hb77 (order2_c (a := (Go.Sort.order2 (ltc cm) d a b s).2.1) (b := c) (s := (Go.Sort.order2 (ltc cm) d a b s).2.2) hA hN hf rfl rfl h1.2.1 hc (by omega) (up_ret ?_)))
  refine xr_op rfl rfl (xv_move rfl ?_)
  refine xr_op rfl rfl (xv_extract rfl rfl ?_)
  refine xr_op rfl rfl (xv_extract rfl rfl ?_)
  refine xr_op rfl rfl (xv_assign rfl ?_)
  refine xr_op rfl rfl (xv_assign rfl ?_)
  refine xr_end rfl ?_
  refine th_n ?_
  refine xc_seq (xc_region ?_)
  refine xr_op rfl rfl (xv_move rfl ?_)
  refine xr_op rfl rfl (xv_move rfl ?_)
  refine xr_op rfl rfl (xv_move rfl ?_)
  refine xr_op rfl rfl (xv_move rfl ?_)
  refine xr_op rfl rfl (xv_move rfl ?_)
  refine xr_op rfl rfl (xv_calls rfl hb77 (order2_c (a := (Go.Sort.order2 (ltc cm) d a b s).1) (b := (Go.Sort.order2 (ltc cm) d (Go.Sort.order2 (ltc cm) d a b s).2.1 c (Go.Sort.order2 (ltc cm) d a b s).2.2).1) (s := (Go.Sort.order2 (ltc cm) d (Go.Sort.order2 (ltc cm) d a b s).2.1 c (Go.Sort.order2 (ltc cm) d a b s).2.2).2.2) hA hN hf rfl rfl h1.1 h2.1 (by omega) (up_ret ?_)))
  refine xr_op rfl rfl (xv_move rfl ?_)
  refine xr_op rfl rfl (xv_extract rfl rfl ?_)
  refine xr_op rfl rfl (xv_extract rfl rfl ?_)
  refine xr_op rfl rfl (xv_assign rfl ?_)
  refine xr_op rfl rfl (xv_assign rfl ?_)
  refine xr_end rfl ?_
  refine th_n ?_
  refine xc_seq (xc_region ?_)
  refine xr_op rfl rfl (xv_move rfl ?_)
  refine xr_op rfl rfl (xv_assign rfl ?_)
  refine xr_end rfl ?_
  refine th_n ?_
  refine xc_ret ?_
  refine body_ret (h' := ((bs, .cells ⟨[I (Go.Sort.order2 (ltc cm) d (Go.Sort.order2 (ltc cm) d a b s).1 (Go.Sort.order2 (ltc cm) d (Go.Sort.order2 (ltc cm) d a b s).2.1 c (Go.Sort.order2 (ltc cm) d a b s).2.2).1 (Go.Sort.order2 (ltc cm) d (Go.Sort.order2 (ltc cm) d a b s).2.1 c (Go.Sort.order2 (ltc cm) d a b s).2.2).2.2).2.2]⟩ 3) :: (bb, .cells ⟨(d).toList.flatMap eCard ++ sp⟩ 78) :: L)) rfl (ro_tmp rfl ro_nil) (by (first|((repeat first|exact s_0|exact s_1|exact s_3|refine s_4 ?_|refine s_5 ?_|refine s_6 ?_|refine s_7 ?_);done)|((repeat first|exact s_0|exact s_1|exact s_3|refine s_4 ?_|refine s_5 ?_|refine s_6 ?_|refine s_8 ?_);done))) ?_
  exact H

theorem choose_c {bb cap N : Nat} {sp : List Value} {d : Array Card} {f : Value} {cm : Card → Card → Int} {p : Card → Prop} {L : Hp} {R : Ending → Hp → Prop} (hA : Arr N p d) (hN : N ≤ 49) (hf : ∀ x y, p x → p y → ∀ H R', L ⊆ H → R' (.returned (I (cm x y))) H → AFn Tryd.prog f [.agg ⟨eCard x⟩, .agg ⟨eCard y⟩] H R') {a b : Nat} {ai bi : Int} (ea : ai = a) (eb : bi = b) (h12 : 12 < b - a) (hb : b ≤ N) (H : R (.returned (.tuple ⟨[I (Go.Sort.choosePivot (ltc cm) d a b).1, I (hintI (Go.Sort.choosePivot (ltc cm) d a b).2)]⟩)) ((bb, .cells ⟨(d).toList.flatMap eCard ++ sp⟩ 78) :: L)) :
    ACalls Tryd.prog 64 ⟨[.slice (some ⟨bb, 0, none⟩) N cap, I ai, I bi, f]⟩ ((bb, .cells ⟨(d).toList.flatMap eCard ++ sp⟩ 78) :: L) R := by
  subst ea eb
  refine calls_of_xc (N := 63) Tryd.func64 rfl (by rfl) ?_
  rw [choose_8 (by omega) (by omega)] at H
  dsimp only at H
  refine xc_seq (xc_region ?_)
  refine xr_op rfl rfl (xv_assign rfl ?_)
  refine xr_op rfl rfl (xv_assign rfl ?_)
  refine xr_end rfl ?_
  refine th_n ?_
  refine xc_seq (xc_region ?_)
  refine xr_op rfl rfl (xv_move rfl ?_)
  refine xr_op rfl rfl (xv_move rfl ?_)
  refine xr_op rfl rfl (xv_sub rfl rfl (wrap_i64 (by (first | omega | (dsimp only at *; omega) | (simp at *; omega))) (by (first | omega | (dsimp only at *; omega) | (simp at *; omega)))) ?_)
  refine xr_op rfl rfl (xv_assign rfl ?_)
  refine xr_end rfl ?_
  refine th_n ?_
  refine xc_seq (xc_region ?_)
  refine xr_op rfl rfl (xv_alloc ty3 (fun bs hbs => ?_))
  refine xr_end rfl ?_
  refine th_n ?_
  refine xc_seq (xc_region ?_)
  refine xr_op rfl rfl (xv_move rfl ?_)
  refine xr_op rfl rfl (xv_move rfl ?_)
  refine xr_op rfl rfl (xv_quo (c := (((b - a) / 4 : Nat) : Int)) rfl rfl (by omega) (by have e : ((b : Int) - (a : Int)).tdiv 4 = (((b - a) / 4 : Nat) : Int) := quo_nat (n := b - a) (k := 4) (by omega); rw [e]; exact wrap_i64 (by omega) (by omega)) ?_)
  refine xr_op rfl rfl (xv_mul rfl rfl (wrap_i64 (by (first | omega | (dsimp only at *; omega) | (simp at *; omega))) (by (first | omega | (dsimp only at *; omega) | (simp at *; omega)))) ?_)
  refine xr_op rfl rfl (xv_add rfl rfl (wrap_i64 (by (first | omega | (dsimp only at *; omega) | (simp at *; omega))) (by (first | omega | (dsimp only at *; omega) | (simp at *; omega)))) ?_)
  refine xr_op rfl rfl (xv_assign rfl ?_)
  refine xr_end rfl ?_
  refine th_n ?_
  refine xc_seq (xc_region ?_)
  refine xr_op rfl rfl (xv_move rfl ?_)
  refine xr_op rfl rfl (xv_move rfl ?_)
  refine xr_op rfl rfl (xv_quo (c := (((b - a) / 4 : Nat) : Int)) rfl rfl (by omega) (by have e : ((b : Int) - (a : Int)).tdiv 4 = (((b - a) / 4 : Nat) : Int) := quo_nat (n := b - a) (k := 4) (by omega); rw [e]; exact wrap_i64 (by omega) (by omega)) ?_)
  refine xr_op rfl rfl (xv_mul rfl rfl (wrap_i64 (by (first | omega | (dsimp only at *; omega) | (simp at *; omega))) (by (first | omega | (dsimp only at *; omega) | (simp at *; omega)))) ?_)
  refine xr_op rfl rfl (xv_add rfl rfl (wrap_i64 (by (first | omega | (dsimp only at *; omega) | (simp at *; omega))) (by (first | omega | (dsimp only at *; omega) | (simp at *; omega)))) ?_)
  refine xr_op rfl rfl (xv_assign rfl ?_)
  refine xr_end rfl ?_
  refine th_n ?_
  refine xc_seq (xc_region ?_)
  refine xr_op rfl rfl (xv_move rfl ?_)
  refine xr_op rfl rfl (xv_move rfl ?_)
  refine xr_op rfl rfl (xv_quo (c := (((b - a) / 4 : Nat) : Int)) rfl rfl (by omega) (by have e : ((b : Int) - (a : Int)).tdiv 4 = (((b - a) / 4 : Nat) : Int) := quo_nat (n := b - a) (k := 4) (by omega); rw [e]; exact wrap_i64 (by omega) (by omega)) ?_)
  refine xr_op rfl rfl (xv_mul rfl rfl (wrap_i64 (by (first | omega | (dsimp only at *; omega) | (simp at *; omega))) (by (first | omega | (dsimp only at *; omega) | (simp at *; omega)))) ?_)
  refine xr_op rfl rfl (xv_add rfl rfl (wrap_i64 (by (first | omega | (dsimp only at *; omega) | (simp at *; omega))) (by (first | omega | (dsimp only at *; omega) | (simp at *; omega)))) ?_)
  refine xr_op rfl rfl (xv_assign rfl ?_)
  refine xr_end rfl ?_
  refine th_n ?_
  refine xc_seq ?_
  refine xc_seq (xc_region ?_)
  refine xr_op rfl rfl (xv_move rfl ?_)
  refine xr_op rfl rfl (xv_cmpK rfl rfl (cmpT (by simp only [cmpP]; omega)) ?_)
  refine xr_end rfl ?_
  refine th_n ?_
  refine xc_true rfl ?_
  refine xc_seq ?_
  refine xc_seq (xc_region ?_)
  refine xr_op rfl rfl (xv_move rfl ?_)
  refine xr_op rfl rfl (xv_cmpK rfl rfl (cmpF rfl (by simp only [cmpP]; omega)) ?_)
  refine xr_end rfl ?_
  refine th_n ?_
  refine xc_false rfl ?_
  refine xc_skip ?_
  refine th_n ?_
  refine xc_region ?_
  refine xr_op rfl rfl (xv_move rfl ?_)
  refine xr_op rfl rfl (xv_move rfl ?_)
  refine xr_op rfl rfl (xv_move rfl ?_)
  refine xr_op rfl rfl (xv_move rfl ?_)
  refine xr_op rfl rfl (xv_move rfl ?_)
  refine xr_op rfl rfl (xv_calls rfl hb76 (median_c (a := a + ((b - a) / 4) * 1) (b := a + ((b - a) / 4) * 2) (c := a + ((b - a) / 4) * 3) (s := 0) hA hN hf (by omega) (by omega) (by omega) (by omega) (by omega) (by omega) (by omega) (up_ret ?_)))
  refine xr_op rfl rfl (xv_assign rfl ?_)
  refine xr_end rfl ?_
  refine th_n ?_
  refine xc_seq (xc_region ?_)
  refine xr_op rfl rfl (xv_load1 ty3 rfl rfl (by ((repeat first|exact z_0|assumption|refine z_1 ?_|(refine z_l ?_;(repeat first|exact z_0|assumption|refine z_1 ?_);done)|refine z_r ?_);done)) (by rfl) ?_)
  refine xr_end rfl ?_
  refine th_n ?_
  refine xc_block ?_
  refine xc_seq (xc_region ?_)
  refine xr_op rfl rfl (xv_eql2 rfl rfl (fun q1 => ?_) (fun q1 => ?_))
  · refine xr_op rfl rfl (xv_assign rfl ?_)
    refine xr_end rfl ?_
    refine th_n ?_
    refine xc_true rfl ?_
    refine xc_seq (xc_region ?_)
    refine xr_op rfl rfl (xv_move rfl ?_)
    refine xr_op rfl rfl (xv_assign rfl ?_)
    refine xr_op rfl rfl (xv_assign rfl ?_)
    refine xr_end rfl ?_
    refine th_n ?_
    refine xc_ret ?_
    refine bk_r ?_
    refine body_ret (h' := ((bb, .cells ⟨(d).toList.flatMap eCard ++ sp⟩ 78) :: L)) rfl (ro_tmp rfl (ro_tmp rfl ro_nil)) (by (first|((repeat first|exact s_0|exact s_1|exact s_3|refine s_4 ?_|refine s_5 ?_|refine s_6 ?_|refine s_7 ?_);done)|((repeat first|exact s_0|exact s_1|exact s_3|refine s_4 ?_|refine s_5 ?_|refine s_6 ?_|refine s_8 ?_);done))) ?_
    (rw [show hintN (Go.Sort.median (ltc cm) d (a + ((b - a) / 4) * 1) (a + ((b - a) / 4) * 2) (a + ((b - a) / 4) * 3) 0).2 = _ from rfl] at H; unfold hintN at H; first | (rw [if_pos (by omega)] at H; exact H) | (rw [if_neg (by omega), if_pos (by omega)] at H; exact H) | (rw [if_neg (by omega), if_neg (by omega)] at H; exact H))
  · refine xr_op rfl rfl (xv_assign rfl ?_)
    refine xr_end rfl ?_
    refine th_n ?_
    refine xc_false rfl ?_
    refine xc_seq (xc_region ?_)
    refine xr_op rfl rfl (xv_eql2 rfl rfl (fun q2 => ?_) (fun q2 => ?_))
    · refine xr_op rfl rfl (xv_assign rfl ?_)
      refine xr_end rfl ?_
      refine th_n ?_
      refine xc_true rfl ?_
      refine xc_seq (xc_region ?_)
      refine xr_op rfl rfl (xv_move rfl ?_)
      refine xr_op rfl rfl (xv_assign rfl ?_)
      refine xr_op rfl rfl (xv_assign rfl ?_)
      refine xr_end rfl ?_
      refine th_n ?_
      refine xc_ret ?_
      refine bk_r ?_
      refine body_ret (h' := ((bb, .cells ⟨(d).toList.flatMap eCard ++ sp⟩ 78) :: L)) rfl (ro_tmp rfl (ro_tmp rfl ro_nil)) (by (first|((repeat first|exact s_0|exact s_1|exact s_3|refine s_4 ?_|refine s_5 ?_|refine s_6 ?_|refine s_7 ?_);done)|((repeat first|exact s_0|exact s_1|exact s_3|refine s_4 ?_|refine s_5 ?_|refine s_6 ?_|refine s_8 ?_);done))) ?_
      (rw [show hintN (Go.Sort.median (ltc cm) d (a + ((b - a) / 4) * 1) (a + ((b - a) / 4) * 2) (a + ((b - a) / 4) * 3) 0).2 = _ from rfl] at H; unfold hintN at H; first | (rw [if_pos (by omega)] at H; exact H) | (rw [if_neg (by omega), if_pos (by omega)] at H; exact H) | (rw [if_neg (by omega), if_neg (by omega)] at H; exact H))
    · refine xr_op rfl rfl (xv_assign rfl ?_)
      refine xr_end rfl ?_
      refine th_n ?_
      refine xc_false rfl ?_
      refine xc_seq (xc_region ?_)
      refine xr_op rfl rfl (xv_move rfl ?_)
      refine xr_op rfl rfl (xv_assign rfl ?_)
      refine xr_op rfl rfl (xv_assign rfl ?_)
      refine xr_end rfl ?_
      refine th_n ?_
      refine xc_ret ?_
      refine bk_r ?_
      refine body_ret (h' := ((bb, .cells ⟨(d).toList.flatMap eCard ++ sp⟩ 78) :: L)) rfl (ro_tmp rfl (ro_tmp rfl ro_nil)) (by (first|((repeat first|exact s_0|exact s_1|exact s_3|refine s_4 ?_|refine s_5 ?_|refine s_6 ?_|refine s_7 ?_);done)|((repeat first|exact s_0|exact s_1|exact s_3|refine s_4 ?_|refine s_5 ?_|refine s_6 ?_|refine s_8 ?_);done))) ?_
      (rw [show hintN (Go.Sort.median (ltc cm) d (a + ((b - a) / 4) * 1) (a + ((b - a) / 4) * 2) (a + ((b - a) / 4) * 3) 0).2 = _ from rfl] at H; unfold hintN at H; first | (rw [if_pos (by omega)] at H; exact H) | (rw [if_neg (by omega), if_pos (by omega)] at H; exact H) | (rw [if_neg (by omega), if_neg (by omega)] at H; exact H))

theorem len64_c {n : Nat} {h : Hp} {R : Ending → Hp → Prop} (hn : n ≤ 49) (H : R (.returned (I (Go.Sort.bitsLen n : Nat))) h) : ACalls Tryd.prog 70 ⟨[.int .u64 n]⟩ h R := by
  refine calls_of_xc (N := 25) Tryd.func70 rfl (by rfl) ?_
  have hbl := len8 hn
  refine xc_seq (xc_region ?_)
  refine xr_op rfl rfl (xv_assign rfl ?_)
  refine xr_end rfl ?_
  refine th_n ?_
  refine xc_seq ?_
  refine xc_seq (xc_region ?_)
  refine xr_op rfl rfl (xv_move rfl ?_)
  refine xr_op rfl rfl (xv_cmpK rfl rfl (cmpF rfl (by simp only [cmpP]; omega)) ?_)
  refine xr_end rfl ?_
  refine th_n ?_
  refine xc_false rfl ?_
  refine xc_skip ?_
  refine th_n ?_
  refine xc_seq ?_
  refine xc_seq (xc_region ?_)
  refine xr_op rfl rfl (xv_move rfl ?_)
  refine xr_op rfl rfl (xv_cmpK rfl rfl (cmpF rfl (by simp only [cmpP]; omega)) ?_)
  refine xr_end rfl ?_
  refine th_n ?_
  refine xc_false rfl ?_
  refine xc_skip ?_
  refine th_n ?_
  refine xc_seq ?_
  refine xc_seq (xc_region ?_)
  refine xr_op rfl rfl (xv_move rfl ?_)
  refine xr_op rfl rfl (xv_cmpK rfl rfl (cmpF rfl (by simp only [cmpP]; omega)) ?_)
  refine xr_end rfl ?_
  refine th_n ?_
  refine xc_false rfl ?_
  refine xc_skip ?_
  refine th_n ?_
  refine xc_seq (xc_region ?_)
  refine xr_op rfl rfl (xv_move rfl ?_)
  refine xr_op rfl rfl (xv_move rfl ?_)
  refine xr_op rfl rfl (xv_convI (m := (n : Int)) Tryd.underlying124 Tryd.underlying5 rfl (wrap_u8 (by omega) (by omega)) ?_)
  refine xr_op rfl rfl (xv_indexT (m := 50) (f := Go.Sort.bitsLen) Tryd.underlying9 rfl rfl (by omega) (by omega) (by kernel_rfl) ?_)
  refine xr_op rfl rfl (xv_convI (m := ((Go.Sort.bitsLen n : Nat) : Int)) Tryd.underlying5 Tryd.underlying3 rfl (by rw [Int.toNat_natCast, hbl.1]; exact wrap_i64 (by omega) (by omega)) ?_)
  refine xr_op rfl rfl (xv_add rfl rfl (wrap_i64 (by (first | omega | (dsimp only at *; omega) | (simp at *; omega))) (by (first | omega | (dsimp only at *; omega) | (simp at *; omega)))) ?_)
  refine xr_op rfl rfl (xv_assign rfl ?_)
  refine xr_end rfl ?_
  refine th_n ?_
  refine xc_ret ?_
  refine body_ret (h' := h) rfl (ro_tmp rfl ro_nil) (by (first|((repeat first|exact s_0|exact s_1|exact s_3|refine s_4 ?_|refine s_5 ?_|refine s_6 ?_|refine s_7 ?_);done)|((repeat first|exact s_0|exact s_1|exact s_3|refine s_4 ?_|refine s_5 ?_|refine s_6 ?_|refine s_8 ?_);done))) ?_
  (rw [← Int.zero_add ((Go.Sort.bitsLen n : Nat) : Int)] at H; exact H)

theorem len_c {n : Nat} {ni : Int} {h : Hp} {R : Ending → Hp → Prop} (en : ni = n) (hn : n ≤ 49) (H : R (.returned (I (Go.Sort.bitsLen n : Nat))) h) : ACalls Tryd.prog 57 ⟨[.int .u64 ni]⟩ h R := by
  subst en
  refine calls_of_xc (N := 8) Tryd.func57 rfl (by rfl) ?_
  refine xc_seq (xc_region ?_)
  refine xr_op rfl rfl (xv_assign rfl ?_)
  refine xr_end rfl ?_
  refine th_n ?_
  refine xc_seq ?_
  refine xc_false rfl ?_
  refine xc_skip ?_
  refine th_n ?_
  refine xc_seq (xc_region ?_)
  refine xr_op rfl rfl (xv_move rfl ?_)
  refine xr_op rfl rfl (xv_calls rfl hb70 (len64_c hn (up_ret ?_)))
  refine xr_op rfl rfl (xv_assign rfl ?_)
  refine xr_end rfl ?_
  refine th_n ?_
  refine xc_ret ?_
  refine body_ret (h' := h) rfl (ro_tmp rfl ro_nil) (by (first|((repeat first|exact s_0|exact s_1|exact s_3|refine s_4 ?_|refine s_5 ?_|refine s_6 ?_|refine s_7 ?_);done)|((repeat first|exact s_0|exact s_1|exact s_3|refine s_4 ?_|refine s_5 ?_|refine s_6 ?_|refine s_8 ?_);done))) ?_
  exact H

theorem npow_c {n : Nat} {ni : Int} {h : Hp} {R : Ending → Hp → Prop} (en : ni = n) (hn : n ≤ 49) (H : R (.returned (U ((1 : UInt64) <<< UInt64.ofNat (Go.Sort.bitsLen n)))) h) : ACalls Tryd.prog 73 ⟨[I ni]⟩ h R := by
  subst en
  refine calls_of_xc (N := 7) Tryd.func73 rfl (by rfl) ?_
  have hbl := len8 hn
  refine xc_seq (xc_region ?_)
  refine xr_op rfl rfl (xv_assign rfl ?_)
  refine xr_end rfl ?_
  refine th_n ?_
  refine xc_seq (xc_region ?_)
  refine xr_op rfl rfl (xv_move rfl ?_)
  refine xr_op rfl rfl (xv_convI (m := (n : Int)) Tryd.underlying3 Tryd.underlying103 rfl (wrap_u64 (by omega) (by omega)) ?_)
  refine xr_op rfl rfl (xv_calls rfl hb57 (len_c rfl hn (up_ret ?_)))
  refine xr_op rfl rfl (xv_shlU (w := 1) (s := Go.Sort.bitsLen n) rfl rfl (by omega) rfl ?_)
  refine xr_op rfl rfl (xv_assign rfl ?_)
  refine xr_end rfl ?_
  refine th_n ?_
  refine xc_ret ?_
  refine body_ret (h' := h) rfl (ro_tmp rfl ro_nil) (by (first|((repeat first|exact s_0|exact s_1|exact s_3|refine s_4 ?_|refine s_5 ?_|refine s_6 ?_|refine s_7 ?_);done)|((repeat first|exact s_0|exact s_1|exact s_3|refine s_4 ?_|refine s_5 ?_|refine s_6 ?_|refine s_8 ?_);done))) ?_
  exact H

theorem next_c {br : Nat} {w : UInt64} {L : Hp} {R : Ending → Hp → Prop} (H : R (.returned (U (Go.Sort.xorNext w))) ((br, .cells ⟨[U (Go.Sort.xorNext w)]⟩ 125) :: L)) : ACalls Tryd.prog 74 ⟨[.pointer (some ⟨br, 0, none⟩)]⟩ ((br, .cells ⟨[U w]⟩ 125) :: L) R := by
  refine calls_of_xc (N := 33) Tryd.func74 rfl (by rfl) ?_
  refine xc_seq (xc_region ?_)
  refine xr_op rfl rfl (xv_assign rfl ?_)
  refine xr_end rfl ?_
  refine th_n ?_
  refine xc_seq ?_
  refine xc_draw0 [(0, .S), (1, .S), (2, .R), (3, .S), (4, .S), (5, .R), (6, .S), (7, .S), (8, .S), (9, .O)] mixed (by kernel_rfl) ?_
  refine js_S rfl rfl (.inl rfl) (xv_move rfl ⟨rfl, rfl⟩) ?_
  refine js_S rfl rfl (.inl rfl) (xv_nilp rfl ⟨rfl, rfl⟩) ?_
  refine js_R0 rfl rfl (.inl rfl) (xv_load1 ty125 rfl rfl (by ((repeat first|exact z_0|assumption|refine z_1 ?_|(refine z_l ?_;(repeat first|exact z_0|assumption|refine z_1 ?_);done)|refine z_r ?_);done)) (by rfl) ⟨rfl, rfl⟩) ?_
  refine js_S rfl rfl (.inl rfl) (xv_move rfl ⟨rfl, rfl⟩) ?_
  refine js_S rfl rfl (.inl rfl) (xv_nilp rfl ⟨rfl, rfl⟩) ?_
  refine js_R0 rfl rfl (.inl rfl) (xv_load1 ty125 rfl rfl (by ((repeat first|exact z_0|assumption|refine z_1 ?_|(refine z_l ?_;(repeat first|exact z_0|assumption|refine z_1 ?_);done)|refine z_r ?_);done)) (by rfl) ⟨rfl, rfl⟩) ?_
  refine js_S rfl rfl (.inl rfl) (xv_shlU (s := 13) rfl rfl (by decide) rfl ⟨rfl, rfl⟩) ?_
  refine js_S rfl rfl (.inl rfl) (xv_xorU rfl rfl rfl ⟨rfl, rfl⟩) ?_
  refine js_S rfl rfl (.inl rfl) (xv_nilp rfl ⟨rfl, rfl⟩) ?_
  refine js_O0 rfl rfl (.inl rfl) (xv_s1 ty125 rfl rfl rfl (by (first|(apply u_3;(repeat first|exact u_0|assumption|apply u_1|apply u_2);done)|((repeat first|exact u_0|assumption|apply u_1|apply u_2);done)|(apply u_3;apply u_3;(repeat first|exact u_0|assumption|apply u_1|apply u_2);done)|((repeat first|exact u_0|assumption|apply u_3|apply u_1);done))) (by (first | rfl | exact Vec.one _ _)) (by (first | decide | exact Nat.le_of_ble_eq_true rfl | (simp only [List.length_cons, List.length_nil]; omega) | (simp; done))) (by ((try apply evl_some rfl);(repeat (first|exact (rfl : _ = [])|apply evl_cons rfl (by (first|exact v_1|exact v_2|exact v_3|exact v_4|exact v_5|exact v_6|exact v_7|exact v_8|exact v_9|exact rfl))|exact rfl)))) ?_)
  refine j_end0 ?_
  refine th_n ?_
  refine xc_seq ?_
  refine xc_draw0 [(0, .S), (1, .S), (2, .R), (3, .S), (4, .S), (5, .R), (6, .S), (7, .S), (8, .S), (9, .O)] mixed (by kernel_rfl) ?_
  refine js_S rfl rfl (.inl rfl) (xv_move rfl ⟨rfl, rfl⟩) ?_
  refine js_S rfl rfl (.inl rfl) (xv_nilp rfl ⟨rfl, rfl⟩) ?_
  refine js_R0 rfl rfl (.inl rfl) (xv_load1 ty125 rfl rfl (by ((repeat first|exact z_0|assumption|refine z_1 ?_|(refine z_l ?_;(repeat first|exact z_0|assumption|refine z_1 ?_);done)|refine z_r ?_);done)) (by rfl) ⟨rfl, rfl⟩) ?_
  refine js_S rfl rfl (.inl rfl) (xv_move rfl ⟨rfl, rfl⟩) ?_
  refine js_S rfl rfl (.inl rfl) (xv_nilp rfl ⟨rfl, rfl⟩) ?_
  refine js_R0 rfl rfl (.inl rfl) (xv_load1 ty125 rfl rfl (by ((repeat first|exact z_0|assumption|refine z_1 ?_|(refine z_l ?_;(repeat first|exact z_0|assumption|refine z_1 ?_);done)|refine z_r ?_);done)) (by rfl) ⟨rfl, rfl⟩) ?_
  refine js_S rfl rfl (.inl rfl) (xv_shrU (s := 7) rfl rfl (by decide) rfl ⟨rfl, rfl⟩) ?_
  refine js_S rfl rfl (.inl rfl) (xv_xorU rfl rfl rfl ⟨rfl, rfl⟩) ?_
  refine js_S rfl rfl (.inl rfl) (xv_nilp rfl ⟨rfl, rfl⟩) ?_
  refine js_O0 rfl rfl (.inl rfl) (xv_s1 ty125 rfl rfl rfl (by (first|(apply u_3;(repeat first|exact u_0|assumption|apply u_1|apply u_2);done)|((repeat first|exact u_0|assumption|apply u_1|apply u_2);done)|(apply u_3;apply u_3;(repeat first|exact u_0|assumption|apply u_1|apply u_2);done)|((repeat first|exact u_0|assumption|apply u_3|apply u_1);done))) (by (first | rfl | exact Vec.one _ _)) (by (first | decide | exact Nat.le_of_ble_eq_true rfl | (simp only [List.length_cons, List.length_nil]; omega) | (simp; done))) (by ((try apply evl_some rfl);(repeat (first|exact (rfl : _ = [])|apply evl_cons rfl (by (first|exact v_1|exact v_2|exact v_3|exact v_4|exact v_5|exact v_6|exact v_7|exact v_8|exact v_9|exact rfl))|exact rfl)))) ?_)
  refine j_end0 ?_
  refine th_n ?_
  refine xc_seq ?_
  refine xc_draw0 [(0, .S), (1, .S), (2, .R), (3, .S), (4, .S), (5, .R), (6, .S), (7, .S), (8, .S), (9, .O)] mixed (by kernel_rfl) ?_
  refine js_S rfl rfl (.inl rfl) (xv_move rfl ⟨rfl, rfl⟩) ?_
  refine js_S rfl rfl (.inl rfl) (xv_nilp rfl ⟨rfl, rfl⟩) ?_
  refine js_R0 rfl rfl (.inl rfl) (xv_load1 ty125 rfl rfl (by ((repeat first|exact z_0|assumption|refine z_1 ?_|(refine z_l ?_;(repeat first|exact z_0|assumption|refine z_1 ?_);done)|refine z_r ?_);done)) (by rfl) ⟨rfl, rfl⟩) ?_
  refine js_S rfl rfl (.inl rfl) (xv_move rfl ⟨rfl, rfl⟩) ?_
  refine js_S rfl rfl (.inl rfl) (xv_nilp rfl ⟨rfl, rfl⟩) ?_
  refine js_R0 rfl rfl (.inl rfl) (xv_load1 ty125 rfl rfl (by ((repeat first|exact z_0|assumption|refine z_1 ?_|(refine z_l ?_;(repeat first|exact z_0|assumption|refine z_1 ?_);done)|refine z_r ?_);done)) (by rfl) ⟨rfl, rfl⟩) ?_
  refine js_S rfl rfl (.inl rfl) (xv_shlU (s := 17) rfl rfl (by decide) rfl ⟨rfl, rfl⟩) ?_
  refine js_S rfl rfl (.inl rfl) (xv_xorU rfl rfl rfl ⟨rfl, rfl⟩) ?_
  refine js_S rfl rfl (.inl rfl) (xv_nilp rfl ⟨rfl, rfl⟩) ?_
  refine js_O0 rfl rfl (.inl rfl) (xv_s1 ty125 rfl rfl rfl (by (first|(apply u_3;(repeat first|exact u_0|assumption|apply u_1|apply u_2);done)|((repeat first|exact u_0|assumption|apply u_1|apply u_2);done)|(apply u_3;apply u_3;(repeat first|exact u_0|assumption|apply u_1|apply u_2);done)|((repeat first|exact u_0|assumption|apply u_3|apply u_1);done))) (by (first | rfl | exact Vec.one _ _)) (by (first | decide | exact Nat.le_of_ble_eq_true rfl | (simp only [List.length_cons, List.length_nil]; omega) | (simp; done))) (by ((try apply evl_some rfl);(repeat (first|exact (rfl : _ = [])|apply evl_cons rfl (by (first|exact v_1|exact v_2|exact v_3|exact v_4|exact v_5|exact v_6|exact v_7|exact v_8|exact v_9|exact rfl))|exact rfl)))) ?_)
  refine j_end0 ?_
  refine th_n ?_
  refine xc_seq (xc_region ?_)
  refine xr_op rfl rfl (xv_move rfl ?_)
  refine xr_op rfl rfl (xv_nilp rfl ?_)
  refine xr_op rfl rfl (xv_load1 ty125 rfl rfl (by ((repeat first|exact z_0|assumption|refine z_1 ?_|(refine z_l ?_;(repeat first|exact z_0|assumption|refine z_1 ?_);done)|refine z_r ?_);done)) (by rfl) ?_)
  refine xr_op rfl rfl (xv_assign rfl ?_)
  refine xr_end rfl ?_
  refine th_n ?_
  refine xc_ret ?_
  refine body_ret (h' := ((br, .cells ⟨[U (Go.Sort.xorNext w)]⟩ 125) :: L)) rfl (ro_tmp rfl ro_nil) (by (first|((repeat first|exact s_0|exact s_1|exact s_3|refine s_4 ?_|refine s_5 ?_|refine s_6 ?_|refine s_7 ?_);done)|((repeat first|exact s_0|exact s_1|exact s_3|refine s_4 ?_|refine s_5 ?_|refine s_6 ?_|refine s_8 ?_);done))) ?_
  exact H

end Go.Proofs.YtckaaaebegemoaaDoor
