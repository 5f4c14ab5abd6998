/-
  Walks.
-/
import Derived.Test.YtmaldhbjhomdkaaCoalW8
import Derived.Test.YtmaldhbjhomdkaaHT
import Derived.Test.YtmaldhbjhomdkaaHW
import Derived.Test.YtmaldhbjhomdkaaCoalP12
import Derived.Test.YtmaldhbjhomdkaaCoalW3
namespace Go.Proofs.Ytmaldhbjhomdkaa.Coal
open Go Go.H
set_option maxRecDepth 100000
set_option maxHeartbeats 8000000
set_option linter.all false
theorem order2_c {bb cap N : Nat} {sp : List Value} {d : Array Share} {f : Value} {cm : Share → Share → Int} {p : Share → Prop} {L : Hp} {R : Ending → Hp → Prop} (hA : Arr N p d) (hN : N ≤ 49) (hf : ∀ x y, p x → p y → ∀ H R', L ⊆ H → R' (.returned (I (cm x y))) H → AFn Try.prog f [.agg ⟨eShare x⟩, .agg ⟨eShare y⟩] H R') {bs a b s : Nat} {ai bi : Int} (ea : ai = a) (eb : bi = b) (ha : a < N) (hb : b < N) (hs : s ≤ 1000) (H : R (.returned (.tuple ⟨[I (Go.Sort.order2 (ltc cm) d a b s).1, I (Go.Sort.order2 (ltc cm) d a b s).2.1]⟩)) ((bs, .cells ⟨[I (Go.Sort.order2 (ltc cm) d a b s).2.2]⟩ 3) :: (bb, .cells ⟨(d).toList.flatMap eShare ++ sp⟩ 76) :: L)) :
    ACalls Try.prog 89 ⟨[.slice (some ⟨bb, 0, none⟩) N cap, I ai, I bi, .pointer (some ⟨bs, 0, none⟩), f]⟩ ((bs, .cells ⟨[I s]⟩ 3) :: (bb, .cells ⟨(d).toList.flatMap eShare ++ sp⟩ 76) :: L) R := by
  subst ea eb
  refine calls_of_xc (N := 32) Try.func89 rfl (by rfl) ?_
  refine xc_seq (xc_region ?_)
  refine xr_op rfl rfl (xv_assign rfl ?_)
  refine xr_op rfl rfl (xv_assign rfl ?_)
  refine xr_end rfl ?_
  refine th_n ?_
  refine xc_seq ?_
  refine xc_seq ?_
  refine xc_draw0 [(0, .S), (1, .S), (2, .S), (3, .S), (4, .R), (5, .S), (6, .S), (7, .S), (8, .R), (9, .R), (10, .O)] mixed (by kernel_rfl) ?_
  refine js_S rfl rfl (.inl rfl) (xv_move rfl ⟨rfl, rfl⟩) ?_
  refine js_S rfl rfl (.inl rfl) (xv_move rfl ⟨rfl, rfl⟩) ?_
  refine js_S rfl rfl (.inl rfl) (xv_move rfl ⟨rfl, rfl⟩) ?_
  refine js_S rfl rfl (.inl rfl) (xv_ia (sz := 2) (j := b) sl95 ty93 rfl rfl rfl Om_ Om_ Om_ ⟨rfl, rfl⟩) ?_
  refine js_R0 rfl rfl (.inl rfl) (xv_loadA ty93 rfl rfl Me_ (ca_get eShare_len (k := b) (by rw [hA.size]; (first|omega|(dsimp only at *;omega)|(simp at *;omega)))) rfl ⟨rfl, rfl⟩) ?_
  refine js_S rfl rfl (.inl rfl) (xv_move rfl ⟨rfl, rfl⟩) ?_
  refine js_S rfl rfl (.inl rfl) (xv_move rfl ⟨rfl, rfl⟩) ?_
  refine js_S rfl rfl (.inl rfl) (xv_ia (sz := 2) (j := a) sl95 ty93 rfl rfl rfl Om_ Om_ Om_ ⟨rfl, rfl⟩) ?_
  refine js_R0 rfl rfl (.inl rfl) (xv_loadA ty93 rfl rfl Me_ (ca_get eShare_len (k := a) (by rw [hA.size]; (first|omega|(dsimp only at *;omega)|(simp at *;omega)))) rfl ⟨rfl, rfl⟩) ?_
  refine js_R0 rfl rfl (.inl rfl) (xv_fn rfl rfl (hf _ _ (hA.all _ Om_) (hA.all _ Om_) _ _ (by intro z hz; ((repeat first|exact z_0|assumption|refine z_1 ?_|(refine z_l ?_;(repeat first|exact z_0|assumption|refine z_1 ?_);done)|refine z_r ?_);done)) (up_ret ⟨rfl, rfl⟩))) ?_
  refine js_O0 rfl rfl (.inl rfl) (xv_lss2 rfl rfl (fun hq => ?_) (fun hq => ?_))
  · refine j_end0 ?_
    refine th_n ?_
    refine xc_true rfl ?_
    refine xc_seq (xc_region ?_)
    refine xr_op rfl rfl (xv_move rfl ?_)
    refine xr_op rfl rfl (xv_nilp rfl ?_)
    refine xr_op rfl rfl (xv_load1 ty3 rfl rfl Me_ (by rfl) ?_)
    refine xr_op rfl rfl (xv_add rfl rfl (wrap_i64 Om_ Om_) ?_)
    refine xr_op rfl rfl (xv_nilp rfl ?_)
    refine xr_op rfl rfl (xv_s1 ty3 rfl rfl rfl Up_ One_ Len_ Ev_ ?_)
    refine xr_end rfl ?_
    refine th_n ?_
    refine xc_seq (xc_region ?_)
    refine xr_op rfl rfl (xv_move rfl ?_)
    refine xr_op rfl rfl (xv_move rfl ?_)
    refine xr_op rfl rfl (xv_assign rfl ?_)
    refine xr_op rfl rfl (xv_assign rfl ?_)
    refine xr_end rfl ?_
    refine th_n ?_
    refine xc_ret ?_
    refine th_r ?_
    refine body_ret (h' := ((bs, .cells ⟨[I ((s : Int) + 1)]⟩ 3) :: (bb, .cells ⟨(d).toList.flatMap eShare ++ sp⟩ 76) :: L)) rfl (ro_tmp rfl (ro_tmp rfl ro_nil)) Su_ ?_
    first | (have e : Go.Sort.order2 (ltc cm) d a b s = (b, a, s + 1) := if_pos (ltc_T (by omega)); rw [e] at H; dsimp only at H; rw [show ((s + 1 : Nat) : Int) = (s : Int) + 1 by omega] at H; exact H) | (have e : Go.Sort.order2 (ltc cm) d a b s = (a, b, s) := if_neg (by rw [ltc_F (by omega)]; decide); rw [e] at H; exact H)
  · refine j_end0 ?_
    refine th_n ?_
    refine xc_false rfl ?_
    refine xc_skip ?_
    refine th_n ?_
    refine xc_seq (xc_region ?_)
    refine xr_op rfl rfl (xv_move rfl ?_)
    refine xr_op rfl rfl (xv_move rfl ?_)
    refine xr_op rfl rfl (xv_assign rfl ?_)
    refine xr_op rfl rfl (xv_assign rfl ?_)
    refine xr_end rfl ?_
    refine th_n ?_
    refine xc_ret ?_
    refine body_ret (h' := ((bs, .cells ⟨[I s]⟩ 3) :: (bb, .cells ⟨(d).toList.flatMap eShare ++ sp⟩ 76) :: L)) rfl (ro_tmp rfl (ro_tmp rfl ro_nil)) Su_ ?_
    first | (have e : Go.Sort.order2 (ltc cm) d a b s = (b, a, s + 1) := if_pos (ltc_T (by omega)); rw [e] at H; dsimp only at H; rw [show ((s + 1 : Nat) : Int) = (s : Int) + 1 by omega] at H; exact H) | (have e : Go.Sort.order2 (ltc cm) d a b s = (a, b, s) := if_neg (by rw [ltc_F (by omega)]; decide); rw [e] at H; exact H)

theorem median_c {bb cap N : Nat} {sp : List Value} {d : Array Share} {f : Value} {cm : Share → Share → Int} {p : Share → Prop} {L : Hp} {R : Ending → Hp → Prop} (hA : Arr N p d) (hN : N ≤ 49) (hf : ∀ x y, p x → p y → ∀ H R', L ⊆ H → R' (.returned (I (cm x y))) H → AFn Try.prog f [.agg ⟨eShare x⟩, .agg ⟨eShare y⟩] H R') {bs a b c s : Nat} {ai bi ci : Int} (ea : ai = a) (eb : bi = b) (ec : ci = c) (ha : a < N) (hb : b < N) (hc : c < N) (hs : s ≤ 900) (H : R (.returned (I (Go.Sort.median (ltc cm) d a b c s).1)) ((bs, .cells ⟨[I (Go.Sort.median (ltc cm) d a b c s).2]⟩ 3) :: (bb, .cells ⟨(d).toList.flatMap eShare ++ sp⟩ 76) :: L)) :
    ACalls Try.prog 80 ⟨[.slice (some ⟨bb, 0, none⟩) N cap, I ai, I bi, I ci, .pointer (some ⟨bs, 0, none⟩), f]⟩ ((bs, .cells ⟨[I s]⟩ 3) :: (bb, .cells ⟨(d).toList.flatMap eShare ++ sp⟩ 76) :: L) R := by
  subst ea eb ec
  have h1 := order2_bd (lt := ltc cm) (d := d) (s := s) ha hb
  have h2 := order2_bd (lt := ltc cm) (d := d) (s := (Go.Sort.order2 (ltc cm) d a b s).2.2) h1.2.1 hc
  refine calls_of_xc (N := 41) Try.func80 rfl (by rfl) ?_
  refine xc_seq (xc_region ?_)
  refine xr_op rfl rfl (xv_assign rfl ?_)
  refine xr_end rfl ?_
  refine th_n ?_
  refine xc_seq (xc_region ?_)
  refine xr_op rfl rfl (xv_move rfl ?_)
  refine xr_op rfl rfl (xv_move rfl ?_)
  refine xr_op rfl rfl (xv_move rfl ?_)
  refine xr_op rfl rfl (xv_move rfl ?_)
  refine xr_op rfl rfl (xv_move rfl ?_)
  refine xr_op rfl rfl (xv_calls rfl hb79 (order2_c (a := a) (b := b) (s := s) hA hN hf rfl rfl ha hb (by omega) (up_ret ?_)))
  refine xr_op rfl rfl (xv_move rfl ?_)
  refine xr_op rfl rfl (xv_extract rfl rfl ?_)
  refine xr_op rfl rfl (xv_extract rfl rfl ?_)
  refine xr_op rfl rfl (xv_assign rfl ?_)
  refine xr_op rfl rfl (xv_assign rfl ?_)
  refine xr_end rfl ?_
  refine th_n ?_
  refine xc_seq (xc_region ?_)
  refine xr_op rfl rfl (xv_move rfl ?_)
  refine xr_op rfl rfl (xv_move rfl ?_)
  refine xr_op rfl rfl (xv_move rfl ?_)
  refine xr_op rfl rfl (xv_move rfl ?_)
  refine xr_op rfl rfl (xv_move rfl ?_)
  refine xr_op rfl rfl (xv_calls rfl hb79 (order2_c (a := (Go.Sort.order2 (ltc cm) d a b s).2.1) (b := c) (s := (Go.Sort.order2 (ltc cm) d a b s).2.2) hA hN hf rfl rfl h1.2.1 hc (by omega) (up_ret ?_)))
  refine xr_op rfl rfl (xv_move rfl ?_)
  refine xr_op rfl rfl (xv_extract rfl rfl ?_)
  refine xr_op rfl rfl (xv_extract rfl rfl ?_)
  refine xr_op rfl rfl (xv_assign rfl ?_)
  refine xr_op rfl rfl (xv_assign rfl ?_)
  refine xr_end rfl ?_
  refine th_n ?_
  refine xc_seq (xc_region ?_)
  refine xr_op rfl rfl (xv_move rfl ?_)
  refine xr_op rfl rfl (xv_move rfl ?_)
  refine xr_op rfl rfl (xv_move rfl ?_)
  refine xr_op rfl rfl (xv_move rfl ?_)
  refine xr_op rfl rfl (xv_move rfl ?_)
  refine xr_op rfl rfl (xv_calls rfl hb79 (order2_c (a := (Go.Sort.order2 (ltc cm) d a b s).1) (b := (Go.Sort.order2 (ltc cm) d (Go.Sort.order2 (ltc cm) d a b s).2.1 c (Go.Sort.order2 (ltc cm) d a b s).2.2).1) (s := (Go.Sort.order2 (ltc cm) d (Go.Sort.order2 (ltc cm) d a b s).2.1 c (Go.Sort.order2 (ltc cm) d a b s).2.2).2.2) hA hN hf rfl rfl h1.1 h2.1 (by omega) (up_ret ?_)))
  refine xr_op rfl rfl (xv_move rfl ?_)
  refine xr_op rfl rfl (xv_extract rfl rfl ?_)
  refine xr_op rfl rfl (xv_extract rfl rfl ?_)
  refine xr_op rfl rfl (xv_assign rfl ?_)
  refine xr_op rfl rfl (xv_assign rfl ?_)
  refine xr_end rfl ?_
  refine th_n ?_
  refine xc_seq (xc_region ?_)
  refine xr_op rfl rfl (xv_move rfl ?_)
  refine xr_op rfl rfl (xv_assign rfl ?_)
  refine xr_end rfl ?_
  refine th_n ?_
  refine xc_ret ?_
  refine body_ret (h' := ((bs, .cells ⟨[I (Go.Sort.order2 (ltc cm) d (Go.Sort.order2 (ltc cm) d a b s).1 (Go.Sort.order2 (ltc cm) d (Go.Sort.order2 (ltc cm) d a b s).2.1 c (Go.Sort.order2 (ltc cm) d a b s).2.2).1 (Go.Sort.order2 (ltc cm) d (Go.Sort.order2 (ltc cm) d a b s).2.1 c (Go.Sort.order2 (ltc cm) d a b s).2.2).2.2).2.2]⟩ 3) :: (bb, .cells ⟨(d).toList.flatMap eShare ++ sp⟩ 76) :: L)) rfl (ro_tmp rfl ro_nil) Su_ ?_
  exact H

theorem choose_c {bb cap N : Nat} {sp : List Value} {d : Array Share} {f : Value} {cm : Share → Share → Int} {p : Share → Prop} {L : Hp} {R : Ending → Hp → Prop} (hA : Arr N p d) (hN : N ≤ 49) (hf : ∀ x y, p x → p y → ∀ H R', L ⊆ H → R' (.returned (I (cm x y))) H → AFn Try.prog f [.agg ⟨eShare x⟩, .agg ⟨eShare y⟩] H R') {a b : Nat} {ai bi : Int} (ea : ai = a) (eb : bi = b) (h12 : 12 < b - a) (hb : b ≤ N) (H : R (.returned (.tuple ⟨[I (Go.Sort.choosePivot (ltc cm) d a b).1, I (hintI (Go.Sort.choosePivot (ltc cm) d a b).2)]⟩)) ((bb, .cells ⟨(d).toList.flatMap eShare ++ sp⟩ 76) :: L)) :
    ACalls Try.prog 64 ⟨[.slice (some ⟨bb, 0, none⟩) N cap, I ai, I bi, f]⟩ ((bb, .cells ⟨(d).toList.flatMap eShare ++ sp⟩ 76) :: L) R := by
  subst ea eb
  refine calls_of_xc (N := 63) Try.func64 rfl (by rfl) ?_
  rw [choose_8 (by omega) (by omega)] at H
  dsimp only at H
  refine xc_seq (xc_region ?_)
  refine xr_op rfl rfl (xv_assign rfl ?_)
  refine xr_op rfl rfl (xv_assign rfl ?_)
  refine xr_end rfl ?_
  refine th_n ?_
  refine xc_seq (xc_region ?_)
  refine xr_op rfl rfl (xv_move rfl ?_)
  refine xr_op rfl rfl (xv_move rfl ?_)
  refine xr_op rfl rfl (xv_sub rfl rfl (wrap_i64 Om_ Om_) ?_)
  refine xr_op rfl rfl (xv_assign rfl ?_)
  refine xr_end rfl ?_
  refine th_n ?_
  refine xc_seq (xc_region ?_)
  refine xr_op rfl rfl (xv_alloc ty3 (fun bs hbs => ?_))
  refine xr_end rfl ?_
  refine th_n ?_
  refine xc_seq (xc_region ?_)
  refine xr_op rfl rfl (xv_move rfl ?_)
  refine xr_op rfl rfl (xv_move rfl ?_)
  refine xr_op rfl rfl (xv_quo (c := (((b - a) / 4 : Nat) : Int)) rfl rfl (by omega) (by have e : ((b : Int) - (a : Int)).tdiv 4 = (((b - a) / 4 : Nat) : Int) := quo_nat (n := b - a) (k := 4) (by omega); rw [e]; exact wrap_i64 (by omega) (by omega)) ?_)
  refine xr_op rfl rfl (xv_mul rfl rfl (wrap_i64 Om_ Om_) ?_)
  refine xr_op rfl rfl (xv_add rfl rfl (wrap_i64 Om_ Om_) ?_)
  refine xr_op rfl rfl (xv_assign rfl ?_)
  refine xr_end rfl ?_
  refine th_n ?_
  refine xc_seq (xc_region ?_)
  refine xr_op rfl rfl (xv_move rfl ?_)
  refine xr_op rfl rfl (xv_move rfl ?_)
  refine xr_op rfl rfl (xv_quo (c := (((b - a) / 4 : Nat) : Int)) rfl rfl (by omega) (by have e : ((b : Int) - (a : Int)).tdiv 4 = (((b - a) / 4 : Nat) : Int) := quo_nat (n := b - a) (k := 4) (by omega); rw [e]; exact wrap_i64 (by omega) (by omega)) ?_)
  refine xr_op rfl rfl (xv_mul rfl rfl (wrap_i64 Om_ Om_) ?_)
  refine xr_op rfl rfl (xv_add rfl rfl (wrap_i64 Om_ Om_) ?_)
  refine xr_op rfl rfl (xv_assign rfl ?_)
  refine xr_end rfl ?_
  refine th_n ?_
  refine xc_seq (xc_region ?_)
  refine xr_op rfl rfl (xv_move rfl ?_)
  refine xr_op rfl rfl (xv_move rfl ?_)
  refine xr_op rfl rfl (xv_quo (c := (((b - a) / 4 : Nat) : Int)) rfl rfl (by omega) (by have e : ((b : Int) - (a : Int)).tdiv 4 = (((b - a) / 4 : Nat) : Int) := quo_nat (n := b - a) (k := 4) (by omega); rw [e]; exact wrap_i64 (by omega) (by omega)) ?_)
  refine xr_op rfl rfl (xv_mul rfl rfl (wrap_i64 Om_ Om_) ?_)
  refine xr_op rfl rfl (xv_add rfl rfl (wrap_i64 Om_ Om_) ?_)
  refine xr_op rfl rfl (xv_assign rfl ?_)
  refine xr_end rfl ?_
  refine th_n ?_
  refine xc_seq ?_
  refine xc_seq (xc_region ?_)
  refine xr_op rfl rfl (xv_move rfl ?_)
  refine xr_op rfl rfl (xv_cmpK rfl rfl (cmpT (by simp only [cmpP]; omega)) ?_)
  refine xr_end rfl ?_
  refine th_n ?_
  refine xc_true rfl ?_
  refine xc_seq ?_
  refine xc_seq (xc_region ?_)
  refine xr_op rfl rfl (xv_move rfl ?_)
  refine xr_op rfl rfl (xv_cmpK rfl rfl (cmpF rfl (by simp only [cmpP]; omega)) ?_)
  refine xr_end rfl ?_
  refine th_n ?_
  refine xc_false rfl ?_
  refine xc_skip ?_
  refine th_n ?_
  refine xc_region ?_
  refine xr_op rfl rfl (xv_move rfl ?_)
  refine xr_op rfl rfl (xv_move rfl ?_)
  refine xr_op rfl rfl (xv_move rfl ?_)
  refine xr_op rfl rfl (xv_move rfl ?_)
  refine xr_op rfl rfl (xv_move rfl ?_)
  refine xr_op rfl rfl (xv_calls rfl hb78 (median_c (a := a + ((b - a) / 4) * 1) (b := a + ((b - a) / 4) * 2) (c := a + ((b - a) / 4) * 3) (s := 0) hA hN hf (by omega) (by omega) (by omega) (by omega) (by omega) (by omega) (by omega) (up_ret ?_)))
  refine xr_op rfl rfl (xv_assign rfl ?_)
  refine xr_end rfl ?_
  refine th_n ?_
  refine xc_seq (xc_region ?_)
  refine xr_op rfl rfl (xv_load1 ty3 rfl rfl Me_ (by rfl) ?_)
  refine xr_end rfl ?_
  refine th_n ?_
  refine xc_block ?_
  refine xc_seq (xc_region ?_)
  refine xr_op rfl rfl (xv_eql2 rfl rfl (fun q1 => ?_) (fun q1 => ?_))
  · refine xr_op rfl rfl (xv_assign rfl ?_)
    refine xr_end rfl ?_
    refine th_n ?_
    refine xc_true rfl ?_
    refine xc_seq (xc_region ?_)
    refine xr_op rfl rfl (xv_move rfl ?_)
    refine xr_op rfl rfl (xv_assign rfl ?_)
    refine xr_op rfl rfl (xv_assign rfl ?_)
    refine xr_end rfl ?_
    refine th_n ?_
    refine xc_ret ?_
    refine bk_r ?_
    refine body_ret (h' := ((bb, .cells ⟨(d).toList.flatMap eShare ++ sp⟩ 76) :: L)) rfl (ro_tmp rfl (ro_tmp rfl ro_nil)) Su_ ?_
    (rw [show hintN (Go.Sort.median (ltc cm) d (a + ((b - a) / 4) * 1) (a + ((b - a) / 4) * 2) (a + ((b - a) / 4) * 3) 0).2 = _ from rfl] at H; unfold hintN at H; first | (rw [if_pos (by omega)] at H; exact H) | (rw [if_neg (by omega), if_pos (by omega)] at H; exact H) | (rw [if_neg (by omega), if_neg (by omega)] at H; exact H))
  · refine xr_op rfl rfl (xv_assign rfl ?_)
    refine xr_end rfl ?_
    refine th_n ?_
    refine xc_false rfl ?_
    refine xc_seq (xc_region ?_)
    refine xr_op rfl rfl (xv_eql2 rfl rfl (fun q2 => ?_) (fun q2 => ?_))
    · refine xr_op rfl rfl (xv_assign rfl ?_)
      refine xr_end rfl ?_
      refine th_n ?_
      refine xc_true rfl ?_
      refine xc_seq (xc_region ?_)
      refine xr_op rfl rfl (xv_move rfl ?_)
      refine xr_op rfl rfl (xv_assign rfl ?_)
      refine xr_op rfl rfl (xv_assign rfl ?_)
      refine xr_end rfl ?_
      refine th_n ?_
      refine xc_ret ?_
      refine bk_r ?_
      refine body_ret (h' := ((bb, .cells ⟨(d).toList.flatMap eShare ++ sp⟩ 76) :: L)) rfl (ro_tmp rfl (ro_tmp rfl ro_nil)) Su_ ?_
      (rw [show hintN (Go.Sort.median (ltc cm) d (a + ((b - a) / 4) * 1) (a + ((b - a) / 4) * 2) (a + ((b - a) / 4) * 3) 0).2 = _ from rfl] at H; unfold hintN at H; first | (rw [if_pos (by omega)] at H; exact H) | (rw [if_neg (by omega), if_pos (by omega)] at H; exact H) | (rw [if_neg (by omega), if_neg (by omega)] at H; exact H))
    · refine xr_op rfl rfl (xv_assign rfl ?_)
      refine xr_end rfl ?_
      refine th_n ?_
      refine xc_false rfl ?_
      refine xc_seq (xc_region ?_)
      refine xr_op rfl rfl (xv_move rfl ?_)
      refine xr_op rfl rfl (xv_assign rfl ?_)
      refine xr_op rfl rfl (xv_assign rfl ?_)
      refine xr_end rfl ?_
      refine th_n ?_
      refine xc_ret ?_
      refine bk_r ?_
      refine body_ret (h' := ((bb, .cells ⟨(d).toList.flatMap eShare ++ sp⟩ 76) :: L)) rfl (ro_tmp rfl (ro_tmp rfl ro_nil)) Su_ ?_
      (rw [show hintN (Go.Sort.median (ltc cm) d (a + ((b - a) / 4) * 1) (a + ((b - a) / 4) * 2) (a + ((b - a) / 4) * 3) 0).2 = _ from rfl] at H; unfold hintN at H; first | (rw [if_pos (by omega)] at H; exact H) | (rw [if_neg (by omega), if_pos (by omega)] at H; exact H) | (rw [if_neg (by omega), if_neg (by omega)] at H; exact H))

theorem len64_c {n : Nat} {h : Hp} {R : Ending → Hp → Prop} (hn : n ≤ 49) (H : R (.returned (I (Go.Sort.bitsLen n : Nat))) h) : ACalls Try.prog 70 ⟨[.int .u64 n]⟩ h R := by
  refine calls_of_xc (N := 25) Try.func70 rfl (by rfl) ?_
  have hbl := len8 hn
  refine xc_seq (xc_region ?_)
  refine xr_op rfl rfl (xv_assign rfl ?_)
  refine xr_end rfl ?_
  refine th_n ?_
  refine xc_seq ?_
  refine xc_seq (xc_region ?_)
  refine xr_op rfl rfl (xv_move rfl ?_)
  refine xr_op rfl rfl (xv_cmpK rfl rfl (cmpF rfl (by simp only [cmpP]; omega)) ?_)
  refine xr_end rfl ?_
  refine th_n ?_
  refine xc_false rfl ?_
  refine xc_skip ?_
  refine th_n ?_
  refine xc_seq ?_
  refine xc_seq (xc_region ?_)
  refine xr_op rfl rfl (xv_move rfl ?_)
  refine xr_op rfl rfl (xv_cmpK rfl rfl (cmpF rfl (by simp only [cmpP]; omega)) ?_)
  refine xr_end rfl ?_
  refine th_n ?_
  refine xc_false rfl ?_
  refine xc_skip ?_
  refine th_n ?_
  refine xc_seq ?_
  refine xc_seq (xc_region ?_)
  refine xr_op rfl rfl (xv_move rfl ?_)
  refine xr_op rfl rfl (xv_cmpK rfl rfl (cmpF rfl (by simp only [cmpP]; omega)) ?_)
  refine xr_end rfl ?_
  refine th_n ?_
  refine xc_false rfl ?_
  refine xc_skip ?_
  refine th_n ?_
  refine xc_seq (xc_region ?_)
  refine xr_op rfl rfl (xv_move rfl ?_)
  refine xr_op rfl rfl (xv_move rfl ?_)
  refine xr_op rfl rfl (xv_convI (m := (n : Int)) Try.underlying138 Try.underlying5 rfl (wrap_u8 (by omega) (by omega)) ?_)
  refine xr_op rfl rfl (xv_indexT (m := 50) (f := Go.Sort.bitsLen) Try.underlying9 rfl rfl (by omega) (by omega) (by kernel_rfl) ?_)
  refine xr_op rfl rfl (xv_convI (m := ((Go.Sort.bitsLen n : Nat) : Int)) Try.underlying5 Try.underlying3 rfl (by rw [Int.toNat_natCast, hbl.1]; exact wrap_i64 (by omega) (by omega)) ?_)
  refine xr_op rfl rfl (xv_add rfl rfl (wrap_i64 Om_ Om_) ?_)
  refine xr_op rfl rfl (xv_assign rfl ?_)
  refine xr_end rfl ?_
  refine th_n ?_
  refine xc_ret ?_
  refine body_ret (h' := h) rfl (ro_tmp rfl ro_nil) Su_ ?_
  (rw [← Int.zero_add ((Go.Sort.bitsLen n : Nat) : Int)] at H; exact H)

theorem len_c {n : Nat} {ni : Int} {h : Hp} {R : Ending → Hp → Prop} (en : ni = n) (hn : n ≤ 49) (H : R (.returned (I (Go.Sort.bitsLen n : Nat))) h) : ACalls Try.prog 41 ⟨[.int .u64 ni]⟩ h R := by
  subst en
  refine calls_of_xc (N := 8) Try.func41 rfl (by rfl) ?_
  refine xc_seq (xc_region ?_)
  refine xr_op rfl rfl (xv_assign rfl ?_)
  refine xr_end rfl ?_
  refine th_n ?_
  refine xc_seq ?_
  refine xc_false rfl ?_
  refine xc_skip ?_
  refine th_n ?_
  refine xc_seq (xc_region ?_)
  refine xr_op rfl rfl (xv_move rfl ?_)
  refine xr_op rfl rfl (xv_calls rfl hb72 (len64_c hn (up_ret ?_)))
  refine xr_op rfl rfl (xv_assign rfl ?_)
  refine xr_end rfl ?_
  refine th_n ?_
  refine xc_ret ?_
  refine body_ret (h' := h) rfl (ro_tmp rfl ro_nil) Su_ ?_
  exact H

theorem npow_c {n : Nat} {ni : Int} {h : Hp} {R : Ending → Hp → Prop} (en : ni = n) (hn : n ≤ 49) (H : R (.returned (U ((1 : UInt64) <<< UInt64.ofNat (Go.Sort.bitsLen n)))) h) : ACalls Try.prog 77 ⟨[I ni]⟩ h R := by
  subst en
  refine calls_of_xc (N := 7) Try.func77 rfl (by rfl) ?_
  have hbl := len8 hn
  refine xc_seq (xc_region ?_)
  refine xr_op rfl rfl (xv_assign rfl ?_)
  refine xr_end rfl ?_
  refine th_n ?_
  refine xc_seq (xc_region ?_)
  refine xr_op rfl rfl (xv_move rfl ?_)
  refine xr_op rfl rfl (xv_convI (m := (n : Int)) Try.underlying3 Try.underlying107 rfl (wrap_u64 (by omega) (by omega)) ?_)
  refine xr_op rfl rfl (xv_calls rfl hb59 (len_c rfl hn (up_ret ?_)))
  refine xr_op rfl rfl (xv_shlU (w := 1) (s := Go.Sort.bitsLen n) rfl rfl (by omega) rfl ?_)
  refine xr_op rfl rfl (xv_assign rfl ?_)
  refine xr_end rfl ?_
  refine th_n ?_
  refine xc_ret ?_
  refine body_ret (h' := h) rfl (ro_tmp rfl ro_nil) Su_ ?_
  exact H

theorem next_c {br : Nat} {w : UInt64} {L : Hp} {R : Ending → Hp → Prop} (H : R (.returned (U (Go.Sort.xorNext w))) ((br, .cells ⟨[U (Go.Sort.xorNext w)]⟩ 145) :: L)) : ACalls Try.prog 78 ⟨[.pointer (some ⟨br, 0, none⟩)]⟩ ((br, .cells ⟨[U w]⟩ 145) :: L) R := by
  refine calls_of_xc (N := 33) Try.func78 rfl (by rfl) ?_
  refine xc_seq (xc_region ?_)
  refine xr_op rfl rfl (xv_assign rfl ?_)
  refine xr_end rfl ?_
  refine th_n ?_
  refine xc_seq ?_
  refine xc_draw0 [(0, .S), (1, .S), (2, .R), (3, .S), (4, .S), (5, .R), (6, .S), (7, .S), (8, .S), (9, .O)] mixed (by kernel_rfl) ?_
  refine js_S rfl rfl (.inl rfl) (xv_move rfl ⟨rfl, rfl⟩) ?_
  refine js_S rfl rfl (.inl rfl) (xv_nilp rfl ⟨rfl, rfl⟩) ?_
  refine js_R0 rfl rfl (.inl rfl) (xv_load1 ty129 rfl rfl Me_ (by rfl) ⟨rfl, rfl⟩) ?_
  refine js_S rfl rfl (.inl rfl) (xv_move rfl ⟨rfl, rfl⟩) ?_
  refine js_S rfl rfl (.inl rfl) (xv_nilp rfl ⟨rfl, rfl⟩) ?_
  refine js_R0 rfl rfl (.inl rfl) (xv_load1 ty129 rfl rfl Me_ (by rfl) ⟨rfl, rfl⟩) ?_
  refine js_S rfl rfl (.inl rfl) (xv_shlU (s := 13) rfl rfl (by decide) rfl ⟨rfl, rfl⟩) ?_
  refine js_S rfl rfl (.inl rfl) (xv_xorU rfl rfl rfl ⟨rfl, rfl⟩) ?_
  refine js_S rfl rfl (.inl rfl) (xv_nilp rfl ⟨rfl, rfl⟩) ?_
  refine js_O0 rfl rfl (.inl rfl) (xv_s1 ty129 rfl rfl rfl Up_ One_ Len_ Ev_ ?_)
  refine j_end0 ?_
  refine th_n ?_
  refine xc_seq ?_
  refine xc_draw0 [(0, .S), (1, .S), (2, .R), (3, .S), (4, .S), (5, .R), (6, .S), (7, .S), (8, .S), (9, .O)] mixed (by kernel_rfl) ?_
  refine js_S rfl rfl (.inl rfl) (xv_move rfl ⟨rfl, rfl⟩) ?_
  refine js_S rfl rfl (.inl rfl) (xv_nilp rfl ⟨rfl, rfl⟩) ?_
  refine js_R0 rfl rfl (.inl rfl) (xv_load1 ty129 rfl rfl Me_ (by rfl) ⟨rfl, rfl⟩) ?_
  refine js_S rfl rfl (.inl rfl) (xv_move rfl ⟨rfl, rfl⟩) ?_
  refine js_S rfl rfl (.inl rfl) (xv_nilp rfl ⟨rfl, rfl⟩) ?_
  refine js_R0 rfl rfl (.inl rfl) (xv_load1 ty129 rfl rfl Me_ (by rfl) ⟨rfl, rfl⟩) ?_
  refine js_S rfl rfl (.inl rfl) (xv_shrU (s := 7) rfl rfl (by decide) rfl ⟨rfl, rfl⟩) ?_
  refine js_S rfl rfl (.inl rfl) (xv_xorU rfl rfl rfl ⟨rfl, rfl⟩) ?_
  refine js_S rfl rfl (.inl rfl) (xv_nilp rfl ⟨rfl, rfl⟩) ?_
  refine js_O0 rfl rfl (.inl rfl) (xv_s1 ty129 rfl rfl rfl Up_ One_ Len_ Ev_ ?_)
  refine j_end0 ?_
  refine th_n ?_
  refine xc_seq ?_
  refine xc_draw0 [(0, .S), (1, .S), (2, .R), (3, .S), (4, .S), (5, .R), (6, .S), (7, .S), (8, .S), (9, .O)] mixed (by kernel_rfl) ?_
  refine js_S rfl rfl (.inl rfl) (xv_move rfl ⟨rfl, rfl⟩) ?_
  refine js_S rfl rfl (.inl rfl) (xv_nilp rfl ⟨rfl, rfl⟩) ?_
  refine js_R0 rfl rfl (.inl rfl) (xv_load1 ty129 rfl rfl Me_ (by rfl) ⟨rfl, rfl⟩) ?_
  refine js_S rfl rfl (.inl rfl) (xv_move rfl ⟨rfl, rfl⟩) ?_
  refine js_S rfl rfl (.inl rfl) (xv_nilp rfl ⟨rfl, rfl⟩) ?_
  refine js_R0 rfl rfl (.inl rfl) (xv_load1 ty129 rfl rfl Me_ (by rfl) ⟨rfl, rfl⟩) ?_
  refine js_S rfl rfl (.inl rfl) (xv_shlU (s := 17) rfl rfl (by decide) rfl ⟨rfl, rfl⟩) ?_
  refine js_S rfl rfl (.inl rfl) (xv_xorU rfl rfl rfl ⟨rfl, rfl⟩) ?_
  refine js_S rfl rfl (.inl rfl) (xv_nilp rfl ⟨rfl, rfl⟩) ?_
  refine js_O0 rfl rfl (.inl rfl) (xv_s1 ty129 rfl rfl rfl Up_ One_ Len_ Ev_ ?_)
  refine j_end0 ?_
  refine th_n ?_
  refine xc_seq (xc_region ?_)
  refine xr_op rfl rfl (xv_move rfl ?_)
  refine xr_op rfl rfl (xv_nilp rfl ?_)
  refine xr_op rfl rfl (xv_load1 ty129 rfl rfl Me_ (by rfl) ?_)
  refine xr_op rfl rfl (xv_assign rfl ?_)
  refine xr_end rfl ?_
  refine th_n ?_
  refine xc_ret ?_
  refine body_ret (h' := ((br, .cells ⟨[U (Go.Sort.xorNext w)]⟩ 145) :: L)) rfl (ro_tmp rfl ro_nil) Su_ ?_
  exact H

theorem brk_c {bb cap N : Nat} {sp : List Value} {d : Array Share} {f : Value} {cm : Share → Share → Int} {p : Share → Prop} {L : Hp} {R : Ending → Hp → Prop} (hA : Arr N p d) (hN : N ≤ 49) {a b : Nat} {ai bi : Int} (ea : ai = a) (eb : bi = b) (h12 : 12 < b - a) (hb : b ≤ N) (H : Arr N p (Go.Sort.breakPatterns d a b) → R (.returned (.tuple #[])) ((bb, .cells ⟨(Go.Sort.breakPatterns d a b).toList.flatMap eShare ++ sp⟩ 76) :: L)) :
    ACalls Try.prog 63 ⟨[.slice (some ⟨bb, 0, none⟩) N cap, I ai, I bi, f]⟩ ((bb, .cells ⟨(d).toList.flatMap eShare ++ sp⟩ 76) :: L) R := by
  subst ea eb
  refine calls_of_xc (N := 67) Try.func63 rfl (by rfl) ?_
  have hmf := mod_facts (n := b - a) (by omega) (by omega)
  have hU : ((UInt64.ofNat (b - a)).toNat : Int) = (b : Int) - a := by rw [UInt64.toNat_ofNat']; omega
  have hM1 : ((((1 : UInt64) <<< UInt64.ofNat (Go.Sort.bitsLen (b - a))) - 1).toNat : Int) = (((1 : UInt64) <<< UInt64.ofNat (Go.Sort.bitsLen (b - a))).toNat : Int) - 1 := by rw [UInt64.toNat_sub_of_le _ _ (by rw [UInt64.le_iff_toNat_le, hmf.1]; show 1 ≤ _; omega)]; show (((_ - 1 : Nat)) : Int) = _; omega
  have hres := brk_res (d := d) (a := a) (b := b) (by omega)
  refine xc_seq (xc_region ?_)
  refine xr_op rfl rfl (xv_move rfl ?_)
  refine xr_op rfl rfl (xv_move rfl ?_)
  refine xr_op rfl rfl (xv_sub rfl rfl (wrap_i64 Om_ Om_) ?_)
  refine xr_op rfl rfl (xv_assign rfl ?_)
  refine xr_end rfl ?_
  refine th_n ?_
  refine xc_seq (xc_region ?_)
  refine xr_op rfl rfl (xv_move rfl ?_)
  refine xr_op rfl rfl (xv_cmpK rfl rfl (cmpT (by simp only [cmpP]; omega)) ?_)
  refine xr_end rfl ?_
  refine th_n ?_
  refine xc_true rfl ?_
  refine xc_seq (xc_region ?_)
  refine xr_op rfl rfl (xv_move rfl ?_)
  refine xr_op rfl rfl (xv_convI (m := ((UInt64.ofNat (b - a)).toNat : Int)) Try.underlying3 Try.underlying145 rfl (by rw [hU]; exact wrap_u64 (by omega) (by omega)) ?_)
  refine xr_op rfl rfl (xv_alloc ty129 (fun br hbr => ?_))
  refine xr_op rfl rfl (xv_s1 ty129 rfl rfl rfl Up_ One_ Len_ Ev_ ?_)
  refine xr_end rfl ?_
  refine th_n ?_
  refine xc_seq (xc_region ?_)
  refine xr_op rfl rfl (xv_move rfl ?_)
  refine xr_op rfl rfl (xv_calls rfl hb75 (npow_c (n := b - a) (by omega) (by omega) (up_ret ?_)))
  refine xr_op rfl rfl (xv_assign rfl ?_)
  refine xr_end rfl ?_
  refine th_n ?_
  refine xc_seq (xc_region ?_)
  refine xr_op rfl rfl (xv_move rfl ?_)
  refine xr_op rfl rfl (xv_move rfl ?_)
  refine xr_op rfl rfl (xv_quo (c := (((b - a) / 4 : Nat) : Int)) rfl rfl (by omega) (by have e : ((b : Int) - (a : Int)).tdiv 4 = (((b - a) / 4 : Nat) : Int) := quo_nat (n := b - a) (k := 4) (by omega); rw [e]; exact wrap_i64 (by omega) (by omega)) ?_)
  refine xr_op rfl rfl (xv_mul rfl rfl (wrap_i64 Om_ Om_) ?_)
  refine xr_op rfl rfl (xv_add rfl rfl (wrap_i64 Om_ Om_) ?_)
  refine xr_op rfl rfl (xv_sub rfl rfl (wrap_i64 Om_ Om_) ?_)
  refine xr_op rfl rfl (xv_assign rfl ?_)
  refine xr_end rfl ?_
  refine th_n ?_
  refine xc_block ?_
  refine xc_loop (σ := Nat × UInt64 × Array Share) (fun z => z.1 ≤ 3 ∧ Arr N p z.2.2 ∧ (z.2.1, z.2.2) = brkN a (b - a) (1 <<< Go.Sort.bitsLen (b - a)) (UInt64.ofNat (b - a), d) (a + (b - a) / 4 * 2 - 1) z.1) (fun z => ((((((emp.put (some 0) (.slice (some ⟨bb, 0, none⟩) N cap)).put (some 1) (I a)).put (some 8) (I ((b : Int) - a))).put (some 9) (.pointer (some ⟨br, 0, none⟩))).put (some 10) (U ((1 : UInt64) <<< UInt64.ofNat (Go.Sort.bitsLen (b - a))))).put (some 11) (I ((a : Int) + (((b - a) / 4 : Nat) : Int) * 2 - 1 + z.1)))) (fun z => ((br, .cells ⟨[U z.2.1]⟩ 145) :: (bb, .cells ⟨(z.2.2).toList.flatMap eShare ++ sp⟩ 76) :: L)) (fun z => 3 - z.1) ((0, UInt64.ofNat (b - a), d) : Nat × UInt64 × Array Share) ⟨Nat.zero_le _, hA, rfl⟩ (le_put (le_put (le_put (le_put (le_put (le_put (le_emp _) rfl) rfl) rfl) rfl) rfl) (by dsimp only; rw [Int.natCast_zero, Int.add_zero]; rfl)) Su_ ?_
  rintro ⟨k, w, d1⟩ ⟨hk, hA1, heq⟩
  dsimp only at hk hA1 heq
  refine xc_seq ?_
  refine xc_seq (xc_region ?_)
  refine xr_op rfl rfl (xv_move rfl ?_)
  refine xr_op rfl rfl (xv_move rfl ?_)
  refine xr_op rfl rfl (xv_move rfl ?_)
  refine xr_op rfl rfl (xv_quo (c := (((b - a) / 4 : Nat) : Int)) rfl rfl (by omega) (by have e : ((b : Int) - (a : Int)).tdiv 4 = (((b - a) / 4 : Nat) : Int) := quo_nat (n := b - a) (k := 4) (by omega); rw [e]; exact wrap_i64 (by omega) (by omega)) ?_)
  refine xr_op rfl rfl (xv_mul rfl rfl (wrap_i64 Om_ Om_) ?_)
  refine xr_op rfl rfl (xv_add rfl rfl (wrap_i64 Om_ Om_) ?_)
  refine xr_op rfl rfl (xv_add rfl rfl (wrap_i64 Om_ Om_) ?_)
  refine xr_op rfl rfl (xv_leq2 rfl rfl (fun q1 => ?_) (fun q1 => ?_))
  · refine xr_end rfl ?_
    refine th_n ?_
    refine xc_true rfl ?_
    refine xc_skip ?_
    refine th_n ?_
    refine xc_seq ?_
    refine xc_block ?_
    refine xc_seq (xc_region ?_)
    have hM1n : (((1 : UInt64) <<< UInt64.ofNat (Go.Sort.bitsLen (b - a))) - 1).toNat = (1 <<< Go.Sort.bitsLen (b - a)) - 1 := by rw [← hmf.1]; omega
    obtain ⟨o, ho⟩ : ∃ o : Nat, o = ((Go.Sort.xorNext w) &&& (((1 : UInt64) <<< UInt64.ofNat (Go.Sort.bitsLen (b - a))) - 1)).toNat := ⟨_, rfl⟩
    have hom : o ≤ (1 <<< Go.Sort.bitsLen (b - a)) - 1 := by rw [ho, UInt64.toNat_and, hM1n]; exact Nat.and_le_right
    refine xr_op rfl rfl (xv_calls rfl hb76 (next_c (w := w) (up_ret ?_)))
    refine xr_op rfl rfl (xv_move rfl ?_)
    refine xr_op rfl rfl (xv_sub (c := ((((1 : UInt64) <<< UInt64.ofNat (Go.Sort.bitsLen (b - a))) - 1).toNat : Int)) rfl rfl (by rw [hM1]; exact wrap_u64 (by rw [hmf.1]; omega) (by rw [hmf.1]; omega)) ?_)
    refine xr_op rfl rfl (xv_andU rfl rfl rfl ?_)
    refine xr_op rfl rfl (xv_convI (m := (o : Int)) Try.underlying107 Try.underlying3 rfl (by rw [← ho]; exact wrap_i64 (by omega) (by omega)) ?_)
    refine xr_op rfl rfl (xv_assign rfl ?_)
    refine xr_end rfl ?_
    refine th_n ?_
    refine xc_seq ?_
    refine xc_seq (xc_region ?_)
    refine xr_op rfl rfl (xv_move rfl ?_)
    refine xr_op rfl rfl (xv_move rfl ?_)
    refine xr_op rfl rfl (xv_geq2 rfl rfl (fun q2 => ?_) (fun q2 => ?_))
    · refine xr_end rfl ?_
      refine th_n ?_
      refine xc_true rfl ?_
      refine xc_region ?_
      refine xr_op rfl rfl (xv_move rfl ?_)
      refine xr_op rfl rfl (xv_move rfl ?_)
      refine xr_op rfl rfl (xv_sub rfl rfl (wrap_i64 Om_ Om_) ?_)
      refine xr_op rfl rfl (xv_assign rfl ?_)
      refine xr_end rfl ?_
      refine th_n ?_
      refine xc_draw0 [(0, .S), (1, .S), (2, .S), (3, .S), (4, .S), (5, .S), (6, .S), (7, .S), (8, .S), (9, .S), (10, .S), (11, .R), (12, .S), (13, .S), (14, .S), (15, .R), (16, .S), (17, .O), (18, .S), (19, .O)] mixed (by kernel_rfl) ?_
      refine js_S rfl rfl (.inl rfl) (xv_move rfl ⟨rfl, rfl⟩) ?_
      refine js_S rfl rfl (.inl rfl) (xv_move rfl ⟨rfl, rfl⟩) ?_
      refine js_S rfl rfl (.inl rfl) (xv_move rfl ⟨rfl, rfl⟩) ?_
      refine js_S rfl rfl (.inl rfl) (xv_move rfl ⟨rfl, rfl⟩) ?_
      refine js_S rfl rfl (.inl rfl) (xv_move rfl ⟨rfl, rfl⟩) ?_
      refine js_S rfl rfl (.inl rfl) (xv_add rfl rfl (wrap_i64 Om_ Om_) ⟨rfl, rfl⟩) ?_
      refine js_S rfl rfl (.inl rfl) (xv_move rfl ⟨rfl, rfl⟩) ?_
      refine js_S rfl rfl (.inl rfl) (xv_move rfl ⟨rfl, rfl⟩) ?_
      refine js_S rfl rfl (.inl rfl) (xv_move rfl ⟨rfl, rfl⟩) ?_
      refine js_S rfl rfl (.inl rfl) (xv_add rfl rfl (wrap_i64 Om_ Om_) ⟨rfl, rfl⟩) ?_
      refine js_S rfl rfl (.inl rfl) (xv_ia (sz := 2) (j := (a + (o - (b - a)))) sl95 ty93 rfl rfl rfl Om_ Om_ Om_ ⟨rfl, rfl⟩) ?_
      refine js_R0 rfl rfl (.inl rfl) (xv_loadA ty93 rfl rfl Me_ (ca_get eShare_len (k := (a + (o - (b - a)))) (by rw [hA1.size]; (first|omega|(dsimp only at *;omega)|(simp at *;omega)))) rfl ⟨rfl, rfl⟩) ?_
      refine js_S rfl rfl (.inl rfl) (xv_move rfl ⟨rfl, rfl⟩) ?_
      refine js_S rfl rfl (.inl rfl) (xv_move rfl ⟨rfl, rfl⟩) ?_
      refine js_S rfl rfl (.inl rfl) (xv_ia (sz := 2) (j := ((a + (b - a) / 4 * 2 - 1) + k)) sl95 ty93 rfl rfl rfl Om_ Om_ Om_ ⟨rfl, rfl⟩) ?_
      refine js_R0 rfl rfl (.inl rfl) (xv_loadA ty93 rfl rfl Me_ (ca_get eShare_len (k := ((a + (b - a) / 4 * 2 - 1) + k)) (by rw [hA1.size]; (first|omega|(dsimp only at *;omega)|(simp at *;omega)))) rfl ⟨rfl, rfl⟩) ?_
      refine js_S rfl rfl (.inl rfl) (xv_ia (sz := 2) (j := ((a + (b - a) / 4 * 2 - 1) + k)) sl95 ty93 rfl rfl rfl Om_ Om_ Om_ ⟨rfl, rfl⟩) ?_
      refine js_O0 rfl rfl (.inl rfl) (xv_s ty93 rfl rfl Up_ rfl (by rfl) (by rfl) (ca_room eShare_len (k := ((a + (b - a) / 4 * 2 - 1) + k)) (by rw [hA1.size]; (first|omega|(dsimp only at *;omega)|(simp at *;omega)))) (ca_splice eShare_len (k := ((a + (b - a) / 4 * 2 - 1) + k)) (by rw [hA1.size]; (first|omega|(dsimp only at *;omega)|(simp at *;omega)))) ?_)
      refine js_S rfl rfl (.inl rfl) (xv_ia (sz := 2) (j := (a + (o - (b - a)))) sl95 ty93 rfl rfl rfl Om_ Om_ Om_ ⟨rfl, rfl⟩) ?_
      refine js_O0 rfl rfl (.inl rfl) (xv_s ty93 rfl rfl Up_ rfl (by rfl) (by rfl) (ca_room eShare_len (k := (a + (o - (b - a)))) (by rw [Array.size_setIfInBounds, hA1.size]; (first|omega|(dsimp only at *;omega)|(simp at *;omega)))) (ca_splice eShare_len (k := (a + (o - (b - a)))) (by rw [Array.size_setIfInBounds, hA1.size]; (first|omega|(dsimp only at *;omega)|(simp at *;omega)))) ?_)
      refine j_end0 ?_
      refine bk_n ?_
      refine th_n ?_
      refine xc_region ?_
      refine xr_op rfl rfl (xv_move rfl ?_)
      refine xr_op rfl rfl (xv_add rfl rfl (wrap_i64 Om_ Om_) ?_)
      refine xr_op rfl rfl (xv_assign rfl ?_)
      refine xr_end rfl ?_
      have hst : brkN a (b - a) (1 <<< Go.Sort.bitsLen (b - a)) (UInt64.ofNat (b - a), d) (a + (b - a) / 4 * 2 - 1) (k + 1) = ((Go.Sort.xorNext w), Go.Sort.swp d1 ((a + (b - a) / 4 * 2 - 1) + k) (a + (o - (b - a)))) := by
        show Go.Sort.breakStep a (b - a) (1 <<< Go.Sort.bitsLen (b - a)) (brkN a (b - a) (1 <<< Go.Sort.bitsLen (b - a)) (UInt64.ofNat (b - a), d) (a + (b - a) / 4 * 2 - 1) k) ((a + (b - a) / 4 * 2 - 1) + k) = _
        rw [← heq]
        unfold Go.Sort.breakStep
        dsimp only
        rw [show (Go.Sort.xorNext w).toNat &&& ((1 <<< Go.Sort.bitsLen (b - a)) - 1) = o by rw [ho, UInt64.toNat_and, hM1n]]
        first | rw [if_pos Om_] | rw [if_neg Om_]
      exact rnd ((k + 1, (Go.Sort.xorNext w), Go.Sort.swp d1 ((a + (b - a) / 4 * 2 - 1) + k) (a + (o - (b - a)))) : Nat × UInt64 × Array Share) ⟨by (first|omega|(dsimp only at *;omega)|(simp at *;omega)), hA1.swp Om_ Om_, hst.symm⟩ Om_ (le_put (le_put (le_put (le_put (le_put (le_put (le_emp _) rfl) rfl) rfl) rfl) rfl) (by dsimp only; rw [show ((a : Int) + (((b - a) / 4 : Nat) : Int) * 2 - 1 + ((k + 1 : Nat) : Int)) = (a : Int) + (((b - a) / 4 : Nat) : Int) * 2 - 1 + (k : Int) + 1 by omega]; rfl)) Su_
    · refine xr_end rfl ?_
      refine th_n ?_
      refine xc_false rfl ?_
      refine xc_skip ?_
      refine th_n ?_
      refine xc_draw0 [(0, .S), (1, .S), (2, .S), (3, .S), (4, .S), (5, .S), (6, .S), (7, .S), (8, .S), (9, .S), (10, .S), (11, .R), (12, .S), (13, .S), (14, .S), (15, .R), (16, .S), (17, .O), (18, .S), (19, .O)] mixed (by kernel_rfl) ?_
      refine js_S rfl rfl (.inl rfl) (xv_move rfl ⟨rfl, rfl⟩) ?_
      refine js_S rfl rfl (.inl rfl) (xv_move rfl ⟨rfl, rfl⟩) ?_
      refine js_S rfl rfl (.inl rfl) (xv_move rfl ⟨rfl, rfl⟩) ?_
      refine js_S rfl rfl (.inl rfl) (xv_move rfl ⟨rfl, rfl⟩) ?_
      refine js_S rfl rfl (.inl rfl) (xv_move rfl ⟨rfl, rfl⟩) ?_
      refine js_S rfl rfl (.inl rfl) (xv_add rfl rfl (wrap_i64 Om_ Om_) ⟨rfl, rfl⟩) ?_
      refine js_S rfl rfl (.inl rfl) (xv_move rfl ⟨rfl, rfl⟩) ?_
      refine js_S rfl rfl (.inl rfl) (xv_move rfl ⟨rfl, rfl⟩) ?_
      refine js_S rfl rfl (.inl rfl) (xv_move rfl ⟨rfl, rfl⟩) ?_
      refine js_S rfl rfl (.inl rfl) (xv_add rfl rfl (wrap_i64 Om_ Om_) ⟨rfl, rfl⟩) ?_
      refine js_S rfl rfl (.inl rfl) (xv_ia (sz := 2) (j := (a + o)) sl95 ty93 rfl rfl rfl Om_ Om_ Om_ ⟨rfl, rfl⟩) ?_
      refine js_R0 rfl rfl (.inl rfl) (xv_loadA ty93 rfl rfl Me_ (ca_get eShare_len (k := (a + o)) (by rw [hA1.size]; (first|omega|(dsimp only at *;omega)|(simp at *;omega)))) rfl ⟨rfl, rfl⟩) ?_
      refine js_S rfl rfl (.inl rfl) (xv_move rfl ⟨rfl, rfl⟩) ?_
      refine js_S rfl rfl (.inl rfl) (xv_move rfl ⟨rfl, rfl⟩) ?_
      refine js_S rfl rfl (.inl rfl) (xv_ia (sz := 2) (j := ((a + (b - a) / 4 * 2 - 1) + k)) sl95 ty93 rfl rfl rfl Om_ Om_ Om_ ⟨rfl, rfl⟩) ?_
      refine js_R0 rfl rfl (.inl rfl) (xv_loadA ty93 rfl rfl Me_ (ca_get eShare_len (k := ((a + (b - a) / 4 * 2 - 1) + k)) (by rw [hA1.size]; (first|omega|(dsimp only at *;omega)|(simp at *;omega)))) rfl ⟨rfl, rfl⟩) ?_
      refine js_S rfl rfl (.inl rfl) (xv_ia (sz := 2) (j := ((a + (b - a) / 4 * 2 - 1) + k)) sl95 ty93 rfl rfl rfl Om_ Om_ Om_ ⟨rfl, rfl⟩) ?_
      refine js_O0 rfl rfl (.inl rfl) (xv_s ty93 rfl rfl Up_ rfl (by rfl) (by rfl) (ca_room eShare_len (k := ((a + (b - a) / 4 * 2 - 1) + k)) (by rw [hA1.size]; (first|omega|(dsimp only at *;omega)|(simp at *;omega)))) (ca_splice eShare_len (k := ((a + (b - a) / 4 * 2 - 1) + k)) (by rw [hA1.size]; (first|omega|(dsimp only at *;omega)|(simp at *;omega)))) ?_)
      refine js_S rfl rfl (.inl rfl) (xv_ia (sz := 2) (j := (a + o)) sl95 ty93 rfl rfl rfl Om_ Om_ Om_ ⟨rfl, rfl⟩) ?_
      refine js_O0 rfl rfl (.inl rfl) (xv_s ty93 rfl rfl Up_ rfl (by rfl) (by rfl) (ca_room eShare_len (k := (a + o)) (by rw [Array.size_setIfInBounds, hA1.size]; (first|omega|(dsimp only at *;omega)|(simp at *;omega)))) (ca_splice eShare_len (k := (a + o)) (by rw [Array.size_setIfInBounds, hA1.size]; (first|omega|(dsimp only at *;omega)|(simp at *;omega)))) ?_)
      refine j_end0 ?_
      refine bk_n ?_
      refine th_n ?_
      refine xc_region ?_
      refine xr_op rfl rfl (xv_move rfl ?_)
      refine xr_op rfl rfl (xv_add rfl rfl (wrap_i64 Om_ Om_) ?_)
      refine xr_op rfl rfl (xv_assign rfl ?_)
      refine xr_end rfl ?_
      have hst : brkN a (b - a) (1 <<< Go.Sort.bitsLen (b - a)) (UInt64.ofNat (b - a), d) (a + (b - a) / 4 * 2 - 1) (k + 1) = ((Go.Sort.xorNext w), Go.Sort.swp d1 ((a + (b - a) / 4 * 2 - 1) + k) (a + o)) := by
        show Go.Sort.breakStep a (b - a) (1 <<< Go.Sort.bitsLen (b - a)) (brkN a (b - a) (1 <<< Go.Sort.bitsLen (b - a)) (UInt64.ofNat (b - a), d) (a + (b - a) / 4 * 2 - 1) k) ((a + (b - a) / 4 * 2 - 1) + k) = _
        rw [← heq]
        unfold Go.Sort.breakStep
        dsimp only
        rw [show (Go.Sort.xorNext w).toNat &&& ((1 <<< Go.Sort.bitsLen (b - a)) - 1) = o by rw [ho, UInt64.toNat_and, hM1n]]
        first | rw [if_pos Om_] | rw [if_neg Om_]
      exact rnd ((k + 1, (Go.Sort.xorNext w), Go.Sort.swp d1 ((a + (b - a) / 4 * 2 - 1) + k) (a + o)) : Nat × UInt64 × Array Share) ⟨by (first|omega|(dsimp only at *;omega)|(simp at *;omega)), hA1.swp Om_ Om_, hst.symm⟩ Om_ (le_put (le_put (le_put (le_put (le_put (le_put (le_emp _) rfl) rfl) rfl) rfl) rfl) (by dsimp only; rw [show ((a : Int) + (((b - a) / 4 : Nat) : Int) * 2 - 1 + ((k + 1 : Nat) : Int)) = (a : Int) + (((b - a) / 4 : Nat) : Int) * 2 - 1 + (k : Int) + 1 by omega]; rfl)) Su_
  · refine xr_end rfl ?_
    refine th_n ?_
    refine xc_false rfl ?_
    refine xc_exit ?_
    refine th_x ?_
    refine th_x ?_
    refine bk_same ?_
    refine body_end (h' := ((bb, .cells ⟨(d1).toList.flatMap eShare ++ sp⟩ 76) :: L)) rfl ro_nil Su_ ?_
    (obtain rfl : k = 3 := by (first|omega|(dsimp only at *;omega)|(simp at *;omega))); (have e : d1 = Go.Sort.breakPatterns d a b := by rw [hres, ← heq]); rw [← e] at H; exact H hA1

def PdqOk (m : Nat) : Prop := ∀ {bb cap N : Nat} {sp : List Value} {d : Array Share} {f : Value} {cm : Share → Share → Int} {p : Share → Prop} {L : Hp} {R : Ending → Hp → Prop} (hA : Arr N p d) (hN : N ≤ 49) (hf : ∀ x y, p x → p y → ∀ H R', L ⊆ H → R' (.returned (I (cm x y))) H → AFn Try.prog f [.agg ⟨eShare x⟩, .agg ⟨eShare y⟩] H R') {a b limit : Nat} {ai bi li : Int} (ea : ai = a) (eb : bi = b) (el : li = limit) (hab : a ≤ b) (hb : b ≤ N) (hm : b - a ≤ m) (hl : limit ≤ 1000) (H : Arr N p (Go.Sort.pdq (ltc cm) d a b limit true true) → R (.returned (.tuple #[])) ((bb, .cells ⟨(Go.Sort.pdq (ltc cm) d a b limit true true).toList.flatMap eShare ++ sp⟩ 76) :: L)),
    ACalls Try.prog 40 ⟨[.slice (some ⟨bb, 0, none⟩) N cap, I ai, I bi, I li, f]⟩ ((bb, .cells ⟨(d).toList.flatMap eShare ++ sp⟩ 76) :: L) R

theorem pdq_step {m : Nat} (ih : ∀ j, j < m → PdqOk j) : PdqOk m := by
  intro bb cap N sp d f cm p L R hA hN hf a b limit ai bi li ea eb el hab hb hm hl H
  subst ea eb el
  refine calls_of_xc (N := 148) Try.func40 rfl (by rfl) ?_
  refine xc_seq (xc_region ?_)
  refine xr_op rfl rfl (xv_assign rfl ?_)
  refine xr_end rfl ?_
  refine th_n ?_
  refine xc_seq (xc_region ?_)
  refine xr_op rfl rfl (xv_assign rfl ?_)
  refine xr_end rfl ?_
  refine th_n ?_
  refine xc_block ?_
  refine xc_loop (σ := PdqS Share) (fun z => a ≤ z.a ∧ z.a ≤ z.b ∧ z.b ≤ b ∧ z.lim ≤ limit ∧ Arr N p z.d ∧ Go.Sort.pdq (ltc cm) z.d z.a z.b z.lim z.wb z.wp = Go.Sort.pdq (ltc cm) d a b limit true true) (fun z => (((((((emp.put (some 0) (.slice (some ⟨bb, 0, none⟩) N cap)).put (some 1) (I z.a)).put (some 2) (I z.b)).put (some 3) (I z.lim)).put (some 4) (f)).put (some 10) (.bool z.wb)).put (some 11) (.bool z.wp))) (fun z => ((bb, .cells ⟨(z.d).toList.flatMap eShare ++ sp⟩ 76) :: L)) (fun z => z.b - z.a) (⟨a, b, limit, true, true, d⟩ : PdqS Share) ⟨Nat.le_refl _, hab, Nat.le_refl _, Nat.le_refl _, hA, rfl⟩ (le_put (le_put (le_put (le_put (le_put (le_put (le_put (le_emp _) rfl) rfl) rfl) rfl) rfl) rfl) rfl) Su_ ?_
  rintro ⟨a1, b1, l1, wb, wp, d1⟩ ⟨ho1, ho2, ho3, hl1, hA1, heq⟩
  dsimp only at ho1 ho2 ho3 hl1 hA1 heq
  refine xc_block ?_
  refine xc_seq (xc_region ?_)
  refine xr_op rfl rfl (xv_move rfl ?_)
  refine xr_op rfl rfl (xv_move rfl ?_)
  refine xr_op rfl rfl (xv_sub rfl rfl (wrap_i64 Om_ Om_) ?_)
  refine xr_op rfl rfl (xv_assign rfl ?_)
  refine xr_end rfl ?_
  refine th_n ?_
  refine xc_seq ?_
  refine xc_seq (xc_region ?_)
  refine xr_op rfl rfl (xv_move rfl ?_)
  refine xr_op rfl rfl (xv_leq2 rfl rfl (fun q1 => ?_) (fun q1 => ?_))
  · refine xr_end rfl ?_
    refine th_n ?_
    refine xc_true rfl ?_
    refine xc_seq (xc_region ?_)
    refine xr_op rfl rfl (xv_move rfl ?_)
    refine xr_op rfl rfl (xv_move rfl ?_)
    refine xr_op rfl rfl (xv_move rfl ?_)
    refine xr_op rfl rfl (xv_move rfl ?_)
    refine xr_op rfl rfl (xv_calls rfl hb63 (ins_c (a := a1) (b := b1) hA1 hN hf rfl rfl Om_ Om_ (fun hA2 => up_ret ?_)))
    refine xr_end rfl ?_
    refine th_n ?_
    refine xc_ret ?_
    refine th_r ?_
    refine bk_r ?_
    refine th_r ?_
    refine bk_r ?_
    refine body_ret (h' := ((bb, .cells ⟨(Go.Sort.insertionSort (ltc cm) d1 a1 b1).toList.flatMap eShare ++ sp⟩ 76) :: L)) rfl ro_nil Su_ ?_
    first | (have e := (pdq_ins Om_).symm.trans heq; rw [← e] at H; exact H hA2) | (have e := (pdq_heap Om_ Om_).symm.trans heq; rw [← e] at H; exact H hA2) | (have e := pdq_pi (lt := ltc cm) (d := d1) (a := a1) (b := b1) (limit := l1) (wb := true) (wp := true) Om_ Om_ Om_ rfl rfl; rw [← hd2] at e; rw [← hd3, ← hph] at e; have e2 := (e (hintI_1.1 Om_) (by assumption)).symm.trans heq; rw [← e2] at H; exact H hA3)
  · refine xr_end rfl ?_
    refine th_n ?_
    refine xc_false rfl ?_
    refine xc_skip ?_
    refine th_n ?_
    refine xc_seq ?_
    refine xc_seq (xc_region ?_)
    refine xr_op rfl rfl (xv_move rfl ?_)
    refine xr_op rfl rfl (xv_eql2 rfl rfl (fun q2 => ?_) (fun q2 => ?_))
    · refine xr_end rfl ?_
      refine th_n ?_
      refine xc_true rfl ?_
      refine xc_seq (xc_region ?_)
      refine xr_op rfl rfl (xv_move rfl ?_)
      refine xr_op rfl rfl (xv_move rfl ?_)
      refine xr_op rfl rfl (xv_move rfl ?_)
      refine xr_op rfl rfl (xv_move rfl ?_)
      refine xr_op rfl rfl (xv_calls rfl hb64 (heap_c (a := a1) (b := b1) hA1 hN hf rfl rfl Om_ Om_ (fun hA2 => up_ret ?_)))
      refine xr_end rfl ?_
      refine th_n ?_
      refine xc_ret ?_
      refine th_r ?_
      refine bk_r ?_
      refine th_r ?_
      refine bk_r ?_
      refine body_ret (h' := ((bb, .cells ⟨(Go.Sort.heapSort (ltc cm) d1 a1 b1).toList.flatMap eShare ++ sp⟩ 76) :: L)) rfl ro_nil Su_ ?_
      first | (have e := (pdq_ins Om_).symm.trans heq; rw [← e] at H; exact H hA2) | (have e := (pdq_heap Om_ Om_).symm.trans heq; rw [← e] at H; exact H hA2) | (have e := pdq_pi (lt := ltc cm) (d := d1) (a := a1) (b := b1) (limit := l1) (wb := true) (wp := true) Om_ Om_ Om_ rfl rfl; rw [← hd2] at e; rw [← hd3, ← hph] at e; have e2 := (e (hintI_1.1 Om_) (by assumption)).symm.trans heq; rw [← e2] at H; exact H hA3)
    · refine xr_end rfl ?_
      refine th_n ?_
      refine xc_false rfl ?_
      refine xc_skip ?_
      refine th_n ?_
      refine xc_join (σ := Nat × Array Share) (fun q => q.1 = pl1 wb l1 ∧ q.2 = pq1 wb d1 a1 b1 ∧ Arr N p q.2) (fun q => ((((((((emp.put (some 0) (.slice (some ⟨bb, 0, none⟩) N cap)).put (some 1) (I a1)).put (some 2) (I b1)).put (some 3) (I q.1)).put (some 4) (f)).put (some 10) (.bool wb)).put (some 11) (.bool wp)).put (some 12) (I ((b1 : Int) - a1)))) (fun q => ((bb, .cells ⟨(q.2).toList.flatMap eShare ++ sp⟩ 76) :: L)) ?_ ?_
      · refine xc_seq (xc_region ?_)
        cases wb
        · refine xr_op rfl rfl (xv_move rfl ?_)
          refine xr_op rfl rfl (xv_not rfl ?_)
          refine xr_end rfl ?_
          refine th_n ?_
          refine xc_true rfl ?_
          refine xc_seq (xc_region ?_)
          refine xr_op rfl rfl (xv_move rfl ?_)
          refine xr_op rfl rfl (xv_move rfl ?_)
          refine xr_op rfl rfl (xv_move rfl ?_)
          refine xr_op rfl rfl (xv_move rfl ?_)
          refine xr_op rfl rfl (xv_calls rfl hb65 (brk_c (cm := cm) (a := a1) (b := b1) hA1 hN rfl rfl Om_ Om_ (fun hA2 => up_ret ?_)))
          refine xr_end rfl ?_
          refine th_n ?_
          refine xc_region ?_
          refine xr_op rfl rfl (xv_move rfl ?_)
          refine xr_op rfl rfl (xv_sub rfl rfl (wrap_i64 Om_ Om_) ?_)
          refine xr_op rfl rfl (xv_assign rfl ?_)
          refine xr_end rfl ?_
          exact jn_n ((l1 - 1, Go.Sort.breakPatterns d1 a1 b1) : Nat × Array Share) ⟨rfl, rfl, hA2⟩ (le_put (le_put (le_put (le_put (le_put (le_put (le_put (le_put (le_emp _) rfl) rfl) rfl) (by first | rfl | (dsimp only; rw [show ((l1 - 1 : Nat) : Int) = (l1 : Int) - 1 by (first|omega|(dsimp only at *;omega)|(simp at *;omega))]; rfl))) rfl) rfl) rfl) rfl) Su_
        · refine xr_op rfl rfl (xv_move rfl ?_)
          refine xr_op rfl rfl (xv_not rfl ?_)
          refine xr_end rfl ?_
          refine th_n ?_
          refine xc_false rfl ?_
          refine xc_skip ?_
          exact jn_n ((l1, d1) : Nat × Array Share) ⟨rfl, rfl, hA1⟩ (le_put (le_put (le_put (le_put (le_put (le_put (le_put (le_put (le_emp _) rfl) rfl) rfl) (by first | rfl | (dsimp only; rw [show ((l1 - 1 : Nat) : Int) = (l1 : Int) - 1 by (first|omega|(dsimp only at *;omega)|(simp at *;omega))]; rfl))) rfl) rfl) rfl) rfl) Su_
      · rintro ⟨l2, d2⟩ ⟨hl2, hd2, hA2⟩
        dsimp only at hl2 hd2 hA2
        have hl2b : l2 ≤ l1 := by rw [hl2]; unfold pl1; split <;> omega
        refine xc_seq (xc_region ?_)
        refine xr_op rfl rfl (xv_move rfl ?_)
        refine xr_op rfl rfl (xv_move rfl ?_)
        refine xr_op rfl rfl (xv_move rfl ?_)
        refine xr_op rfl rfl (xv_move rfl ?_)
        refine xr_op rfl rfl (xv_calls rfl hb66 (choose_c (a := a1) (b := b1) hA2 hN hf rfl rfl Om_ Om_ (up_ret ?_)))
        refine xr_op rfl rfl (xv_move rfl ?_)
        refine xr_op rfl rfl (xv_extract rfl rfl ?_)
        refine xr_op rfl rfl (xv_extract rfl rfl ?_)
        refine xr_op rfl rfl (xv_assign rfl ?_)
        refine xr_op rfl rfl (xv_assign rfl ?_)
        refine xr_end rfl ?_
        refine th_n ?_
        refine xc_join (σ := Nat × Go.Sort.Hint × Array Share) (fun q => q.1 = pv2 (ltc cm) d2 a1 b1 ∧ q.2.1 = ph2 (ltc cm) d2 a1 b1 ∧ q.2.2 = pq2 (ltc cm) d2 a1 b1 ∧ Arr N p q.2.2 ∧ a1 ≤ q.1 ∧ q.1 < b1) (fun q => ((((((((((emp.put (some 0) (.slice (some ⟨bb, 0, none⟩) N cap)).put (some 1) (I a1)).put (some 2) (I b1)).put (some 3) (I l2)).put (some 4) (f)).put (some 10) (.bool wb)).put (some 11) (.bool wp)).put (some 12) (I ((b1 : Int) - a1))).put (some 13) (I q.1)).put (some 14) (I (hintI q.2.1)))) (fun q => ((bb, .cells ⟨(q.2.2).toList.flatMap eShare ++ sp⟩ 76) :: L)) ?_ ?_
        · refine xc_seq (xc_region ?_)
          have hcb := Go.Sort.choosePivot_holds (ltc cm) d2 a1 b1 Om_
          refine xr_op rfl rfl (xv_move rfl ?_)
          refine xr_op rfl rfl (xv_eql2 rfl rfl (fun q3 => ?_) (fun q3 => ?_))
          · refine xr_end rfl ?_
            refine th_n ?_
            refine xc_true rfl ?_
            refine xc_seq (xc_region ?_)
            refine xr_op rfl rfl (xv_move rfl ?_)
            refine xr_op rfl rfl (xv_move rfl ?_)
            refine xr_op rfl rfl (xv_move rfl ?_)
            refine xr_op rfl rfl (xv_move rfl ?_)
            refine xr_op rfl rfl (xv_calls rfl hb67 (rev_c (cm := cm) (a := a1) (b := b1) hA2 hN rfl rfl Om_ Om_ (fun hA3 => up_ret ?_)))
            refine xr_end rfl ?_
            refine th_n ?_
            refine xc_seq (xc_region ?_)
            refine xr_op rfl rfl (xv_move rfl ?_)
            refine xr_op rfl rfl (xv_sub rfl rfl (wrap_i64 Om_ Om_) ?_)
            refine xr_op rfl rfl (xv_move rfl ?_)
            refine xr_op rfl rfl (xv_move rfl ?_)
            refine xr_op rfl rfl (xv_sub rfl rfl (wrap_i64 Om_ Om_) ?_)
            refine xr_op rfl rfl (xv_sub rfl rfl (wrap_i64 Om_ Om_) ?_)
            refine xr_op rfl rfl (xv_assign rfl ?_)
            refine xr_end rfl ?_
            refine th_n ?_
            refine xc_region ?_
            refine xr_op rfl rfl (xv_assign rfl ?_)
            refine xr_end rfl ?_
            have hdec := hintI_2.1 (show hintI (Go.Sort.choosePivot (ltc cm) d2 a1 b1).2 = 2 by (first|omega|(dsimp only at *;omega)|(simp at *;omega)))
            exact jn_n (((b1 - 1) - ((Go.Sort.choosePivot (ltc cm) d2 a1 b1).1 - a1), .increasing, Go.Sort.reverseRange d2 a1 b1) : Nat × Go.Sort.Hint × Array Share) ⟨(if_pos hdec).symm, (if_pos hdec).symm, (if_pos hdec).symm, hA3, by (first|omega|(dsimp only at *;omega)|(simp at *;omega)), by (first|omega|(dsimp only at *;omega)|(simp at *;omega))⟩ (le_put (le_put (le_put (le_put (le_put (le_put (le_put (le_put (le_put (le_put (le_emp _) rfl) rfl) rfl) rfl) rfl) rfl) rfl) rfl) (by first | rfl | (dsimp only; rw [show (((b1 - 1) - ((Go.Sort.choosePivot (ltc cm) d2 a1 b1).1 - a1) : Nat) : Int) = (b1 : Int) - 1 - (((Go.Sort.choosePivot (ltc cm) d2 a1 b1).1 : Nat) - (a1 : Int)) by (first|omega|(dsimp only at *;omega)|(simp at *;omega))]; rfl))) rfl) Su_
          · refine xr_end rfl ?_
            refine th_n ?_
            refine xc_false rfl ?_
            refine xc_skip ?_
            have hdec : ¬ (Go.Sort.choosePivot (ltc cm) d2 a1 b1).2 = .decreasing := fun hq9 => absurd (hintI_2.2 hq9) Om_
            exact jn_n (((Go.Sort.choosePivot (ltc cm) d2 a1 b1).1, (Go.Sort.choosePivot (ltc cm) d2 a1 b1).2, d2) : Nat × Go.Sort.Hint × Array Share) ⟨(if_neg hdec).symm, (if_neg hdec).symm, (if_neg hdec).symm, hA2, hcb.1, hcb.2⟩ (le_put (le_put (le_put (le_put (le_put (le_put (le_put (le_put (le_put (le_put (le_emp _) rfl) rfl) rfl) rfl) rfl) rfl) rfl) rfl) (by first | rfl | (dsimp only; rw [show (((b1 - 1) - ((Go.Sort.choosePivot (ltc cm) d2 a1 b1).1 - a1) : Nat) : Int) = (b1 : Int) - 1 - (((Go.Sort.choosePivot (ltc cm) d2 a1 b1).1 : Nat) - (a1 : Int)) by (first|omega|(dsimp only at *;omega)|(simp at *;omega))]; rfl))) rfl) Su_
        · rintro ⟨pv, hint, d3⟩ ⟨hpv, hph, hd3, hA3, hpa, hpb⟩
          dsimp only at hpv hph hd3 hA3 hpa hpb
          refine xc_join (σ := Unit) (fun _ => ¬ (wb = true ∧ wp = true ∧ hint = .increasing ∧ (Go.Sort.partialInsertionSort (ltc cm) d3 a1 b1).2 = true)) (fun _ => ((((((((((emp.put (some 0) (.slice (some ⟨bb, 0, none⟩) N cap)).put (some 1) (I a1)).put (some 2) (I b1)).put (some 3) (I l2)).put (some 4) (f)).put (some 10) (.bool wb)).put (some 11) (.bool wp)).put (some 12) (I ((b1 : Int) - a1))).put (some 13) (I pv)).put (some 14) (I (hintI hint)))) (fun _ => ((bb, .cells ⟨(d3).toList.flatMap eShare ++ sp⟩ 76) :: L)) ?_ ?_
          · refine xc_seq (xc_region ?_)
            cases wb <;> cases wp
            · refine xr_op rfl rfl (xv_move rfl ?_)
              refine xr_op rfl rfl (xv_move rfl ?_)
              refine xr_no rfl rfl rfl rfl ?_
              refine xr_op rfl rfl (xv_pick rfl rfl ?_)
              refine xr_op rfl rfl (xv_move rfl ?_)
              refine xr_no rfl rfl rfl rfl ?_
              refine xr_no rfl rfl rfl rfl ?_
              refine xr_op rfl rfl (xv_pick rfl rfl ?_)
              refine xr_end rfl ?_
              refine th_n ?_
              refine xc_false rfl ?_
              refine xc_skip ?_
              exact jn_n () (fun hq9 => by first | (exact absurd hq9.1 (by decide)) | (exact absurd hq9.2.1 (by decide)) | (exact absurd (hintI_1.2 hq9.2.2.1) Om_) | (have h9 : (Go.Sort.partialInsertionSort (ltc cm) d3 a1 b1).2 = false := (by assumption); rw [h9] at hq9; exact absurd hq9.2.2.2 (by decide))) (le_put (le_put (le_put (le_put (le_put (le_put (le_put (le_put (le_put (le_put (le_emp _) rfl) rfl) rfl) rfl) rfl) rfl) rfl) rfl) rfl) rfl) Su_
            · refine xr_op rfl rfl (xv_move rfl ?_)
              refine xr_op rfl rfl (xv_move rfl ?_)
              refine xr_no rfl rfl rfl rfl ?_
              refine xr_op rfl rfl (xv_pick rfl rfl ?_)
              refine xr_op rfl rfl (xv_move rfl ?_)
              refine xr_no rfl rfl rfl rfl ?_
              refine xr_no rfl rfl rfl rfl ?_
              refine xr_op rfl rfl (xv_pick rfl rfl ?_)
              refine xr_end rfl ?_
              refine th_n ?_
              refine xc_false rfl ?_
              refine xc_skip ?_
              exact jn_n () (fun hq9 => by first | (exact absurd hq9.1 (by decide)) | (exact absurd hq9.2.1 (by decide)) | (exact absurd (hintI_1.2 hq9.2.2.1) Om_) | (have h9 : (Go.Sort.partialInsertionSort (ltc cm) d3 a1 b1).2 = false := (by assumption); rw [h9] at hq9; exact absurd hq9.2.2.2 (by decide))) (le_put (le_put (le_put (le_put (le_put (le_put (le_put (le_put (le_put (le_put (le_emp _) rfl) rfl) rfl) rfl) rfl) rfl) rfl) rfl) rfl) rfl) Su_
            · refine xr_op rfl rfl (xv_move rfl ?_)
              refine xr_op rfl rfl (xv_move rfl ?_)
              refine xr_gd rfl rfl rfl (xv_move rfl ?_)
              refine xr_op rfl rfl (xv_pick rfl rfl ?_)
              refine xr_op rfl rfl (xv_move rfl ?_)
              refine xr_no rfl rfl rfl rfl ?_
              refine xr_no rfl rfl rfl rfl ?_
              refine xr_op rfl rfl (xv_pick rfl rfl ?_)
              refine xr_end rfl ?_
              refine th_n ?_
              refine xc_false rfl ?_
              refine xc_skip ?_
              exact jn_n () (fun hq9 => by first | (exact absurd hq9.1 (by decide)) | (exact absurd hq9.2.1 (by decide)) | (exact absurd (hintI_1.2 hq9.2.2.1) Om_) | (have h9 : (Go.Sort.partialInsertionSort (ltc cm) d3 a1 b1).2 = false := (by assumption); rw [h9] at hq9; exact absurd hq9.2.2.2 (by decide))) (le_put (le_put (le_put (le_put (le_put (le_put (le_put (le_put (le_put (le_put (le_emp _) rfl) rfl) rfl) rfl) rfl) rfl) rfl) rfl) rfl) rfl) Su_
            · refine xr_op rfl rfl (xv_move rfl ?_)
              refine xr_op rfl rfl (xv_move rfl ?_)
              refine xr_gd rfl rfl rfl (xv_move rfl ?_)
              refine xr_op rfl rfl (xv_pick rfl rfl ?_)
              refine xr_op rfl rfl (xv_move rfl ?_)
              refine xr_gd rfl rfl rfl (xv_move rfl ?_)
              refine xr_gd rfl rfl rfl (xv_eql2 rfl rfl (fun q4 => ?_) (fun q4 => ?_))
              · refine xr_op rfl rfl (xv_pick rfl rfl ?_)
                refine xr_end rfl ?_
                refine th_n ?_
                refine xc_true rfl ?_
                refine xc_seq (xc_region ?_)
                refine xr_op rfl rfl (xv_move rfl ?_)
                refine xr_op rfl rfl (xv_move rfl ?_)
                refine xr_op rfl rfl (xv_move rfl ?_)
                refine xr_op rfl rfl (xv_move rfl ?_)
                refine xr_op rfl rfl (xv_calls rfl hb68 (partial_c (a := a1) (b := b1) hA3 hN hf rfl rfl Om_ Om_ (up_ret ?_)))
                refine xr_end rfl ?_
                refine th_n ?_
                refine xc_bool rfl (fun q5 => ?_) (fun q5 => ?_)
                · refine xc_ret ?_
                  refine jn_r ?_
                  refine bk_r ?_
                  refine th_r ?_
                  refine bk_r ?_
                  refine body_ret (h' := ((bb, .cells ⟨(d3).toList.flatMap eShare ++ sp⟩ 76) :: L)) rfl ro_nil Su_ ?_
                  first | (have e := (pdq_ins Om_).symm.trans heq; rw [← e] at H; exact H hA2) | (have e := (pdq_heap Om_ Om_).symm.trans heq; rw [← e] at H; exact H hA2) | (have e := pdq_pi (lt := ltc cm) (d := d1) (a := a1) (b := b1) (limit := l1) (wb := true) (wp := true) Om_ Om_ Om_ rfl rfl; rw [← hd2] at e; rw [← hd3, ← hph] at e; have e2 := (e (hintI_1.1 Om_) (by assumption)).symm.trans heq; rw [← e2] at H; exact H hA3)
                · refine xc_skip ?_
                  exact jn_n () (fun hq9 => by first | (exact absurd hq9.1 (by decide)) | (exact absurd hq9.2.1 (by decide)) | (exact absurd (hintI_1.2 hq9.2.2.1) Om_) | (have h9 : (Go.Sort.partialInsertionSort (ltc cm) d3 a1 b1).2 = false := (by assumption); rw [h9] at hq9; exact absurd hq9.2.2.2 (by decide))) (le_put (le_put (le_put (le_put (le_put (le_put (le_put (le_put (le_put (le_put (le_emp _) rfl) rfl) rfl) rfl) rfl) rfl) rfl) rfl) rfl) rfl) Su_
              · refine xr_op rfl rfl (xv_pick rfl rfl ?_)
                refine xr_end rfl ?_
                refine th_n ?_
                refine xc_false rfl ?_
                refine xc_skip ?_
                exact jn_n () (fun hq9 => by first | (exact absurd hq9.1 (by decide)) | (exact absurd hq9.2.1 (by decide)) | (exact absurd (hintI_1.2 hq9.2.2.1) Om_) | (have h9 : (Go.Sort.partialInsertionSort (ltc cm) d3 a1 b1).2 = false := (by assumption); rw [h9] at hq9; exact absurd hq9.2.2.2 (by decide))) (le_put (le_put (le_put (le_put (le_put (le_put (le_put (le_put (le_put (le_put (le_emp _) rfl) rfl) rfl) rfl) rfl) rfl) rfl) rfl) rfl) rfl) Su_
          · rintro ⟨⟩ hno
            refine xc_seq ?_
            refine xc_seq ?_
            refine xc_draw0 [(0, .S), (1, .O), (2, .S), (3, .S), (4, .S), (5, .S), (6, .S), (7, .S), (8, .R), (9, .S), (10, .S), (11, .S), (12, .R), (13, .R), (14, .O), (15, .S), (16, .S)] mixed (by kernel_rfl) ?_
            refine js_S rfl rfl (.inl rfl) (xv_move rfl ⟨rfl, rfl⟩) ?_
            refine js_O0 rfl rfl (.inl rfl) (xv_gtr2 rfl rfl (fun hq => ?_) (fun hq => ?_))
            · refine js_S rfl rfl (.inl rfl) (xv_move rfl ⟨rfl, rfl⟩) ?_
              refine js_S rfl rfl (.inr ⟨_, _, rfl, rfl⟩) (xv_move rfl ⟨rfl, rfl⟩) ?_
              refine js_S rfl rfl (.inr ⟨_, _, rfl, rfl⟩) (xv_move rfl ⟨rfl, rfl⟩) ?_
              refine js_S rfl rfl (.inr ⟨_, _, rfl, rfl⟩) (xv_move rfl ⟨rfl, rfl⟩) ?_
              refine js_S rfl rfl (.inr ⟨_, _, rfl, rfl⟩) (xv_sub rfl rfl (wrap_i64 Om_ Om_) ⟨rfl, rfl⟩) ?_
              refine js_S rfl rfl (.inr ⟨_, _, rfl, rfl⟩) (xv_ia (sz := 2) (j := (a1 - 1)) sl95 ty93 rfl rfl rfl Om_ Om_ Om_ ⟨rfl, rfl⟩) ?_
              refine js_R0 rfl rfl (.inr ⟨_, _, rfl, rfl⟩) (xv_loadA ty93 rfl rfl Me_ (ca_get eShare_len (k := (a1 - 1)) (by rw [hA3.size]; (first|omega|(dsimp only at *;omega)|(simp at *;omega)))) rfl ⟨rfl, rfl⟩) ?_
              refine js_S rfl rfl (.inr ⟨_, _, rfl, rfl⟩) (xv_move rfl ⟨rfl, rfl⟩) ?_
              refine js_S rfl rfl (.inr ⟨_, _, rfl, rfl⟩) (xv_move rfl ⟨rfl, rfl⟩) ?_
              refine js_S rfl rfl (.inr ⟨_, _, rfl, rfl⟩) (xv_ia (sz := 2) (j := pv) sl95 ty93 rfl rfl rfl Om_ Om_ Om_ ⟨rfl, rfl⟩) ?_
              refine js_R0 rfl rfl (.inr ⟨_, _, rfl, rfl⟩) (xv_loadA ty93 rfl rfl Me_ (ca_get eShare_len (k := pv) (by rw [hA3.size]; (first|omega|(dsimp only at *;omega)|(simp at *;omega)))) rfl ⟨rfl, rfl⟩) ?_
              refine js_R0 rfl rfl (.inr ⟨_, _, rfl, rfl⟩) (xv_fn rfl rfl (hf _ _ (hA3.all _ Om_) (hA3.all _ Om_) _ _ (by intro z hz; ((repeat first|exact z_0|assumption|refine z_1 ?_|(refine z_l ?_;(repeat first|exact z_0|assumption|refine z_1 ?_);done)|refine z_r ?_);done)) (up_ret ⟨rfl, rfl⟩))) ?_
              refine js_O0 rfl rfl (.inr ⟨_, _, rfl, rfl⟩) (xv_lss2 rfl rfl (fun hq => ?_) (fun hq => ?_))
              · refine js_S rfl rfl (.inr ⟨_, _, rfl, rfl⟩) (xv_not rfl ⟨rfl, rfl⟩) ?_
                refine js_S rfl rfl (.inl rfl) (xv_pick rfl rfl ⟨rfl, rfl⟩) ?_
                refine j_end0 ?_
                refine th_n ?_
                refine xc_false rfl ?_
                refine xc_skip ?_
                refine th_n ?_
                refine xc_seq (xc_region ?_)
                have hnl : ¬ (0 < a1 ∧ ltc cm d3[a1 - 1]! d3[pv]! = false) := by first | exact (fun hq9 => absurd hq9.1 Om_) | exact (fun hq9 => by rw [ltc_T Om_] at hq9; exact absurd hq9.2 (by decide))
                refine xr_op rfl rfl (xv_move rfl ?_)
                refine xr_op rfl rfl (xv_move rfl ?_)
                refine xr_op rfl rfl (xv_move rfl ?_)
                refine xr_op rfl rfl (xv_move rfl ?_)
                refine xr_op rfl rfl (xv_move rfl ?_)
                refine xr_op rfl rfl (xv_calls rfl hb70 (part_c (a := a1) (b := b1) (pivot := pv) hA3 hN hf rfl rfl rfl Om_ Om_ Om_ (fun hm1 hm2 hA4 => up_ret ?_)))
                refine xr_op rfl rfl (xv_move rfl ?_)
                refine xr_op rfl rfl (xv_extract rfl rfl ?_)
                refine xr_op rfl rfl (xv_extract rfl rfl ?_)
                refine xr_op rfl rfl (xv_assign rfl ?_)
                refine xr_op rfl rfl (xv_assign rfl ?_)
                refine xr_end rfl ?_
                refine th_n ?_
                refine xc_seq (xc_region ?_)
                refine xr_op rfl rfl (xv_move rfl ?_)
                refine xr_op rfl rfl (xv_assign rfl ?_)
                refine xr_end rfl ?_
                refine th_n ?_
                refine xc_seq (xc_region ?_)
                refine xr_op rfl rfl (xv_move rfl ?_)
                refine xr_op rfl rfl (xv_move rfl ?_)
                refine xr_op rfl rfl (xv_sub rfl rfl (wrap_i64 Om_ Om_) ?_)
                refine xr_op rfl rfl (xv_move rfl ?_)
                refine xr_op rfl rfl (xv_move rfl ?_)
                refine xr_op rfl rfl (xv_sub rfl rfl (wrap_i64 Om_ Om_) ?_)
                refine xr_op rfl rfl (xv_assign rfl ?_)
                refine xr_op rfl rfl (xv_assign rfl ?_)
                refine xr_end rfl ?_
                refine th_n ?_
                refine xc_seq (xc_region ?_)
                refine xr_op rfl rfl (xv_move rfl ?_)
                refine xr_op rfl rfl (xv_quo (c := (((b1 - a1) / 8 : Nat) : Int)) rfl rfl (by omega) (by have e : ((b1 : Int) - (a1 : Int)).tdiv 8 = (((b1 - a1) / 8 : Nat) : Int) := quo_nat (n := b1 - a1) (k := 8) (by omega); rw [e]; exact wrap_i64 (by omega) (by omega)) ?_)
                refine xr_op rfl rfl (xv_assign rfl ?_)
                refine xr_end rfl ?_
                refine th_n ?_
                refine xc_seq (xc_region ?_)
                refine xr_op rfl rfl (xv_move rfl ?_)
                refine xr_op rfl rfl (xv_move rfl ?_)
                refine xr_op rfl rfl (xv_lss2 rfl rfl (fun q6 => ?_) (fun q6 => ?_))
                · refine xr_end rfl ?_
                  refine th_n ?_
                  refine xc_true rfl ?_
                  refine xc_seq (xc_region ?_)
                  refine xr_op rfl rfl (xv_move rfl ?_)
                  refine xr_op rfl rfl (xv_move rfl ?_)
                  refine xr_op rfl rfl (xv_cmpK (c := decide ((Go.Sort.partition (ltc cm) d3 a1 b1 pv).1 - a1 ≥ (b1 - a1) / 8)) rfl rfl (by by_cases h9 : (Go.Sort.partition (ltc cm) d3 a1 b1 pv).1 - a1 ≥ (b1 - a1) / 8; (rw [decide_eq_true h9]; exact cmpT (by simp only [cmpP]; omega)); (rw [decide_eq_false h9]; exact cmpF rfl (by simp only [cmpP]; omega))) ?_)
                  refine xr_op rfl rfl (xv_assign rfl ?_)
                  refine xr_end rfl ?_
                  refine th_n ?_
                  refine xc_seq (xc_region ?_)
                  refine xr_op rfl rfl (xv_move rfl ?_)
                  refine xr_op rfl rfl (xv_move rfl ?_)
                  refine xr_op rfl rfl (xv_move rfl ?_)
                  refine xr_op rfl rfl (xv_move rfl ?_)
                  refine xr_op rfl rfl (xv_move rfl ?_)
                  refine xr_op rfl rfl (xv_calls rfl hb58 (ih ((Go.Sort.partition (ltc cm) d3 a1 b1 pv).1 - a1) Om_ hA4 hN hf rfl rfl rfl Om_ Om_ (Nat.le_refl _) Om_ (fun hA5 => up_ret ?_)))
                  refine xr_end rfl ?_
                  refine th_n ?_
                  refine xc_region ?_
                  refine xr_op rfl rfl (xv_move rfl ?_)
                  refine xr_op rfl rfl (xv_add rfl rfl (wrap_i64 Om_ Om_) ?_)
                  refine xr_op rfl rfl (xv_assign rfl ?_)
                  refine xr_end rfl ?_
                  refine bk_n ?_
                  exact rnd (⟨(Go.Sort.partition (ltc cm) d3 a1 b1 pv).1 + 1, b1, l2, decide ((Go.Sort.partition (ltc cm) d3 a1 b1 pv).1 - a1 ≥ (b1 - a1) / 8), (Go.Sort.partition (ltc cm) d3 a1 b1 pv).2.1, Go.Sort.pdq (ltc cm) (Go.Sort.partition (ltc cm) d3 a1 b1 pv).2.2 a1 (Go.Sort.partition (ltc cm) d3 a1 b1 pv).1 l2 true true⟩ : PdqS Share) ⟨by (first|omega|(dsimp only at *;omega)|(simp at *;omega)), by (first|omega|(dsimp only at *;omega)|(simp at *;omega)), by (first|omega|(dsimp only at *;omega)|(simp at *;omega)), by (first|omega|(dsimp only at *;omega)|(simp at *;omega)), hA5, by
                    have e := pdq_part (mid := (Go.Sort.partition (ltc cm) d3 a1 b1 pv).1) (ap := (Go.Sort.partition (ltc cm) d3 a1 b1 pv).2.1) (d4 := (Go.Sort.partition (ltc cm) d3 a1 b1 pv).2.2) (lt := ltc cm) (d := d1) (a := a1) (b := b1) (limit := l1) (wb := wb) (wp := wp) Om_ Om_ Om_; rw [← hd2] at e; rw [← hd3, ← hph] at e; rw [← hpv, ← hl2] at e
                    have e2 := e hno hnl rfl hm1 hm2
                    rw [if_pos Om_] at e2
                    exact e2.symm.trans heq⟩ Om_ (le_put (le_put (le_put (le_put (le_put (le_put (le_put (le_emp _) rfl) (by first | rfl | (dsimp only; rw [show (((Go.Sort.partition (ltc cm) d3 a1 b1 pv).1 + 1 : Nat) : Int) = (((Go.Sort.partition (ltc cm) d3 a1 b1 pv).1 : Nat) : Int) + 1 by omega]; rfl))) rfl) rfl) rfl) rfl) rfl) Su_
                · refine xr_end rfl ?_
                  refine th_n ?_
                  refine xc_false rfl ?_
                  refine xc_seq (xc_region ?_)
                  refine xr_op rfl rfl (xv_move rfl ?_)
                  refine xr_op rfl rfl (xv_move rfl ?_)
                  refine xr_op rfl rfl (xv_cmpK (c := decide (b1 - (Go.Sort.partition (ltc cm) d3 a1 b1 pv).1 ≥ (b1 - a1) / 8)) rfl rfl (by by_cases h9 : b1 - (Go.Sort.partition (ltc cm) d3 a1 b1 pv).1 ≥ (b1 - a1) / 8; (rw [decide_eq_true h9]; exact cmpT (by simp only [cmpP]; omega)); (rw [decide_eq_false h9]; exact cmpF rfl (by simp only [cmpP]; omega))) ?_)
                  refine xr_op rfl rfl (xv_assign rfl ?_)
                  refine xr_end rfl ?_
                  refine th_n ?_
                  refine xc_seq (xc_region ?_)
                  refine xr_op rfl rfl (xv_move rfl ?_)
                  refine xr_op rfl rfl (xv_move rfl ?_)
                  refine xr_op rfl rfl (xv_add rfl rfl (wrap_i64 Om_ Om_) ?_)
                  refine xr_op rfl rfl (xv_move rfl ?_)
                  refine xr_op rfl rfl (xv_move rfl ?_)
                  refine xr_op rfl rfl (xv_move rfl ?_)
                  refine xr_op rfl rfl (xv_calls rfl hb58 (ih (b1 - ((Go.Sort.partition (ltc cm) d3 a1 b1 pv).1 + 1)) Om_ hA4 hN hf (show (((Go.Sort.partition (ltc cm) d3 a1 b1 pv).1 : Nat) : Int) + 1 = (((Go.Sort.partition (ltc cm) d3 a1 b1 pv).1 + 1 : Nat) : Int) by omega) rfl rfl Om_ Om_ (Nat.le_refl _) Om_ (fun hA5 => up_ret ?_)))
                  refine xr_end rfl ?_
                  refine th_n ?_
                  refine xc_region ?_
                  refine xr_op rfl rfl (xv_move rfl ?_)
                  refine xr_op rfl rfl (xv_assign rfl ?_)
                  refine xr_end rfl ?_
                  refine bk_n ?_
                  exact rnd (⟨a1, (Go.Sort.partition (ltc cm) d3 a1 b1 pv).1, l2, decide (b1 - (Go.Sort.partition (ltc cm) d3 a1 b1 pv).1 ≥ (b1 - a1) / 8), (Go.Sort.partition (ltc cm) d3 a1 b1 pv).2.1, Go.Sort.pdq (ltc cm) (Go.Sort.partition (ltc cm) d3 a1 b1 pv).2.2 ((Go.Sort.partition (ltc cm) d3 a1 b1 pv).1 + 1) b1 l2 true true⟩ : PdqS Share) ⟨by (first|omega|(dsimp only at *;omega)|(simp at *;omega)), by (first|omega|(dsimp only at *;omega)|(simp at *;omega)), by (first|omega|(dsimp only at *;omega)|(simp at *;omega)), by (first|omega|(dsimp only at *;omega)|(simp at *;omega)), hA5, by
                    have e := pdq_part (mid := (Go.Sort.partition (ltc cm) d3 a1 b1 pv).1) (ap := (Go.Sort.partition (ltc cm) d3 a1 b1 pv).2.1) (d4 := (Go.Sort.partition (ltc cm) d3 a1 b1 pv).2.2) (lt := ltc cm) (d := d1) (a := a1) (b := b1) (limit := l1) (wb := wb) (wp := wp) Om_ Om_ Om_; rw [← hd2] at e; rw [← hd3, ← hph] at e; rw [← hpv, ← hl2] at e
                    have e2 := e hno hnl rfl hm1 hm2
                    rw [if_neg Om_] at e2
                    exact e2.symm.trans heq⟩ Om_ (le_put (le_put (le_put (le_put (le_put (le_put (le_put (le_emp _) rfl) (by first | rfl | (dsimp only; rw [show (((Go.Sort.partition (ltc cm) d3 a1 b1 pv).1 + 1 : Nat) : Int) = (((Go.Sort.partition (ltc cm) d3 a1 b1 pv).1 : Nat) : Int) + 1 by omega]; rfl))) rfl) rfl) rfl) rfl) rfl) Su_
              · refine js_S rfl rfl (.inr ⟨_, _, rfl, rfl⟩) (xv_not rfl ⟨rfl, rfl⟩) ?_
                refine js_S rfl rfl (.inl rfl) (xv_pick rfl rfl ⟨rfl, rfl⟩) ?_
                refine j_end0 ?_
                refine th_n ?_
                refine xc_true rfl ?_
                refine xc_seq (xc_region ?_)
                refine xr_op rfl rfl (xv_move rfl ?_)
                refine xr_op rfl rfl (xv_move rfl ?_)
                refine xr_op rfl rfl (xv_move rfl ?_)
                refine xr_op rfl rfl (xv_move rfl ?_)
                refine xr_op rfl rfl (xv_move rfl ?_)
                refine xr_op rfl rfl (xv_calls rfl hb69 (parteq_c (a := a1) (b := b1) (pivot := pv) hA3 hN hf rfl rfl rfl Om_ Om_ Om_ (fun hm1 hm2 hA4 => up_ret ?_)))
                refine xr_op rfl rfl (xv_assign rfl ?_)
                refine xr_end rfl ?_
                refine th_n ?_
                refine xc_seq (xc_region ?_)
                refine xr_op rfl rfl (xv_move rfl ?_)
                refine xr_op rfl rfl (xv_assign rfl ?_)
                refine xr_end rfl ?_
                refine th_n ?_
                refine xc_exit ?_
                refine th_x ?_
                refine bk_same ?_
                exact rnd (⟨(Go.Sort.partitionEqual (ltc cm) d3 a1 b1 pv).1, b1, l2, wb, wp, (Go.Sort.partitionEqual (ltc cm) d3 a1 b1 pv).2⟩ : PdqS Share) ⟨by (first|omega|(dsimp only at *;omega)|(simp at *;omega)), by (first|omega|(dsimp only at *;omega)|(simp at *;omega)), by (first|omega|(dsimp only at *;omega)|(simp at *;omega)), by (first|omega|(dsimp only at *;omega)|(simp at *;omega)), hA4, by
                  have e := pdq_eq (pi := true) (mid := (Go.Sort.partitionEqual (ltc cm) d3 a1 b1 pv).1) (d4 := (Go.Sort.partitionEqual (ltc cm) d3 a1 b1 pv).2) (lt := ltc cm) (d := d1) (a := a1) (b := b1) (limit := l1) (wb := wb) (wp := wp) Om_ Om_ Om_; rw [← hd2] at e; rw [← hd3, ← hph] at e; rw [← hpv, ← hl2] at e
                  exact (e hno Om_ (ltc_F Om_) rfl hm1 hm2).symm.trans heq⟩ Om_ (le_put (le_put (le_put (le_put (le_put (le_put (le_put (le_emp _) rfl) (by first | rfl | (dsimp only; rw [show (((Go.Sort.partition (ltc cm) d3 a1 b1 pv).1 + 1 : Nat) : Int) = (((Go.Sort.partition (ltc cm) d3 a1 b1 pv).1 : Nat) : Int) + 1 by omega]; rfl))) rfl) rfl) rfl) rfl) rfl) Su_
            · refine js_S rfl rfl (.inl rfl) (xv_move rfl ⟨rfl, rfl⟩) ?_
              refine js_Ss rfl rfl ⟨_, _, _, rfl, rfl, rfl⟩ ?_
              refine js_Ss rfl rfl ⟨_, _, _, rfl, rfl, rfl⟩ ?_
              refine js_Ss rfl rfl ⟨_, _, _, rfl, rfl, rfl⟩ ?_
              refine js_Ss rfl rfl ⟨_, _, _, rfl, rfl, rfl⟩ ?_
              refine js_Ss rfl rfl ⟨_, _, _, rfl, rfl, rfl⟩ ?_
              refine js_Rs rfl rfl ⟨_, _, _, rfl, rfl, rfl⟩ ?_
              refine js_Ss rfl rfl ⟨_, _, _, rfl, rfl, rfl⟩ ?_
              refine js_Ss rfl rfl ⟨_, _, _, rfl, rfl, rfl⟩ ?_
              refine js_Ss rfl rfl ⟨_, _, _, rfl, rfl, rfl⟩ ?_
              refine js_Rs rfl rfl ⟨_, _, _, rfl, rfl, rfl⟩ ?_
              refine js_Rs rfl rfl ⟨_, _, _, rfl, rfl, rfl⟩ ?_
              refine js_Os rfl rfl ⟨_, _, _, rfl, rfl, rfl⟩ ?_
              refine js_Ss rfl rfl ⟨_, _, _, rfl, rfl, rfl⟩ ?_
              refine js_S rfl rfl (.inl rfl) (xv_pick rfl rfl ⟨rfl, rfl⟩) ?_
              refine j_end0 ?_
              refine th_n ?_
              refine xc_false rfl ?_
              refine xc_skip ?_
              refine th_n ?_
              refine xc_seq (xc_region ?_)
              have hnl : ¬ (0 < a1 ∧ ltc cm d3[a1 - 1]! d3[pv]! = false) := by first | exact (fun hq9 => absurd hq9.1 Om_) | exact (fun hq9 => by rw [ltc_T Om_] at hq9; exact absurd hq9.2 (by decide))
              refine xr_op rfl rfl (xv_move rfl ?_)
              refine xr_op rfl rfl (xv_move rfl ?_)
              refine xr_op rfl rfl (xv_move rfl ?_)
              refine xr_op rfl rfl (xv_move rfl ?_)
              refine xr_op rfl rfl (xv_move rfl ?_)
              refine xr_op rfl rfl (xv_calls rfl hb70 (part_c (a := a1) (b := b1) (pivot := pv) hA3 hN hf rfl rfl rfl Om_ Om_ Om_ (fun hm1 hm2 hA4 => up_ret ?_)))
              refine xr_op rfl rfl (xv_move rfl ?_)
              refine xr_op rfl rfl (xv_extract rfl rfl ?_)
              refine xr_op rfl rfl (xv_extract rfl rfl ?_)
              refine xr_op rfl rfl (xv_assign rfl ?_)
              refine xr_op rfl rfl (xv_assign rfl ?_)
              refine xr_end rfl ?_
              refine th_n ?_
              refine xc_seq (xc_region ?_)
              refine xr_op rfl rfl (xv_move rfl ?_)
              refine xr_op rfl rfl (xv_assign rfl ?_)
              refine xr_end rfl ?_
              refine th_n ?_
              refine xc_seq (xc_region ?_)
              refine xr_op rfl rfl (xv_move rfl ?_)
              refine xr_op rfl rfl (xv_move rfl ?_)
              refine xr_op rfl rfl (xv_sub rfl rfl (wrap_i64 Om_ Om_) ?_)
              refine xr_op rfl rfl (xv_move rfl ?_)
              refine xr_op rfl rfl (xv_move rfl ?_)
              refine xr_op rfl rfl (xv_sub rfl rfl (wrap_i64 Om_ Om_) ?_)
              refine xr_op rfl rfl (xv_assign rfl ?_)
              refine xr_op rfl rfl (xv_assign rfl ?_)
              refine xr_end rfl ?_
              refine th_n ?_
              refine xc_seq (xc_region ?_)
              refine xr_op rfl rfl (xv_move rfl ?_)
              refine xr_op rfl rfl (xv_quo (c := (((b1 - a1) / 8 : Nat) : Int)) rfl rfl (by omega) (by have e : ((b1 : Int) - (a1 : Int)).tdiv 8 = (((b1 - a1) / 8 : Nat) : Int) := quo_nat (n := b1 - a1) (k := 8) (by omega); rw [e]; exact wrap_i64 (by omega) (by omega)) ?_)
              refine xr_op rfl rfl (xv_assign rfl ?_)
              refine xr_end rfl ?_
              refine th_n ?_
              refine xc_seq (xc_region ?_)
              refine xr_op rfl rfl (xv_move rfl ?_)
              refine xr_op rfl rfl (xv_move rfl ?_)
              refine xr_op rfl rfl (xv_lss2 rfl rfl (fun q7 => ?_) (fun q7 => ?_))
              · refine xr_end rfl ?_
                refine th_n ?_
                refine xc_true rfl ?_
                refine xc_seq (xc_region ?_)
                refine xr_op rfl rfl (xv_move rfl ?_)
                refine xr_op rfl rfl (xv_move rfl ?_)
                refine xr_op rfl rfl (xv_cmpK (c := decide ((Go.Sort.partition (ltc cm) d3 a1 b1 pv).1 - a1 ≥ (b1 - a1) / 8)) rfl rfl (by by_cases h9 : (Go.Sort.partition (ltc cm) d3 a1 b1 pv).1 - a1 ≥ (b1 - a1) / 8; (rw [decide_eq_true h9]; exact cmpT (by simp only [cmpP]; omega)); (rw [decide_eq_false h9]; exact cmpF rfl (by simp only [cmpP]; omega))) ?_)
                refine xr_op rfl rfl (xv_assign rfl ?_)
                refine xr_end rfl ?_
                refine th_n ?_
                refine xc_seq (xc_region ?_)
                refine xr_op rfl rfl (xv_move rfl ?_)
                refine xr_op rfl rfl (xv_move rfl ?_)
                refine xr_op rfl rfl (xv_move rfl ?_)
                refine xr_op rfl rfl (xv_move rfl ?_)
                refine xr_op rfl rfl (xv_move rfl ?_)
                refine xr_op rfl rfl (xv_calls rfl hb58 (ih ((Go.Sort.partition (ltc cm) d3 a1 b1 pv).1 - a1) Om_ hA4 hN hf rfl rfl rfl Om_ Om_ (Nat.le_refl _) Om_ (fun hA5 => up_ret ?_)))
                refine xr_end rfl ?_
                refine th_n ?_
                refine xc_region ?_
                refine xr_op rfl rfl (xv_move rfl ?_)
                refine xr_op rfl rfl (xv_add rfl rfl (wrap_i64 Om_ Om_) ?_)
                refine xr_op rfl rfl (xv_assign rfl ?_)
                refine xr_end rfl ?_
                refine bk_n ?_
                exact rnd (⟨(Go.Sort.partition (ltc cm) d3 a1 b1 pv).1 + 1, b1, l2, decide ((Go.Sort.partition (ltc cm) d3 a1 b1 pv).1 - a1 ≥ (b1 - a1) / 8), (Go.Sort.partition (ltc cm) d3 a1 b1 pv).2.1, Go.Sort.pdq (ltc cm) (Go.Sort.partition (ltc cm) d3 a1 b1 pv).2.2 a1 (Go.Sort.partition (ltc cm) d3 a1 b1 pv).1 l2 true true⟩ : PdqS Share) ⟨by (first|omega|(dsimp only at *;omega)|(simp at *;omega)), by (first|omega|(dsimp only at *;omega)|(simp at *;omega)), by (first|omega|(dsimp only at *;omega)|(simp at *;omega)), by (first|omega|(dsimp only at *;omega)|(simp at *;omega)), hA5, by
                  have e := pdq_part (mid := (Go.Sort.partition (ltc cm) d3 a1 b1 pv).1) (ap := (Go.Sort.partition (ltc cm) d3 a1 b1 pv).2.1) (d4 := (Go.Sort.partition (ltc cm) d3 a1 b1 pv).2.2) (lt := ltc cm) (d := d1) (a := a1) (b := b1) (limit := l1) (wb := wb) (wp := wp) Om_ Om_ Om_; rw [← hd2] at e; rw [← hd3, ← hph] at e; rw [← hpv, ← hl2] at e
                  have e2 := e hno hnl rfl hm1 hm2
                  rw [if_pos Om_] at e2
                  exact e2.symm.trans heq⟩ Om_ (le_put (le_put (le_put (le_put (le_put (le_put (le_put (le_emp _) rfl) (by first | rfl | (dsimp only; rw [show (((Go.Sort.partition (ltc cm) d3 a1 b1 pv).1 + 1 : Nat) : Int) = (((Go.Sort.partition (ltc cm) d3 a1 b1 pv).1 : Nat) : Int) + 1 by omega]; rfl))) rfl) rfl) rfl) rfl) rfl) Su_
              · refine xr_end rfl ?_
                refine th_n ?_
                refine xc_false rfl ?_
                refine xc_seq (xc_region ?_)
                refine xr_op rfl rfl (xv_move rfl ?_)
                refine xr_op rfl rfl (xv_move rfl ?_)
                refine xr_op rfl rfl (xv_cmpK (c := decide (b1 - (Go.Sort.partition (ltc cm) d3 a1 b1 pv).1 ≥ (b1 - a1) / 8)) rfl rfl (by by_cases h9 : b1 - (Go.Sort.partition (ltc cm) d3 a1 b1 pv).1 ≥ (b1 - a1) / 8; (rw [decide_eq_true h9]; exact cmpT (by simp only [cmpP]; omega)); (rw [decide_eq_false h9]; exact cmpF rfl (by simp only [cmpP]; omega))) ?_)
                refine xr_op rfl rfl (xv_assign rfl ?_)
                refine xr_end rfl ?_
                refine th_n ?_
                refine xc_seq (xc_region ?_)
                refine xr_op rfl rfl (xv_move rfl ?_)
                refine xr_op rfl rfl (xv_move rfl ?_)
                refine xr_op rfl rfl (xv_add rfl rfl (wrap_i64 Om_ Om_) ?_)
                refine xr_op rfl rfl (xv_move rfl ?_)
                refine xr_op rfl rfl (xv_move rfl ?_)
                refine xr_op rfl rfl (xv_move rfl ?_)
                refine xr_op rfl rfl (xv_calls rfl hb58 (ih (b1 - ((Go.Sort.partition (ltc cm) d3 a1 b1 pv).1 + 1)) Om_ hA4 hN hf (show (((Go.Sort.partition (ltc cm) d3 a1 b1 pv).1 : Nat) : Int) + 1 = (((Go.Sort.partition (ltc cm) d3 a1 b1 pv).1 + 1 : Nat) : Int) by omega) rfl rfl Om_ Om_ (Nat.le_refl _) Om_ (fun hA5 => up_ret ?_)))
                refine xr_end rfl ?_
                refine th_n ?_
                refine xc_region ?_
                refine xr_op rfl rfl (xv_move rfl ?_)
                refine xr_op rfl rfl (xv_assign rfl ?_)
                refine xr_end rfl ?_
                refine bk_n ?_
                exact rnd (⟨a1, (Go.Sort.partition (ltc cm) d3 a1 b1 pv).1, l2, decide (b1 - (Go.Sort.partition (ltc cm) d3 a1 b1 pv).1 ≥ (b1 - a1) / 8), (Go.Sort.partition (ltc cm) d3 a1 b1 pv).2.1, Go.Sort.pdq (ltc cm) (Go.Sort.partition (ltc cm) d3 a1 b1 pv).2.2 ((Go.Sort.partition (ltc cm) d3 a1 b1 pv).1 + 1) b1 l2 true true⟩ : PdqS Share) ⟨by (first|omega|(dsimp only at *;omega)|(simp at *;omega)), by (first|omega|(dsimp only at *;omega)|(simp at *;omega)), by (first|omega|(dsimp only at *;omega)|(simp at *;omega)), by (first|omega|(dsimp only at *;omega)|(simp at *;omega)), hA5, by
                  have e := pdq_part (mid := (Go.Sort.partition (ltc cm) d3 a1 b1 pv).1) (ap := (Go.Sort.partition (ltc cm) d3 a1 b1 pv).2.1) (d4 := (Go.Sort.partition (ltc cm) d3 a1 b1 pv).2.2) (lt := ltc cm) (d := d1) (a := a1) (b := b1) (limit := l1) (wb := wb) (wp := wp) Om_ Om_ Om_; rw [← hd2] at e; rw [← hd3, ← hph] at e; rw [← hpv, ← hl2] at e
                  have e2 := e hno hnl rfl hm1 hm2
                  rw [if_neg Om_] at e2
                  exact e2.symm.trans heq⟩ Om_ (le_put (le_put (le_put (le_put (le_put (le_put (le_put (le_emp _) rfl) (by first | rfl | (dsimp only; rw [show (((Go.Sort.partition (ltc cm) d3 a1 b1 pv).1 + 1 : Nat) : Int) = (((Go.Sort.partition (ltc cm) d3 a1 b1 pv).1 : Nat) : Int) + 1 by omega]; rfl))) rfl) rfl) rfl) rfl) rfl) Su_

theorem pdq_all (m : Nat) : PdqOk m := by
  induction m using Nat.strongRecOn with
  | ind m ih => exact pdq_step ih

theorem sort_c {bb cap N : Nat} {sp : List Value} {d : Array Share} {f : Value} {cm : Share → Share → Int} {p : Share → Prop} {L : Hp} {R : Ending → Hp → Prop} (hA : Arr N p d) (hN : N ≤ 49) (hf : ∀ x y, p x → p y → ∀ H R', L ⊆ H → R' (.returned (I (cm x y))) H → AFn Try.prog f [.agg ⟨eShare x⟩, .agg ⟨eShare y⟩] H R') (hs : Go.Sort.SWO (ltc cm)) (H : ∀ d2 : Array Share, Arr N p d2 → Go.Sort.PermIn 0 N d d2 → Go.Sort.SortedIn (ltc cm) 0 N d2 → R (.returned (.tuple #[])) ((bb, .cells ⟨(d2).toList.flatMap eShare ++ sp⟩ 76) :: L)) :
    ACalls Try.prog 24 ⟨[.slice (some ⟨bb, 0, none⟩) N cap, f]⟩ ((bb, .cells ⟨(d).toList.flatMap eShare ++ sp⟩ 76) :: L) R := by
  refine calls_of_xc (N := 14) Try.func24 rfl (by rfl) ?_
  have hps := Go.Sort.pdq_sorts (ltc cm) hs d 0 N (Go.Sort.bitsLen N) true true (Nat.zero_le _) (by rw [hA.size]; exact Nat.le_refl _) (.inl rfl)
  have hbl := len8 hN
  refine xc_seq (xc_region ?_)
  refine xr_op rfl rfl (xv_move rfl ?_)
  refine xr_op rfl rfl (xv_len sl95 rfl ?_)
  refine xr_op rfl rfl (xv_assign rfl ?_)
  refine xr_end rfl ?_
  refine th_n ?_
  refine xc_region ?_
  refine xr_op rfl rfl (xv_move rfl ?_)
  refine xr_op rfl rfl (xv_move rfl ?_)
  refine xr_op rfl rfl (xv_move rfl ?_)
  refine xr_op rfl rfl (xv_convI (m := (N : Int)) Try.underlying3 Try.underlying107 rfl (wrap_u64 (by omega) (by omega)) ?_)
  refine xr_op rfl rfl (xv_calls rfl hb59 (len_c (n := N) rfl hN (up_ret ?_)))
  refine xr_op rfl rfl (xv_move rfl ?_)
  refine xr_op rfl rfl (xv_calls rfl hb58 (pdq_all N hA hN hf (show (0 : Int) = ((0 : Nat) : Int) from rfl) rfl rfl (Nat.zero_le _) (Nat.le_refl _) (by omega) (by omega) (fun hA2 => up_ret ?_)))
  refine xr_end rfl ?_
  refine body_end (h' := ((bb, .cells ⟨(Go.Sort.pdq (ltc cm) d 0 N (Go.Sort.bitsLen N) true true).toList.flatMap eShare ++ sp⟩ 76) :: L)) rfl ro_nil Su_ ?_
  exact H _ hA2 hps.1 hps.2

theorem ins0_c {f : Value} {h : Hp} {R : Ending → Hp → Prop} (H : R (.returned (.tuple #[])) h) : ACalls Try.prog 61 ⟨[.slice none 0 0, I 0, I 0, f]⟩ h R := by
  refine calls_of_xc (N := 53) Try.func61 rfl (by rfl) ?_
  refine xc_seq (xc_region ?_)
  refine xr_op rfl rfl (xv_move rfl ?_)
  refine xr_op rfl rfl (xv_add rfl rfl (wrap_i64 Om_ Om_) ?_)
  refine xr_op rfl rfl (xv_assign rfl ?_)
  refine xr_end rfl ?_
  refine th_n ?_
  refine xc_block ?_
  refine xc_loop (σ := Unit) (fun _ => True) (fun _ => ((emp.put (some 2) (I 0)).put (some 8) (I ((0 : Int) + 1)))) (fun _ => h) (fun _ => 0) () trivial (le_put (le_put (le_emp _) rfl) rfl) Su_ ?_
  rintro ⟨⟩ _
  refine xc_seq ?_
  refine xc_seq (xc_region ?_)
  refine xr_op rfl rfl (xv_move rfl ?_)
  refine xr_op rfl rfl (xv_move rfl ?_)
  refine xr_op rfl rfl (xv_cmpK (c := false) rfl rfl (by simp [cmpB]) ?_)
  refine xr_end rfl ?_
  refine th_n ?_
  refine xc_false rfl ?_
  refine xc_exit ?_
  refine th_x ?_
  refine th_x ?_
  refine bk_same ?_
  refine body_end (h' := h) rfl ro_nil Su_ ?_
  exact H

theorem pdq0_c {f : Value} {l : Int} {h : Hp} {R : Ending → Hp → Prop} (H : R (.returned (.tuple #[])) h) : ACalls Try.prog 40 ⟨[.slice none 0 0, I 0, I 0, I l, f]⟩ h R := by
  refine calls_of_xc (N := 148) Try.func40 rfl (by rfl) ?_
  refine xc_seq (xc_region ?_)
  refine xr_op rfl rfl (xv_assign rfl ?_)
  refine xr_end rfl ?_
  refine th_n ?_
  refine xc_seq (xc_region ?_)
  refine xr_op rfl rfl (xv_assign rfl ?_)
  refine xr_end rfl ?_
  refine th_n ?_
  refine xc_block ?_
  refine xc_loop (σ := Unit) (fun _ => True) (fun _ => ((((emp.put (some 0) (.slice none 0 0)).put (some 1) (I 0)).put (some 2) (I 0)).put (some 4) (f))) (fun _ => h) (fun _ => 0) () trivial (le_put (le_put (le_put (le_put (le_emp _) rfl) rfl) rfl) rfl) Su_ ?_
  rintro ⟨⟩ _
  refine xc_block ?_
  refine xc_seq (xc_region ?_)
  refine xr_op rfl rfl (xv_move rfl ?_)
  refine xr_op rfl rfl (xv_move rfl ?_)
  refine xr_op rfl rfl (xv_sub rfl rfl (wrap_i64 Om_ Om_) ?_)
  refine xr_op rfl rfl (xv_assign rfl ?_)
  refine xr_end rfl ?_
  refine th_n ?_
  refine xc_seq ?_
  refine xc_seq (xc_region ?_)
  refine xr_op rfl rfl (xv_move rfl ?_)
  refine xr_op rfl rfl (xv_cmpK (c := true) rfl rfl (by simp [cmpB]) ?_)
  refine xr_end rfl ?_
  refine th_n ?_
  refine xc_true rfl ?_
  refine xc_seq (xc_region ?_)
  refine xr_op rfl rfl (xv_move rfl ?_)
  refine xr_op rfl rfl (xv_move rfl ?_)
  refine xr_op rfl rfl (xv_move rfl ?_)
  refine xr_op rfl rfl (xv_move rfl ?_)
  refine xr_op rfl rfl (xv_calls rfl hb63 (ins0_c (up_ret ?_)))
  refine xr_end rfl ?_
  refine th_n ?_
  refine xc_ret ?_
  refine th_r ?_
  refine bk_r ?_
  refine th_r ?_
  refine bk_r ?_
  refine body_ret (h' := h) rfl ro_nil Su_ ?_
  exact H

theorem sort0_c {f : Value} {h : Hp} {R : Ending → Hp → Prop} (H : R (.returned (.tuple #[])) h) : ACalls Try.prog 24 ⟨[.slice none 0 0, f]⟩ h R := by
  refine calls_of_xc (N := 14) Try.func24 rfl (by rfl) ?_
  refine xc_seq (xc_region ?_)
  refine xr_op rfl rfl (xv_move rfl ?_)
  refine xr_op rfl rfl (xv_len sl95 rfl ?_)
  refine xr_op rfl rfl (xv_assign rfl ?_)
  refine xr_end rfl ?_
  refine th_n ?_
  refine xc_region ?_
  refine xr_op rfl rfl (xv_move rfl ?_)
  refine xr_op rfl rfl (xv_move rfl ?_)
  refine xr_op rfl rfl (xv_move rfl ?_)
  refine xr_op rfl rfl (xv_convI (m := ((0 : Nat) : Int)) Try.underlying3 Try.underlying107 rfl (by decide) ?_)
  refine xr_op rfl rfl (xv_calls rfl hb59 (len_c (n := 0) rfl (by decide) (up_ret ?_)))
  refine xr_op rfl rfl (xv_move rfl ?_)
  refine xr_op rfl rfl (xv_calls rfl hb58 (pdq0_c (up_ret ?_)))
  refine xr_end rfl ?_
  refine body_end (h' := h) rfl ro_nil Su_ ?_
  exact H

theorem sortV_c {V : Vec} {xs : List Share} {f : Value} {cm : Share → Share → Int} {L : Hp} {R : Ending → Hp → Prop} (hV : V.ok 2 xs.length (xs.flatMap eShare)) (hn : xs.length ≤ 49)
    (hf : ∀ x y, x ∈ xs → y ∈ xs → ∀ H R', L ⊆ H → R' (.returned (I (cm x y))) H → AFn Try.prog f [.agg ⟨eShare x⟩, .agg ⟨eShare y⟩] H R') (hs : Go.Sort.SWO (ltc cm))
    (H : ∀ ys : List Share, ys.Perm xs → ys.Pairwise (fun a b => ¬ cm b a < 0) → V.ok 2 ys.length (ys.flatMap eShare) → R (.returned (.tuple #[])) (V.hp 76 (ys.flatMap eShare) ++ L)) :
    ACalls Try.prog 24 ⟨[V.val xs.length, f]⟩ (V.hp 76 (xs.flatMap eShare) ++ L) R := by
  cases V with
  | nil =>
    obtain ⟨h1, h2⟩ := hV
    have hx : xs = [] := List.length_eq_zero_iff.1 h2
    subst hx
    exact sort0_c (H [] .nil .nil ⟨rfl, rfl⟩)
  | «at» b cap sp =>
    have hd : Arr xs.length (fun x => x ∈ xs) xs.toArray := ⟨by simp, fun i hi => by simp [hi]⟩
    refine sort_c (N := xs.length) (p := fun x => x ∈ xs) (d := xs.toArray) hd hn (fun x y hx hy H R' hs h2 => hf x y hx hy H R' hs h2) hs ?_
    intro d2 hA hp hso
    have e1 : d2.extract 0 xs.length = d2 := by rw [← hA.size]; simp
    have hpp : d2.toList.Perm xs := by
      have := hp.2.2
      rw [e1] at this
      simpa using this
    have hlen : d2.toList.length = xs.length := hpp.length_eq
    have hV2 : (Vec.at b cap sp).ok 2 d2.toList.length (d2.toList.flatMap eShare) := by
      obtain ⟨h1, h2, h3⟩ := hV
      rw [List.length_append, flat_lenM eShare_len] at h3
      refine ⟨flat_lenM eShare_len _, by rw [hlen]; exact h2, ?_⟩
      rw [List.length_append, flat_lenM eShare_len, hlen]; exact h3
    refine H d2.toList hpp ?_ hV2
    rw [List.pairwise_iff_getElem]
    intro i j hi hj hij
    have := hso i j (Nat.zero_le _) hij (by omega)
    have gi : d2[i]! = d2.toList[i] := by
      have := ca_list (d := d2) (k := i) (by simpa using hi)
      rw [List.getElem?_eq_getElem hi] at this
      exact (Option.some.inj this).symm
    have gj : d2[j]! = d2.toList[j] := by
      have := ca_list (d := d2) (k := j) (by simpa using hj)
      rw [List.getElem?_eq_getElem hj] at this
      exact (Option.some.inj this).symm
    rw [gi, gj] at this
    exact of_decide_eq_false this

end Go.Proofs.Ytmaldhbjhomdkaa.Coal

/-
  Walks.
-/
namespace Go.Proofs.Ytmaldhbjhomdkaa.Coal
open Go Go.H
set_option maxRecDepth 100000
set_option maxHeartbeats 8000000
set_option linter.all false
theorem first_c {l : List Share} {a : Option Addr} {c : Nat} {need : Int} {h : Hp} {R : Ending → Hp → Prop} (hl : SlV h 2 eShare a l) (hlen : l.length ≤ 1000) (hok : ∀ x ∈ l, ShareOk x) (hn0 : 0 ≤ need) (hn1 : need ≤ 1048576000) (H : R (.returned (I (fstP l need).1)) h) : ACalls Try.prog 27 ⟨[.slice a l.length c, I need]⟩ h R := by
  refine calls_of_xc (N := 29) Try.func27 rfl (by rfl) ?_
  refine xc_seq (xc_region ?_)
  refine xr_op rfl rfl (xv_assign rfl ?_)
  refine xr_end rfl ?_
  refine th_n ?_
  refine xc_seq ?_
  refine xc_seq (xc_region ?_)
  refine xr_op rfl rfl (xv_move rfl ?_)
  refine xr_op rfl rfl (xv_len sl95 rfl ?_)
  refine xr_op rfl rfl (xv_move rfl ?_)
  refine xr_end rfl ?_
  refine th_n ?_
  refine xc_block ?_
  refine xc_loop (σ := Nat) (fun k => k ≤ l.length) (fun k => (((((emp.put (some 1) (I (fstP (l.take k) need).2)).put (some 4) (I (fstP (l.take k) need).1)).put (some 8) (.slice a l.length c)).put (some 9) (I l.length)).put (some 10) (I k))) (fun k => h) (fun k => l.length - k) 0 (Nat.zero_le _) (le_put (le_put (le_put (le_put (le_put (le_emp _) rfl) rfl) rfl) rfl) rfl) Su_ ?_
  rintro k hk
  have hfb := fstP_bd hn0 hok k
  refine xc_seq (xc_region ?_)
  refine xr_op rfl rfl (xv_lss2 rfl rfl (fun q1 => ?_) (fun q1 => ?_))
  · refine xr_end rfl ?_
    refine th_n ?_
    refine xc_seq ?_
    refine xc_true rfl ?_
    refine xc_skip ?_
    refine th_n ?_
    refine xc_seq ?_
    refine xc_block ?_
    refine xc_seq (xc_region ?_)
    have hlto : k < l.length := by (first|omega|(dsimp only at *;omega)|(simp at *;omega))
    obtain ⟨bo, oo, lo, to, fzo, hao, hmo, hxo⟩ := (hl).at hlto
    obtain ⟨xo, hko⟩ : ∃ qq_, l[k]? = some qq_ := ⟨_, List.getElem?_eq_getElem hlto⟩
    obtain ⟨so1, so2, so3⟩ := hok xo (List.mem_of_getElem? hko)
    have hmb := mul_bdE (n := min (fstP (l.take k) need).2 xo.tons) (e := xo.each) (N := 1048576000) (by omega) (by omega) ⟨so2, so3⟩
    refine xr_op rfl rfl (xv_ia (sz := 2) (j := k) sl95 ty93 rfl (by rw [hao]; rfl) rfl Ix_ Om_ Om_ ?_)
    refine xr_op rfl rfl (xv_loadA ty93 rfl rfl Me_ (hxo (k) xo hko) rfl ?_)
    refine xr_op rfl rfl (xv_alloc ty93 (fun b6 hb6 => ?_))
    refine xr_op rfl rfl (xv_s ty93 rfl rfl Up_ Ev_ (by rfl) (by rfl) (by rfl) Ev_ ?_)
    refine xr_end rfl ?_
    refine th_n ?_
    refine xc_seq (xc_region ?_)
    refine xr_op rfl rfl (xv_move rfl ?_)
    refine xr_op rfl rfl (xv_faddr fl93_0 rfl ?_)
    refine xr_op rfl rfl (xv_load1 ty3 rfl rfl Me_ (by rfl) ?_)
    refine xr_op rfl rfl (xv_min rfl rfl rfl ?_)
    refine xr_op rfl rfl (xv_assign rfl ?_)
    refine xr_end rfl ?_
    refine th_n ?_
    refine xc_seq (xc_region ?_)
    refine xr_op rfl rfl (xv_move rfl ?_)
    refine xr_op rfl rfl (xv_move rfl ?_)
    refine xr_op rfl rfl (xv_faddr fl93_1 rfl ?_)
    refine xr_op rfl rfl (xv_load1 ty3 rfl rfl Me_ (by rfl) ?_)
    refine xr_op rfl rfl (xv_mul rfl rfl (wrap_i64 Om_ Om_) ?_)
    refine xr_op rfl rfl (xv_add rfl rfl (wrap_i64 Om_ Om_) ?_)
    refine xr_op rfl rfl (xv_assign rfl ?_)
    refine xr_end rfl ?_
    refine th_n ?_
    refine xc_region ?_
    refine xr_op rfl rfl (xv_move rfl ?_)
    refine xr_op rfl rfl (xv_move rfl ?_)
    refine xr_op rfl rfl (xv_sub rfl rfl (wrap_i64 Om_ Om_) ?_)
    refine xr_op rfl rfl (xv_assign rfl ?_)
    refine xr_end rfl ?_
    refine bk_n ?_
    refine th_n ?_
    refine xc_region ?_
    refine xr_op rfl rfl (xv_add rfl rfl (wrap_i64 Om_ Om_) ?_)
    refine xr_op rfl rfl (xv_move rfl ?_)
    refine xr_end rfl ?_
    have hft := fstP_take (need := need) hko
    exact rnd (k + 1) Om_ Om_ (le_put (le_put (le_put (le_put (le_put (le_emp _) (by rw [hft]; rfl)) (by rw [hft]; rfl)) rfl) rfl) rfl) Su_
  · refine xr_end rfl ?_
    refine th_n ?_
    refine xc_seq ?_
    refine xc_false rfl ?_
    refine xc_exit ?_
    refine th_x ?_
    refine th_x ?_
    refine bk_same ?_
    refine th_n ?_
    refine xc_seq (xc_region ?_)
    obtain rfl : k = l.length := by (first|omega|(dsimp only at *;omega)|(simp at *;omega))
    rw [List.take_length]
    refine xr_op rfl rfl (xv_move rfl ?_)
    refine xr_op rfl rfl (xv_assign rfl ?_)
    refine xr_end rfl ?_
    refine th_n ?_
    refine xc_ret ?_
    refine body_ret (h' := h) rfl (ro_tmp rfl ro_nil) Su_ ?_
    exact H

end Go.Proofs.Ytmaldhbjhomdkaa.Coal

/-
  A slice that is turned round in its place.
-/
set_option linter.all false
namespace Go.Proofs.Ytmaldhbjhomdkaa.Coal
open Go Go.H
def revK (xs : List Share) (k : Nat) : List Share := (List.range xs.length).map fun i => if i < k ∨ xs.length ≤ i + k then xs.getD (xs.length - 1 - i) default else xs.getD i default
theorem revK_len (xs : List Share) (k : Nat) : (revK xs k).length = xs.length := by simp [revK]
theorem revK_get {xs : List Share} {k i : Nat} (h : i < xs.length) : (revK xs k)[i]? = some (if i < k ∨ xs.length ≤ i + k then xs.getD (xs.length - 1 - i) default else xs.getD i default) := by simp [revK, h]
theorem revK_0 (xs : List Share) : revK xs 0 = xs := by
  refine List.ext_getElem? fun i => ?_
  by_cases h : i < xs.length
  · rw [revK_get h, if_neg (by omega), List.getD_eq_getElem?_getD, List.getElem?_eq_getElem h]; rfl
  · rw [List.getElem?_eq_none (by rw [revK_len]; omega), List.getElem?_eq_none (by omega)]
theorem revK_step {xs : List Share} {k : Nat} (h : k < xs.length - 1 - k) : ((revK xs k).set k (xs.getD (xs.length - 1 - k) default)).set (xs.length - 1 - k) (xs.getD k default) = revK xs (k + 1) := by
  refine List.ext_getElem? fun i => ?_
  by_cases hi : i < xs.length
  · rw [List.getElem?_set, List.getElem?_set, List.length_set, revK_len, revK_get hi, revK_get hi]
    by_cases h1 : xs.length - 1 - k = i
    · rw [if_pos h1, if_pos (by omega), if_pos (by omega), show xs.length - 1 - i = k by omega]
    · rw [if_neg h1]
      by_cases h2 : k = i
      · rw [if_pos h2, if_pos (by omega), if_pos (by omega), h2]
      · rw [if_neg h2]
        congr 1
        by_cases h3 : i < k ∨ xs.length ≤ i + k
        · rw [if_pos h3, if_pos (by omega)]
        · rw [if_neg h3, if_neg (by omega)]
  · rw [List.getElem?_eq_none (by rw [List.length_set, List.length_set, revK_len]; omega), List.getElem?_eq_none (by rw [revK_len]; omega)]
theorem revK_end {xs : List Share} {k : Nat} (h : ¬ (k : Int) < (xs.length : Int) - 1 - k) : revK xs k = xs.reverse := by
  refine List.ext_getElem? fun i => ?_
  by_cases hi : i < xs.length
  · rw [revK_get hi, List.getElem?_reverse hi]
    by_cases h3 : i < k ∨ xs.length ≤ i + k
    · rw [if_pos h3, List.getD_eq_getElem?_getD, List.getElem?_eq_getElem (by omega)]; rfl
    · rw [if_neg h3, show xs.length - 1 - i = i by omega, List.getD_eq_getElem?_getD, List.getElem?_eq_getElem hi]; rfl
  · rw [List.getElem?_eq_none (by rw [revK_len]; omega), List.getElem?_eq_none (by rw [List.length_reverse]; omega)]
end Go.Proofs.Ytmaldhbjhomdkaa.Coal

/-
  Walks.
-/
namespace Go.Proofs.Ytmaldhbjhomdkaa.Coal
open Go Go.H
set_option maxRecDepth 100000
set_option maxHeartbeats 8000000
set_option linter.all false
theorem reverse_c {xs : List Share} {bb cap : Nat} {sp : List Value} {h : Hp} {R : Ending → Hp → Prop} (hlen : xs.length ≤ 1000) (H : R (.returned (.tuple #[])) ((bb, .cells ⟨xs.reverse.flatMap eShare ++ sp⟩ 76) :: h)) : ACalls Try.prog 25 ⟨[.slice (some ⟨bb, 0, none⟩) xs.length cap]⟩ ((bb, .cells ⟨xs.flatMap eShare ++ sp⟩ 76) :: h) R := by
  refine calls_of_xc (N := 28) Try.func25 rfl (by rfl) ?_
  refine xc_seq (xc_region ?_)
  refine xr_op rfl rfl (xv_move rfl ?_)
  refine xr_op rfl rfl (xv_len sl95 rfl ?_)
  refine xr_op rfl rfl (xv_sub rfl rfl (wrap_i64 Om_ Om_) ?_)
  refine xr_op rfl rfl (xv_assign rfl ?_)
  refine xr_op rfl rfl (xv_assign rfl ?_)
  refine xr_end rfl ?_
  refine th_n ?_
  refine xc_block ?_
  refine xc_loop (σ := Nat) (fun k => k ≤ xs.length) (fun k => (((emp.put (some 0) (.slice (some ⟨bb, 0, none⟩) xs.length cap)).put (some 2) (I k)).put (some 3) (I ((xs.length : Int) - 1 - (k : Int))))) (fun k => ((bb, .cells ⟨(revK xs k).flatMap eShare ++ sp⟩ 76) :: h)) (fun k => xs.length - k) 0 (Nat.zero_le _) (le_put (le_put (le_put (le_emp _) rfl) rfl) (by show _ = some (I (_ - 0)); rw [Int.sub_zero]; rfl)) (by rw [revK_0]; (first|((repeat first|exact s_0|exact s_1|exact s_3|refine s_4 ?_|refine s_5 ?_|refine s_6 ?_|refine s_7 ?_);done)|((repeat first|exact s_0|exact s_1|exact s_3|refine s_4 ?_|refine s_5 ?_|refine s_6 ?_|refine s_8 ?_);done))) ?_
  rintro k hk
  refine xc_seq ?_
  refine xc_seq (xc_region ?_)
  refine xr_op rfl rfl (xv_move rfl ?_)
  refine xr_op rfl rfl (xv_move rfl ?_)
  refine xr_op rfl rfl (xv_lss2 rfl rfl (fun q1 => ?_) (fun q1 => ?_))
  · refine xr_end rfl ?_
    refine th_n ?_
    refine xc_true rfl ?_
    refine xc_skip ?_
    refine th_n ?_
    refine xc_seq ?_
    refine xc_block ?_
    refine xc_draw0 [(0, .S), (1, .S), (2, .S), (3, .S), (4, .S), (5, .S), (6, .S), (7, .R), (8, .S), (9, .S), (10, .S), (11, .R), (12, .S), (13, .O), (14, .S), (15, .O)] mixed (by kernel_rfl) ?_
    have hkq : k < xs.length - 1 - k := by (first|omega|(dsimp only at *;omega)|(simp at *;omega))
    have hg1 := revK_get (xs := xs) (k := k) (i := xs.length - 1 - k) (by omega)
    rw [if_neg (by omega)] at hg1
    have hg2 := revK_get (xs := xs) (k := k) (i := k) (by omega)
    rw [if_neg (by omega)] at hg2
    refine js_S rfl rfl (.inl rfl) (xv_move rfl ⟨rfl, rfl⟩) ?_
    refine js_S rfl rfl (.inl rfl) (xv_move rfl ⟨rfl, rfl⟩) ?_
    refine js_S rfl rfl (.inl rfl) (xv_move rfl ⟨rfl, rfl⟩) ?_
    refine js_S rfl rfl (.inl rfl) (xv_move rfl ⟨rfl, rfl⟩) ?_
    refine js_S rfl rfl (.inl rfl) (xv_move rfl ⟨rfl, rfl⟩) ?_
    refine js_S rfl rfl (.inl rfl) (xv_move rfl ⟨rfl, rfl⟩) ?_
    refine js_S rfl rfl (.inl rfl) (xv_ia (sz := 2) (j := xs.length - 1 - k) sl95 ty93 rfl rfl rfl (by omega) Om_ Om_ ⟨rfl, rfl⟩) ?_
    refine js_R0 rfl rfl (.inl rfl) (xv_loadA ty93 rfl rfl Me_ (flat_at eShare_len sp (revK xs k) (xs.length - 1 - k) hg1) rfl ⟨rfl, rfl⟩) ?_
    refine js_S rfl rfl (.inl rfl) (xv_move rfl ⟨rfl, rfl⟩) ?_
    refine js_S rfl rfl (.inl rfl) (xv_move rfl ⟨rfl, rfl⟩) ?_
    refine js_S rfl rfl (.inl rfl) (xv_ia (sz := 2) (j := k) sl95 ty93 rfl rfl rfl (by omega) Om_ Om_ ⟨rfl, rfl⟩) ?_
    refine js_R0 rfl rfl (.inl rfl) (xv_loadA ty93 rfl rfl Me_ (flat_at eShare_len sp (revK xs k) k hg2) rfl ⟨rfl, rfl⟩) ?_
    refine js_S rfl rfl (.inl rfl) (xv_ia (sz := 2) (j := k) sl95 ty93 rfl rfl rfl (by omega) Om_ Om_ ⟨rfl, rfl⟩) ?_
    refine js_O0 rfl rfl (.inl rfl) (xv_s ty93 rfl rfl Up_ rfl (by rfl) (by rfl) (Nat.ble_eq_true_of_le (by rw [List.length_append, flat_lenM eShare_len]; simp only [List.length_set, revK_len]; omega)) (splice_flat eShare_len sp (revK xs k) k (by simp only [List.length_set, revK_len]; omega)) ?_)
    refine js_S rfl rfl (.inl rfl) (xv_ia (sz := 2) (j := xs.length - 1 - k) sl95 ty93 rfl rfl rfl (by omega) Om_ Om_ ⟨rfl, rfl⟩) ?_
    refine js_O0 rfl rfl (.inl rfl) (xv_s ty93 rfl rfl Up_ rfl (by rfl) (by rfl) (Nat.ble_eq_true_of_le (by rw [List.length_append, flat_lenM eShare_len]; simp only [List.length_set, revK_len]; omega)) (splice_flat eShare_len sp ((revK xs k).set k (xs.getD (xs.length - 1 - k) default)) (xs.length - 1 - k) (by simp only [List.length_set, revK_len]; omega)) ?_)
    refine j_end0 ?_
    refine bk_n ?_
    refine th_n ?_
    refine xc_region ?_
    refine xr_op rfl rfl (xv_move rfl ?_)
    refine xr_op rfl rfl (xv_add rfl rfl (wrap_i64 Om_ Om_) ?_)
    refine xr_op rfl rfl (xv_move rfl ?_)
    refine xr_op rfl rfl (xv_sub rfl rfl (wrap_i64 Om_ Om_) ?_)
    refine xr_op rfl rfl (xv_assign rfl ?_)
    refine xr_op rfl rfl (xv_assign rfl ?_)
    refine xr_end rfl ?_
    exact rnd (k + 1) Om_ Om_ (le_put (le_put (le_put (le_emp _) rfl) rfl) (by rw [show (xs.length : Int) - 1 - ((k + 1 : Nat) : Int) = (xs.length : Int) - 1 - (k : Int) - 1 from by omega]; rfl)) (by rw [← revK_step (k := k) hkq]; (first|((repeat first|exact s_0|exact s_1|exact s_3|refine s_4 ?_|refine s_5 ?_|refine s_6 ?_|refine s_7 ?_);done)|((repeat first|exact s_0|exact s_1|exact s_3|refine s_4 ?_|refine s_5 ?_|refine s_6 ?_|refine s_8 ?_);done)))
  · refine xr_end rfl ?_
    refine th_n ?_
    refine xc_false rfl ?_
    refine xc_exit ?_
    refine th_x ?_
    refine th_x ?_
    refine bk_same ?_
    refine body_end (h' := ((bb, .cells ⟨(revK xs k).flatMap eShare ++ sp⟩ 76) :: h)) rfl ro_nil Su_ ?_
    (rw [← revK_end (k := k) (by omega)] at H; exact H)

end Go.Proofs.Ytmaldhbjhomdkaa.Coal

/-
  Walks.
-/
namespace Go.Proofs.Ytmaldhbjhomdkaa.Coal
open Go Go.H
set_option maxRecDepth 100000
set_option maxHeartbeats 8000000
set_option linter.all false
theorem given_c {h : Hp} {R : Ending → Hp → Prop} (H : R (.returned (.agg ⟨[.func (.func 35) ⟨[]⟩ ⟨[]⟩, .func (.func 36) ⟨[]⟩ ⟨[]⟩, .func (.func 37) ⟨[]⟩ ⟨[]⟩, .func (.func 38) ⟨[]⟩ ⟨[]⟩]⟩)) h) : ACalls Try.prog 21 ⟨[]⟩ h R := by
  refine calls_of_xc (N := 6) Try.func21 rfl (by rfl) ?_
  refine xc_seq (xc_region ?_)
  refine xr_op rfl rfl (xv_alloc ty90 (fun b0 hb0 => ?_))
  refine xr_end rfl ?_
  refine th_n ?_
  refine xc_seq (xc_region ?_)
  refine xr_op rfl rfl (xv_build bt89 rfl Ev_ ?_)
  refine xr_op rfl rfl (xv_build bt89 rfl Ev_ ?_)
  refine xr_op rfl rfl (xv_build bt89 rfl Ev_ ?_)
  refine xr_op rfl rfl (xv_build bt89 rfl Ev_ ?_)
  refine xr_op rfl rfl (xv_build bt90 rfl Ev_ ?_)
  refine xr_op rfl rfl (xv_s ty90 rfl rfl Up_ Ev_ (by rfl) (by rfl) (by rfl) Ev_ ?_)
  refine xr_end rfl ?_
  refine th_n ?_
  refine xc_ret ?_
  refine body_ret (h' := h) rfl (ro_cellA ty90 rfl rfl Me_ (by rfl) (by rfl) ro_nil) Su_ ?_
  exact H

end Go.Proofs.Ytmaldhbjhomdkaa.Coal

/-
  Walks.
-/
namespace Go.Proofs.Ytmaldhbjhomdkaa.Coal
open Go Go.H
set_option maxRecDepth 100000
set_option maxHeartbeats 8000000
set_option linter.all false
theorem give54_c {c : Coal} {h : Hp} {R : Ending → Hp → Prop} (H : R (.returned (.agg ⟨eSpan c.gas⟩)) h) :
    ACalls Try.prog 35 ⟨[.agg ⟨eCoal c⟩]⟩ h R := by
  refine calls_of_xc (N := 5) Try.func35 rfl (by rfl) ?_
  refine xc_seq (xc_region ?_)
  refine xr_op rfl rfl (xv_box rfl (fun b1 hb1 => ?_))
  refine xr_op rfl rfl (xv_alloc ty33 (fun b2 hb2 => ?_))
  refine xr_end rfl ?_
  refine th_n ?_
  refine xc_seq (xc_region ?_)
  refine xr_op rfl rfl (xv_faddr fl59_0 rfl ?_)
  refine xr_op rfl rfl (xv_loadA ty33 rfl rfl Me_ Ev_ (by rfl) ?_)
  refine xr_op rfl rfl (xv_s ty33 rfl rfl Up_ Ev_ (by rfl) (by rfl) (by rfl) Ev_ ?_)
  refine xr_end rfl ?_
  refine th_n ?_
  refine xc_ret ?_
  refine body_ret (h' := h) rfl (ro_cellA ty33 rfl rfl Me_ (by rfl) (by rfl) ro_nil) Su_ ?_
  exact H

theorem give55_c {c : Coal} {h : Hp} {R : Ending → Hp → Prop} (H : R (.returned (.agg ⟨eSpan c.tar⟩)) h) :
    ACalls Try.prog 36 ⟨[.agg ⟨eCoal c⟩]⟩ h R := by
  refine calls_of_xc (N := 5) Try.func36 rfl (by rfl) ?_
  refine xc_seq (xc_region ?_)
  refine xr_op rfl rfl (xv_box rfl (fun b1 hb1 => ?_))
  refine xr_op rfl rfl (xv_alloc ty33 (fun b2 hb2 => ?_))
  refine xr_end rfl ?_
  refine th_n ?_
  refine xc_seq (xc_region ?_)
  refine xr_op rfl rfl (xv_faddr fl59_1 rfl ?_)
  refine xr_op rfl rfl (xv_loadA ty33 rfl rfl Me_ Ev_ (by rfl) ?_)
  refine xr_op rfl rfl (xv_s ty33 rfl rfl Up_ Ev_ (by rfl) (by rfl) (by rfl) Ev_ ?_)
  refine xr_end rfl ?_
  refine th_n ?_
  refine xc_ret ?_
  refine body_ret (h' := h) rfl (ro_cellA ty33 rfl rfl Me_ (by rfl) (by rfl) ro_nil) Su_ ?_
  exact H

theorem give56_c {c : Coal} {h : Hp} {R : Ending → Hp → Prop} (H : R (.returned (.agg ⟨eSpan c.sulphur⟩)) h) :
    ACalls Try.prog 37 ⟨[.agg ⟨eCoal c⟩]⟩ h R := by
  refine calls_of_xc (N := 5) Try.func37 rfl (by rfl) ?_
  refine xc_seq (xc_region ?_)
  refine xr_op rfl rfl (xv_box rfl (fun b1 hb1 => ?_))
  refine xr_op rfl rfl (xv_alloc ty33 (fun b2 hb2 => ?_))
  refine xr_end rfl ?_
  refine th_n ?_
  refine xc_seq (xc_region ?_)
  refine xr_op rfl rfl (xv_faddr fl59_2 rfl ?_)
  refine xr_op rfl rfl (xv_loadA ty33 rfl rfl Me_ Ev_ (by rfl) ?_)
  refine xr_op rfl rfl (xv_s ty33 rfl rfl Up_ Ev_ (by rfl) (by rfl) (by rfl) Ev_ ?_)
  refine xr_end rfl ?_
  refine th_n ?_
  refine xc_ret ?_
  refine body_ret (h' := h) rfl (ro_cellA ty33 rfl rfl Me_ (by rfl) (by rfl) ro_nil) Su_ ?_
  exact H

theorem give57_c {c : Coal} {h : Hp} {R : Ending → Hp → Prop} (H : R (.returned (.agg ⟨eSpan c.coke⟩)) h) :
    ACalls Try.prog 38 ⟨[.agg ⟨eCoal c⟩]⟩ h R := by
  refine calls_of_xc (N := 5) Try.func38 rfl (by rfl) ?_
  refine xc_seq (xc_region ?_)
  refine xr_op rfl rfl (xv_box rfl (fun b1 hb1 => ?_))
  refine xr_op rfl rfl (xv_alloc ty33 (fun b2 hb2 => ?_))
  refine xr_end rfl ?_
  refine th_n ?_
  refine xc_seq (xc_region ?_)
  refine xr_op rfl rfl (xv_faddr fl59_3 rfl ?_)
  refine xr_op rfl rfl (xv_loadA ty33 rfl rfl Me_ Ev_ (by rfl) ?_)
  refine xr_op rfl rfl (xv_s ty33 rfl rfl Up_ Ev_ (by rfl) (by rfl) (by rfl) Ev_ ?_)
  refine xr_end rfl ?_
  refine th_n ?_
  refine xc_ret ?_
  refine body_ret (h' := h) rfl (ro_cellA ty33 rfl rfl Me_ (by rfl) (by rfl) ro_nil) Su_ ?_
  exact H

theorem byEach_c {a b : Share} {h : Hp} {R : Ending → Hp → Prop} (ha : -100000 ≤ a.each ∧ a.each ≤ 100000) (hb : -100000 ≤ b.each ∧ b.each ≤ 100000) (H : R (.returned (I (a.each - b.each))) h) :
    ACalls Try.prog 22 ⟨[.agg ⟨eShare a⟩, .agg ⟨eShare b⟩]⟩ h R := by
  refine calls_of_xc (N := 10) Try.func22 rfl (by rfl) ?_
  refine xc_seq (xc_region ?_)
  refine xr_op rfl rfl (xv_box rfl (fun b1 hb1 => ?_))
  refine xr_op rfl rfl (xv_box rfl (fun b2 hb2 => ?_))
  refine xr_op rfl rfl (xv_assign rfl ?_)
  refine xr_end rfl ?_
  refine th_n ?_
  refine xc_seq (xc_region ?_)
  refine xr_op rfl rfl (xv_faddr fl93_1 rfl ?_)
  refine xr_op rfl rfl (xv_load1 ty3 rfl rfl Me_ (by rfl) ?_)
  refine xr_op rfl rfl (xv_faddr fl93_1 rfl ?_)
  refine xr_op rfl rfl (xv_load1 ty3 rfl rfl Me_ (by rfl) ?_)
  refine xr_op rfl rfl (xv_sub rfl rfl (wrap_i64 Om_ Om_) ?_)
  refine xr_op rfl rfl (xv_assign rfl ?_)
  refine xr_end rfl ?_
  refine th_n ?_
  refine xc_ret ?_
  refine body_ret (h' := h) rfl (ro_tmp rfl ro_nil) Su_ ?_
  exact H

theorem add_c {a b : Span} {h : Hp} {R : Ending → Hp → Prop} (ha : (-4000000000000000000 ≤ a.lo ∧ a.lo ≤ 4000000000000000000) ∧ -4000000000000000000 ≤ a.hi ∧ a.hi ≤ 4000000000000000000) (hb : (-4000000000000000000 ≤ b.lo ∧ b.lo ≤ 4000000000000000000) ∧ -4000000000000000000 ≤ b.hi ∧ b.hi ≤ 4000000000000000000) (H : R (.returned (.agg ⟨[I (a.lo + b.lo), I (a.hi + b.hi)]⟩)) h) :
    ACalls Try.prog 26 ⟨[.agg ⟨eSpan a⟩, .agg ⟨eSpan b⟩]⟩ h R := by
  refine calls_of_xc (N := 16) Try.func26 rfl (by rfl) ?_
  refine xc_seq (xc_region ?_)
  refine xr_op rfl rfl (xv_box rfl (fun b2 hb2 => ?_))
  refine xr_op rfl rfl (xv_box rfl (fun b3 hb3 => ?_))
  refine xr_op rfl rfl (xv_alloc ty75 (fun b4 hb4 => ?_))
  refine xr_end rfl ?_
  refine th_n ?_
  refine xc_seq (xc_region ?_)
  refine xr_op rfl rfl (xv_faddr fl75_0 rfl ?_)
  refine xr_op rfl rfl (xv_load1 ty3 rfl rfl Me_ (by rfl) ?_)
  refine xr_op rfl rfl (xv_faddr fl75_0 rfl ?_)
  refine xr_op rfl rfl (xv_load1 ty3 rfl rfl Me_ (by rfl) ?_)
  refine xr_op rfl rfl (xv_add rfl rfl (wrap_i64 Om_ Om_) ?_)
  refine xr_op rfl rfl (xv_faddr fl75_1 rfl ?_)
  refine xr_op rfl rfl (xv_load1 ty3 rfl rfl Me_ (by rfl) ?_)
  refine xr_op rfl rfl (xv_faddr fl75_1 rfl ?_)
  refine xr_op rfl rfl (xv_load1 ty3 rfl rfl Me_ (by rfl) ?_)
  refine xr_op rfl rfl (xv_add rfl rfl (wrap_i64 Om_ Om_) ?_)
  refine xr_op rfl rfl (xv_build bt75 rfl Ev_ ?_)
  refine xr_op rfl rfl (xv_s ty75 rfl rfl Up_ Ev_ (by rfl) (by rfl) (by rfl) Ev_ ?_)
  refine xr_end rfl ?_
  refine th_n ?_
  refine xc_ret ?_
  refine body_ret (h' := h) rfl (ro_cellA ty75 rfl rfl Me_ (by rfl) (by rfl) ro_nil) Su_ ?_
  exact H

theorem spanOf_c {a : Span} {h : Hp} {R : Ending → Hp → Prop} (H : R (.returned (.agg ⟨eSpan a⟩)) h) :
    ACalls Try.prog 28 ⟨[.agg ⟨eSpan a⟩]⟩ h R := by
  refine calls_of_xc (N := 8) Try.func28 rfl (by rfl) ?_
  refine xc_seq (xc_region ?_)
  refine xr_op rfl rfl (xv_box rfl (fun b1 hb1 => ?_))
  refine xr_op rfl rfl (xv_alloc ty33 (fun b2 hb2 => ?_))
  refine xr_end rfl ?_
  refine th_n ?_
  refine xc_seq (xc_region ?_)
  refine xr_op rfl rfl (xv_faddr fl75_0 rfl ?_)
  refine xr_op rfl rfl (xv_load1 ty3 rfl rfl Me_ (by rfl) ?_)
  refine xr_op rfl rfl (xv_faddr fl75_1 rfl ?_)
  refine xr_op rfl rfl (xv_load1 ty3 rfl rfl Me_ (by rfl) ?_)
  refine xr_op rfl rfl (xv_build bt33 rfl Ev_ ?_)
  refine xr_op rfl rfl (xv_s ty33 rfl rfl Up_ Ev_ (by rfl) (by rfl) (by rfl) Ev_ ?_)
  refine xr_end rfl ?_
  refine th_n ?_
  refine xc_ret ?_
  refine body_ret (h' := h) rfl (ro_cellA ty33 rfl rfl Me_ (by rfl) (by rfl) ro_nil) Su_ ?_
  exact H

end Go.Proofs.Ytmaldhbjhomdkaa.Coal

/-
  Walks.
-/
namespace Go.Proofs.Ytmaldhbjhomdkaa.Coal
open Go Go.H
set_option maxRecDepth 100000
set_option maxHeartbeats 8000000
set_option linter.all false
theorem indexMoveS_c {a : Option Addr} {c : Nat} {xs : List Move} {f : Value} {p : Nat → Move → Bool} {Hs : Nat → Hp} {R : Ending → Hp → Prop} (hs : ∀ k, SlV (Hs k) 3 eMove a xs) (hlen : xs.length ≤ 4611686018427387904)
    (hf : ∀ (k : Nat) (x : Move), xs[k]? = some x → ∀ R', R' (.returned (.bool (p k x))) (Hs (k + 1)) → AFn Try.prog f [.agg ⟨eMove x⟩] (Hs k) R')
    (H1 : ∀ (k : Nat) (x : Move), xs[k]? = some x → p k x = true → R (.returned (I k)) (Hs (k + 1))) (H2 : (∀ (k : Nat) (x : Move), xs[k]? = some x → p k x = false) → R (.returned (I (-1))) (Hs xs.length)) :
    ACalls Try.prog 75 ⟨[.slice a xs.length c, f]⟩ (Hs 0) R := by
  refine calls_of_xc (N := 19) Try.func75 rfl (by rfl) ?_
  refine xc_seq (xc_region ?_)
  refine xr_op rfl rfl (xv_assign rfl ?_)
  refine xr_end rfl ?_
  refine th_n ?_
  refine xc_seq ?_
  refine xc_seq (xc_region ?_)
  refine xr_op rfl rfl (xv_move rfl ?_)
  refine xr_op rfl rfl (xv_len sl23 rfl ?_)
  refine xr_op rfl rfl (xv_move rfl ?_)
  refine xr_end rfl ?_
  refine th_n ?_
  refine xc_block ?_
  refine xc_loop (σ := Nat) (fun k => k ≤ xs.length ∧ ∀ j x, j < k → xs[j]? = some x → p j x = false) (fun k => ((((emp.put (some 0) (.slice a xs.length c)).put (some 1) (f)).put (some 7) (I xs.length)).put (some 8) (I k))) (fun k => (Hs k)) (fun k => xs.length - k) 0 ⟨Nat.zero_le _, fun _ _ h0 => absurd h0 (Nat.not_lt_zero _)⟩ (le_put (le_put (le_put (le_put (le_emp _) rfl) rfl) rfl) rfl) Su_ ?_
  rintro k ⟨hk, hall⟩
  refine xc_seq (xc_region ?_)
  refine xr_op rfl rfl (xv_lss2 rfl rfl (fun q1 => ?_) (fun q1 => ?_))
  · refine xr_end rfl ?_
    refine th_n ?_
    refine xc_seq ?_
    refine xc_true rfl ?_
    refine xc_skip ?_
    refine th_n ?_
    refine xc_seq ?_
    refine xc_block ?_
    refine xc_seq (xc_region ?_)
    refine xr_op rfl rfl (xv_move rfl ?_)
    refine xr_op rfl rfl (xv_assign rfl ?_)
    refine xr_end rfl ?_
    refine th_n ?_
    refine xc_seq (xc_region ?_)
    refine xr_op rfl rfl (xv_move rfl ?_)
    refine xr_op rfl rfl (xv_move rfl ?_)
    refine xr_op rfl rfl (xv_move rfl ?_)
    have hlt : k < xs.length := by omega
    obtain ⟨b, o, l, t, fz, rfl, hm, hx⟩ := (hs k).at hlt
    obtain ⟨x, hkx⟩ : ∃ x, xs[k]? = some x := ⟨_, List.getElem?_eq_getElem hlt⟩
    refine xr_op rfl rfl (xv_ia (sz := 3) sl23 ty63 rfl rfl rfl Ix_ Om_ Om_ ?_)
    refine xr_op rfl rfl (xv_loadA ty63 rfl rfl hm (hx k x hkx) rfl ?_)
    refine xr_op rfl rfl (xv_fn rfl rfl (hf k x hkx _ (up_ret ?_)))
    refine xr_end rfl ?_
    refine th_n ?_
    refine xc_bool rfl (fun q2 => ?_) (fun q2 => ?_)
    · refine xc_seq (xc_region ?_)
      refine xr_op rfl rfl (xv_move rfl ?_)
      refine xr_op rfl rfl (xv_assign rfl ?_)
      refine xr_end rfl ?_
      refine th_n ?_
      refine xc_ret ?_
      refine bk_r ?_
      refine th_r ?_
      refine th_r ?_
      refine bk_r ?_
      refine th_r ?_
      refine body_ret (h' := (Hs (k + 1))) rfl (ro_tmp rfl ro_nil) Su_ ?_
      first | exact H1 k x hkx (by assumption) | exact H2 (fun j x hj => hall j x (List.getElem?_eq_some_iff.1 hj).1 hj)
    · refine xc_skip ?_
      refine bk_n ?_
      refine th_n ?_
      refine xc_region ?_
      refine xr_op rfl rfl (xv_add rfl rfl (wrap_i64 Om_ Om_) ?_)
      refine xr_op rfl rfl (xv_move rfl ?_)
      refine xr_end rfl ?_
      exact rnd (k + 1) ⟨by omega, fun j y hj hy => by
        rcases Nat.lt_succ_iff_lt_or_eq.1 hj with hj | rfl
        · exact hall j y hj hy
        · rw [hkx] at hy; cases hy; assumption⟩ (by omega) (le_put (le_put (le_put (le_put (le_emp _) rfl) rfl) rfl) rfl) Su_
  · refine xr_end rfl ?_
    refine th_n ?_
    refine xc_seq ?_
    refine xc_false rfl ?_
    refine xc_exit ?_
    refine th_x ?_
    refine th_x ?_
    refine bk_same ?_
    refine th_n ?_
    refine xc_seq (xc_region ?_)
    obtain rfl : k = xs.length := by omega
    refine xr_op rfl rfl (xv_assign rfl ?_)
    refine xr_end rfl ?_
    refine th_n ?_
    refine xc_ret ?_
    refine body_ret (h' := (Hs xs.length)) rfl (ro_tmp rfl ro_nil) Su_ ?_
    first | exact H1 k x hkx (by assumption) | exact H2 (fun j x hj => hall j x (List.getElem?_eq_some_iff.1 hj).1 hj)

theorem containsMoveS_c {a : Option Addr} {c : Nat} {xs : List Move} {f : Value} {p : Nat → Move → Bool} {Hs : Nat → Hp} {R : Ending → Hp → Prop} (hs : ∀ k, SlV (Hs k) 3 eMove a xs) (hlen : xs.length ≤ 4611686018427387904)
    (hf : ∀ (k : Nat) (x : Move), xs[k]? = some x → ∀ R', R' (.returned (.bool (p k x))) (Hs (k + 1)) → AFn Try.prog f [.agg ⟨eMove x⟩] (Hs k) R')
    (H1 : ∀ (k : Nat) (x : Move), xs[k]? = some x → p k x = true → R (.returned (.bool true)) (Hs (k + 1))) (H2 : (∀ (k : Nat) (x : Move), xs[k]? = some x → p k x = false) → R (.returned (.bool false)) (Hs xs.length)) :
    ACalls Try.prog 60 ⟨[.slice a xs.length c, f]⟩ (Hs 0) R := by
  refine calls_of_xc (N := 9) Try.func60 rfl (by rfl) ?_
  refine xc_seq (xc_region ?_)
  refine xr_op rfl rfl (xv_assign rfl ?_)
  refine xr_end rfl ?_
  refine th_n ?_
  refine xc_seq (xc_region ?_)
  refine xr_op rfl rfl (xv_move rfl ?_)
  refine xr_op rfl rfl (xv_move rfl ?_)
  refine xr_op rfl rfl (xv_calls rfl hb73 (indexMoveS_c hs hlen hf (fun k x hkx hpx => up_ret ?_) (fun hno => up_ret ?_)))
  · refine xr_op rfl rfl (xv_cmpK rfl rfl (cmpT (by simp only [cmpP]; (first|omega|(dsimp only at *;omega)|(simp at *;omega)))) ?_)
    refine xr_op rfl rfl (xv_assign rfl ?_)
    refine xr_end rfl ?_
    refine th_n ?_
    refine xc_ret ?_
    refine body_ret (h' := _) rfl (ro_tmp rfl ro_nil) Su_ ?_
    first | exact H1 k x hkx hpx | exact H2 hno
  · refine xr_op rfl rfl (xv_cmpK rfl rfl (cmpF rfl (by simp only [cmpP]; (first|omega|(dsimp only at *;omega)|(simp at *;omega)))) ?_)
    refine xr_op rfl rfl (xv_assign rfl ?_)
    refine xr_end rfl ?_
    refine th_n ?_
    refine xc_ret ?_
    refine body_ret (h' := _) rfl (ro_tmp rfl ro_nil) Su_ ?_
    first | exact H1 k x hkx hpx | exact H2 hno

end Go.Proofs.Ytmaldhbjhomdkaa.Coal

/-
  Walks.
-/
namespace Go.Proofs.Ytmaldhbjhomdkaa.Coal
open Go Go.H
set_option maxRecDepth 100000
set_option maxHeartbeats 8000000
set_option linter.all false
theorem bad_c {y : Yard} {m : Move} {last : Int} {bl b1 : Nat} {g : Hp} {R : Ending → Hp → Prop} (m1 : (b1, .cells ⟨eYard y⟩ 25 (0, 0)) ∈ g) (hcl : y.coals.length ≤ 1000) (H : R (.returned (.bool (!decide (moveOk y.coals.length last m)))) ((bl, .cells ⟨[I m.hour]⟩ 3) :: g)) :
    ACalls Try.prog 59 ⟨[.agg ⟨eMove m⟩, .pointer (some ⟨bl, 0, none⟩), .pointer (some ⟨b1, 0, none⟩)]⟩ ((bl, .cells ⟨[I last]⟩ 3) :: g) R := by
  refine calls_of_xc (N := 28) Try.func59 rfl (by rfl) ?_
  refine xc_seq (xc_region ?_)
  refine xr_op rfl rfl (xv_box rfl (fun b3 hb3 => ?_))
  refine xr_op rfl rfl (xv_assign rfl ?_)
  refine xr_end rfl ?_
  refine th_n ?_
  refine xc_seq (xc_region ?_)
  refine xr_op rfl rfl (xv_faddr fl63_0 rfl ?_)
  refine xr_op rfl rfl (xv_load1 ty3 rfl rfl Me_ (by rfl) ?_)
  refine xr_op rfl rfl (xv_load1 ty3 rfl rfl Me_ (by rfl) ?_)
  refine xr_op rfl rfl (xv_calls rfl hb31 (within_c _ _ _ (fun hl1 hu2 => up_ret ?_) (fun hn3 => up_ret ?_)))
  · refine xr_op rfl rfl (xv_move rfl ?_)
    refine xr_gd rfl rfl rfl (xv_faddr fl63_1 rfl ?_)
    refine xr_gd rfl rfl rfl (xv_load1 ty3 rfl rfl Me_ (by rfl) ?_)
    refine xr_gd rfl rfl rfl (xv_faddr fl25_0 rfl ?_)
    refine xr_gd rfl rfl rfl (xv_load1 ty22 rfl rfl Me_ (by rfl) ?_)
    refine xr_gd rfl rfl rfl (xv_len sl22 rfl ?_)
    refine xr_gd rfl rfl rfl (xv_sub rfl rfl (wrap_i64 Om_ Om_) ?_)
    refine xr_gd rfl rfl rfl (xv_calls rfl hb31 (within_c _ _ _ (fun hl4 hu5 => up_ret ?_) (fun hn6 => up_ret ?_)))
    · refine xr_op rfl rfl (xv_pick rfl rfl ?_)
      refine xr_op rfl rfl (xv_move rfl ?_)
      refine xr_gd rfl rfl rfl (xv_faddr fl63_2 rfl ?_)
      refine xr_gd rfl rfl rfl (xv_load1 ty3 rfl rfl Me_ (by rfl) ?_)
      refine xr_gd rfl rfl rfl (xv_calls rfl hb31 (within_c _ _ _ (fun hl7 hu8 => up_ret ?_) (fun hn9 => up_ret ?_)))
      · refine xr_op rfl rfl (xv_pick rfl rfl ?_)
        refine xr_op rfl rfl (xv_assign rfl ?_)
        refine xr_end rfl ?_
        refine th_n ?_
        refine xc_seq (xc_region ?_)
        refine xr_op rfl rfl (xv_faddr fl63_0 rfl ?_)
        refine xr_op rfl rfl (xv_load1 ty3 rfl rfl Me_ (by rfl) ?_)
        refine xr_op rfl rfl (xv_s1 ty3 rfl rfl rfl Up_ One_ Len_ Ev_ ?_)
        refine xr_end rfl ?_
        refine th_n ?_
        refine xc_seq (xc_region ?_)
        refine xr_op rfl rfl (xv_move rfl ?_)
        refine xr_op rfl rfl (xv_not rfl ?_)
        refine xr_op rfl rfl (xv_assign rfl ?_)
        refine xr_end rfl ?_
        refine th_n ?_
        refine xc_ret ?_
        refine body_ret (h' := ((bl, .cells ⟨[I m.hour]⟩ 3) :: g)) rfl (ro_tmp rfl ro_nil) Su_ ?_
        first | (rw [decide_eq_true (show moveOk y.coals.length last m from by unfold moveOk; omega)] at H; exact H) | (rw [decide_eq_false (show ¬ moveOk y.coals.length last m from fun hq => by unfold moveOk at hq; omega)] at H; exact H)
      · refine xr_op rfl rfl (xv_pick rfl rfl ?_)
        refine xr_op rfl rfl (xv_assign rfl ?_)
        refine xr_end rfl ?_
        refine th_n ?_
        refine xc_seq (xc_region ?_)
        refine xr_op rfl rfl (xv_faddr fl63_0 rfl ?_)
        refine xr_op rfl rfl (xv_load1 ty3 rfl rfl Me_ (by rfl) ?_)
        refine xr_op rfl rfl (xv_s1 ty3 rfl rfl rfl Up_ One_ Len_ Ev_ ?_)
        refine xr_end rfl ?_
        refine th_n ?_
        refine xc_seq (xc_region ?_)
        refine xr_op rfl rfl (xv_move rfl ?_)
        refine xr_op rfl rfl (xv_not rfl ?_)
        refine xr_op rfl rfl (xv_assign rfl ?_)
        refine xr_end rfl ?_
        refine th_n ?_
        refine xc_ret ?_
        refine body_ret (h' := ((bl, .cells ⟨[I m.hour]⟩ 3) :: g)) rfl (ro_tmp rfl ro_nil) Su_ ?_
        first | (rw [decide_eq_true (show moveOk y.coals.length last m from by unfold moveOk; omega)] at H; exact H) | (rw [decide_eq_false (show ¬ moveOk y.coals.length last m from fun hq => by unfold moveOk at hq; omega)] at H; exact H)
    · refine xr_op rfl rfl (xv_pick rfl rfl ?_)
      refine xr_op rfl rfl (xv_move rfl ?_)
      refine xr_no rfl rfl rfl rfl ?_
      refine xr_no rfl rfl rfl rfl ?_
      refine xr_no rfl rfl rfl rfl ?_
      refine xr_op rfl rfl (xv_pick rfl rfl ?_)
      refine xr_op rfl rfl (xv_assign rfl ?_)
      refine xr_end rfl ?_
      refine th_n ?_
      refine xc_seq (xc_region ?_)
      refine xr_op rfl rfl (xv_faddr fl63_0 rfl ?_)
      refine xr_op rfl rfl (xv_load1 ty3 rfl rfl Me_ (by rfl) ?_)
      refine xr_op rfl rfl (xv_s1 ty3 rfl rfl rfl Up_ One_ Len_ Ev_ ?_)
      refine xr_end rfl ?_
      refine th_n ?_
      refine xc_seq (xc_region ?_)
      refine xr_op rfl rfl (xv_move rfl ?_)
      refine xr_op rfl rfl (xv_not rfl ?_)
      refine xr_op rfl rfl (xv_assign rfl ?_)
      refine xr_end rfl ?_
      refine th_n ?_
      refine xc_ret ?_
      refine body_ret (h' := ((bl, .cells ⟨[I m.hour]⟩ 3) :: g)) rfl (ro_tmp rfl ro_nil) Su_ ?_
      first | (rw [decide_eq_true (show moveOk y.coals.length last m from by unfold moveOk; omega)] at H; exact H) | (rw [decide_eq_false (show ¬ moveOk y.coals.length last m from fun hq => by unfold moveOk at hq; omega)] at H; exact H)
  · refine xr_op rfl rfl (xv_move rfl ?_)
    refine xr_no rfl rfl rfl rfl ?_
    refine xr_no rfl rfl rfl rfl ?_
    refine xr_no rfl rfl rfl rfl ?_
    refine xr_no rfl rfl rfl rfl ?_
    refine xr_no rfl rfl rfl rfl ?_
    refine xr_no rfl rfl rfl rfl ?_
    refine xr_no rfl rfl rfl rfl ?_
    refine xr_op rfl rfl (xv_pick rfl rfl ?_)
    refine xr_op rfl rfl (xv_move rfl ?_)
    refine xr_no rfl rfl rfl rfl ?_
    refine xr_no rfl rfl rfl rfl ?_
    refine xr_no rfl rfl rfl rfl ?_
    refine xr_op rfl rfl (xv_pick rfl rfl ?_)
    refine xr_op rfl rfl (xv_assign rfl ?_)
    refine xr_end rfl ?_
    refine th_n ?_
    refine xc_seq (xc_region ?_)
    refine xr_op rfl rfl (xv_faddr fl63_0 rfl ?_)
    refine xr_op rfl rfl (xv_load1 ty3 rfl rfl Me_ (by rfl) ?_)
    refine xr_op rfl rfl (xv_s1 ty3 rfl rfl rfl Up_ One_ Len_ Ev_ ?_)
    refine xr_end rfl ?_
    refine th_n ?_
    refine xc_seq (xc_region ?_)
    refine xr_op rfl rfl (xv_move rfl ?_)
    refine xr_op rfl rfl (xv_not rfl ?_)
    refine xr_op rfl rfl (xv_assign rfl ?_)
    refine xr_end rfl ?_
    refine th_n ?_
    refine xc_ret ?_
    refine body_ret (h' := ((bl, .cells ⟨[I m.hour]⟩ 3) :: g)) rfl (ro_tmp rfl ro_nil) Su_ ?_
    first | (rw [decide_eq_true (show moveOk y.coals.length last m from by unfold moveOk; omega)] at H; exact H) | (rw [decide_eq_false (show ¬ moveOk y.coals.length last m from fun hq => by unfold moveOk at hq; omega)] at H; exact H)

end Go.Proofs.Ytmaldhbjhomdkaa.Coal
