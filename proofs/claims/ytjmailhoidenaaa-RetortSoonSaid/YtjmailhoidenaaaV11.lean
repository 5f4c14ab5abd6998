/-
  Walks.
-/
import Derived.Test.YtjmailhoidenaaaV10
import Derived.Test.YtjmailhoidenaaaP02r
import Derived.Test.YtjmailhoidenaaaA
namespace Go.Proofs.Ytjmailhoidenaaa
open Go Go.H
set_option maxRecDepth 100000
set_option maxHeartbeats 2000000
set_option linter.all false
theorem Soon_c {a al ab : Option Addr} {c cl cb : Nat} {w : House} {l : List Stoke} {own : Int} {by_ : List Byte} {h : Hp} {R : Ending → Hp → Prop} (hs : SlV h 2 eSpan a w.curve) (hl : SlV h 4 eStoke al l) (hbs : SlV h 1 eBy ab by_)
    (H : R (.returned (.bool true)) h) :
    ACalls Try.prog 7 ⟨[.agg ⟨eHouse a c w⟩, .slice al l.length cl, I own, .slice ab by_.length cb]⟩ h R := by
  refine calls_of_xc (N := 217) Try.func7 rfl (by rfl) ?_
  refine xc_seq (xc_region ?_)
  refine xr_op rfl rfl (xv_box rfl (fun cw hcw => ?_))
  refine xr_op rfl rfl (xv_box rfl (fun co hco => ?_))
  refine xr_op rfl rfl (xv_box rfl (fun cby hcby => ?_))
  refine xr_op rfl rfl (xv_assign rfl ?_)
  refine xr_end rfl ?_
  refine th_n ?_
  refine xc_seq ?_
  refine xc_seq (xc_region ?_)
  refine xr_op rfl rfl (xv_faddr fl24_0 rfl ?_)
  refine xr_op rfl rfl (xv_load1 ty22 rfl rfl (by (first|((repeat first|exact z_0|assumption|refine z_1 ?_|refine z_r ?_);done)|((repeat refine z_1 ?_);refine z_l ?_;(repeat first|exact z_0|assumption|refine z_1 ?_|refine z_r ?_);done)|((repeat refine z_1 ?_);refine z_r ?_;(repeat refine z_1 ?_);refine z_l ?_;(repeat first|exact z_0|assumption|refine z_1 ?_|refine z_r ?_);done)|((repeat first|exact z_0|assumption|refine z_1 ?_|refine z_l ?_);done))) (by rfl) ?_)
  refine xr_op rfl rfl (xv_len sl22 rfl ?_)
  refine xr_op rfl rfl (xv_gtr2 rfl rfl (fun q1 => ?_) (fun q1 => ?_))
  · refine xr_op rfl rfl (xv_move rfl ?_)
    refine xr_no rfl rfl rfl rfl ?_
    refine xr_no rfl rfl rfl rfl ?_
    refine xr_no rfl rfl rfl rfl ?_
    refine xr_op rfl rfl (xv_pick rfl rfl ?_)
    refine xr_op rfl rfl (xv_move rfl ?_)
    refine xr_no rfl rfl rfl rfl ?_
    refine xr_no rfl rfl rfl rfl ?_
    refine xr_no rfl rfl rfl rfl ?_
    refine xr_op rfl rfl (xv_pick rfl rfl ?_)
    refine xr_op rfl rfl (xv_move rfl ?_)
    refine xr_no rfl rfl rfl rfl ?_
    refine xr_no rfl rfl rfl rfl ?_
    refine xr_no rfl rfl rfl rfl ?_
    refine xr_op rfl rfl (xv_pick rfl rfl ?_)
    refine xr_end rfl ?_
    refine th_n ?_
    refine xc_true rfl ?_
    refine xc_seq (xc_region ?_)
    refine xr_op rfl rfl (xv_calls rfl hb10 (awake_c (up_ret ?_)))
    refine xr_op rfl rfl (xv_assign rfl ?_)
    refine xr_end rfl ?_
    refine th_n ?_
    refine xc_ret ?_
    refine th_r ?_
    refine body_ret (h' := h) rfl (ro_tmp rfl ro_nil) (by (first|((repeat first|exact s_0|exact s_1|exact s_3|refine s_4 ?_|refine s_5 ?_|refine s_6 ?_|refine s_7 ?_);done)|((repeat first|exact s_0|exact s_1|exact s_3|refine s_4 ?_|refine s_5 ?_|refine s_6 ?_|refine s_8 ?_);done))) ?_
    exact H
  · refine xr_op rfl rfl (xv_move rfl ?_)
    refine xr_gd rfl rfl rfl (xv_move rfl ?_)
    refine xr_gd rfl rfl rfl (xv_len sl25 rfl ?_)
    refine xr_gd rfl rfl rfl (xv_gtr2 rfl rfl (fun q2 => ?_) (fun q2 => ?_))
    · refine xr_op rfl rfl (xv_pick rfl rfl ?_)
      refine xr_op rfl rfl (xv_move rfl ?_)
      refine xr_no rfl rfl rfl rfl ?_
      refine xr_no rfl rfl rfl rfl ?_
      refine xr_no rfl rfl rfl rfl ?_
      refine xr_op rfl rfl (xv_pick rfl rfl ?_)
      refine xr_op rfl rfl (xv_move rfl ?_)
      refine xr_no rfl rfl rfl rfl ?_
      refine xr_no rfl rfl rfl rfl ?_
      refine xr_no rfl rfl rfl rfl ?_
      refine xr_op rfl rfl (xv_pick rfl rfl ?_)
      refine xr_end rfl ?_
      refine th_n ?_
      refine xc_true rfl ?_
      refine xc_seq (xc_region ?_)
      refine xr_op rfl rfl (xv_calls rfl hb10 (awake_c (up_ret ?_)))
      refine xr_op rfl rfl (xv_assign rfl ?_)
      refine xr_end rfl ?_
      refine th_n ?_
      refine xc_ret ?_
      refine th_r ?_
      refine body_ret (h' := h) rfl (ro_tmp rfl ro_nil) (by (first|((repeat first|exact s_0|exact s_1|exact s_3|refine s_4 ?_|refine s_5 ?_|refine s_6 ?_|refine s_7 ?_);done)|((repeat first|exact s_0|exact s_1|exact s_3|refine s_4 ?_|refine s_5 ?_|refine s_6 ?_|refine s_8 ?_);done))) ?_
      exact H
    · refine xr_op rfl rfl (xv_pick rfl rfl ?_)
      refine xr_op rfl rfl (xv_move rfl ?_)
      refine xr_gd rfl rfl rfl (xv_load1 ty52 rfl rfl (by (first|((repeat first|exact z_0|assumption|refine z_1 ?_|refine z_r ?_);done)|((repeat refine z_1 ?_);refine z_l ?_;(repeat first|exact z_0|assumption|refine z_1 ?_|refine z_r ?_);done)|((repeat refine z_1 ?_);refine z_r ?_;(repeat refine z_1 ?_);refine z_l ?_;(repeat first|exact z_0|assumption|refine z_1 ?_|refine z_r ?_);done)|((repeat first|exact z_0|assumption|refine z_1 ?_|refine z_l ?_);done))) (by rfl) ?_)
      refine xr_gd rfl rfl rfl (xv_len sl52 rfl ?_)
      refine xr_gd rfl rfl rfl (xv_eql2 rfl rfl (fun q3 => ?_) (fun q3 => ?_))
      · refine xr_op rfl rfl (xv_pick rfl rfl ?_)
        refine xr_op rfl rfl (xv_move rfl ?_)
        refine xr_no rfl rfl rfl rfl ?_
        refine xr_no rfl rfl rfl rfl ?_
        refine xr_no rfl rfl rfl rfl ?_
        refine xr_op rfl rfl (xv_pick rfl rfl ?_)
        refine xr_end rfl ?_
        refine th_n ?_
        refine xc_true rfl ?_
        refine xc_seq (xc_region ?_)
        refine xr_op rfl rfl (xv_calls rfl hb10 (awake_c (up_ret ?_)))
        refine xr_op rfl rfl (xv_assign rfl ?_)
        refine xr_end rfl ?_
        refine th_n ?_
        refine xc_ret ?_
        refine th_r ?_
        refine body_ret (h' := h) rfl (ro_tmp rfl ro_nil) (by (first|((repeat first|exact s_0|exact s_1|exact s_3|refine s_4 ?_|refine s_5 ?_|refine s_6 ?_|refine s_7 ?_);done)|((repeat first|exact s_0|exact s_1|exact s_3|refine s_4 ?_|refine s_5 ?_|refine s_6 ?_|refine s_8 ?_);done))) ?_
        exact H
      · refine xr_op rfl rfl (xv_pick rfl rfl ?_)
        refine xr_op rfl rfl (xv_move rfl ?_)
        refine xr_gd rfl rfl rfl (xv_load1 ty52 rfl rfl (by (first|((repeat first|exact z_0|assumption|refine z_1 ?_|refine z_r ?_);done)|((repeat refine z_1 ?_);refine z_l ?_;(repeat first|exact z_0|assumption|refine z_1 ?_|refine z_r ?_);done)|((repeat refine z_1 ?_);refine z_r ?_;(repeat refine z_1 ?_);refine z_l ?_;(repeat first|exact z_0|assumption|refine z_1 ?_|refine z_r ?_);done)|((repeat first|exact z_0|assumption|refine z_1 ?_|refine z_l ?_);done))) (by rfl) ?_)
        refine xr_gd rfl rfl rfl (xv_len sl52 rfl ?_)
        refine xr_gd rfl rfl rfl (xv_gtr2 rfl rfl (fun q4 => ?_) (fun q4 => ?_))
        · refine xr_op rfl rfl (xv_pick rfl rfl ?_)
          refine xr_end rfl ?_
          refine th_n ?_
          refine xc_true rfl ?_
          refine xc_seq (xc_region ?_)
          refine xr_op rfl rfl (xv_calls rfl hb10 (awake_c (up_ret ?_)))
          refine xr_op rfl rfl (xv_assign rfl ?_)
          refine xr_end rfl ?_
          refine th_n ?_
          refine xc_ret ?_
          refine th_r ?_
          refine body_ret (h' := h) rfl (ro_tmp rfl ro_nil) (by (first|((repeat first|exact s_0|exact s_1|exact s_3|refine s_4 ?_|refine s_5 ?_|refine s_6 ?_|refine s_7 ?_);done)|((repeat first|exact s_0|exact s_1|exact s_3|refine s_4 ?_|refine s_5 ?_|refine s_6 ?_|refine s_8 ?_);done))) ?_
          exact H
        · refine xr_op rfl rfl (xv_pick rfl rfl ?_)
          refine xr_end rfl ?_
          refine th_n ?_
          refine xc_false rfl ?_
          refine xc_skip ?_
          refine th_n ?_
          refine xc_seq (xc_region ?_)
          have hlen : w.curve.length ≤ 4611686018427387904 := Nat.le_trans (show w.curve.length ≤ 28 by omega) (by decide)
          have hl44 : l.length ≤ 44 := by omega
          have hby8 : by_.length ≤ 8 := by omega
          refine xr_op rfl rfl (xv_loadA ty24 rfl rfl (by (first|((repeat first|exact z_0|assumption|refine z_1 ?_|refine z_r ?_);done)|((repeat refine z_1 ?_);refine z_l ?_;(repeat first|exact z_0|assumption|refine z_1 ?_|refine z_r ?_);done)|((repeat refine z_1 ?_);refine z_r ?_;(repeat refine z_1 ?_);refine z_l ?_;(repeat first|exact z_0|assumption|refine z_1 ?_|refine z_r ?_);done)|((repeat first|exact z_0|assumption|refine z_1 ?_|refine z_l ?_);done))) (by ((try apply evl_some rfl);(repeat (first|exact (rfl : _ = [])|apply evl_cons rfl (by (first|exact v_1|exact v_2|exact v_3|exact v_4|exact v_5|exact v_6|exact v_7|exact v_8|exact v_9|exact rfl))|exact rfl)))) (by rfl) ?_)
          refine xr_op rfl rfl (xv_move rfl ?_)
          refine xr_op rfl rfl (xv_calls rfl hb11 (Play_c (hs.sub (by intro z hz; (first|((repeat first|exact z_0|assumption|refine z_1 ?_|refine z_r ?_);done)|((repeat refine z_1 ?_);refine z_l ?_;(repeat first|exact z_0|assumption|refine z_1 ?_|refine z_r ?_);done)|((repeat refine z_1 ?_);refine z_r ?_;(repeat refine z_1 ?_);refine z_l ?_;(repeat first|exact z_0|assumption|refine z_1 ?_|refine z_r ?_);done)|((repeat first|exact z_0|assumption|refine z_1 ?_|refine z_l ?_);done)))) hlen (hl.sub (by intro z hz; (first|((repeat first|exact z_0|assumption|refine z_1 ?_|refine z_r ?_);done)|((repeat refine z_1 ?_);refine z_l ?_;(repeat first|exact z_0|assumption|refine z_1 ?_|refine z_r ?_);done)|((repeat refine z_1 ?_);refine z_r ?_;(repeat refine z_1 ?_);refine z_l ?_;(repeat first|exact z_0|assumption|refine z_1 ?_|refine z_r ?_);done)|((repeat first|exact z_0|assumption|refine z_1 ?_|refine z_l ?_);done)))) (fun i e hpe => up_ret ?_) (fun S hpo hS => up_ret ?_)))
          · refine xr_op rfl rfl (xv_move rfl ?_)
            refine xr_op rfl rfl (xv_extract rfl rfl ?_)
            refine xr_op rfl rfl (xv_extract rfl rfl ?_)
            refine xr_op rfl rfl (xv_extract rfl rfl ?_)
            refine xr_op rfl rfl (xv_alloc ty30 (fun cov hcov => ?_))
            refine xr_op rfl rfl (xv_s ty30 rfl rfl (by (first|(apply u_3;(repeat first|exact u_0|assumption|apply u_1|apply u_2);done)|((repeat first|exact u_0|assumption|apply u_1|apply u_2);done)|(apply u_3;apply u_3;(repeat first|exact u_0|assumption|apply u_1|apply u_2);done)|((repeat first|exact u_0|assumption|apply u_3|apply u_1);done))) (by ((try apply evl_some rfl);(repeat (first|exact (rfl : _ = [])|apply evl_cons rfl (by (first|exact v_1|exact v_2|exact v_3|exact v_4|exact v_5|exact v_6|exact v_7|exact v_8|exact v_9|exact rfl))|exact rfl)))) (by rfl) (by rfl) (by rfl) (by ((try apply evl_some rfl);(repeat (first|exact (rfl : _ = [])|apply evl_cons rfl (by (first|exact v_1|exact v_2|exact v_3|exact v_4|exact v_5|exact v_6|exact v_7|exact v_8|exact v_9|exact rfl))|exact rfl)))) ?_)
            refine xr_op rfl rfl (xv_assign rfl ?_)
            refine xr_op rfl rfl (xv_assign rfl ?_)
            refine xr_end rfl ?_
            refine th_n ?_
            refine xc_seq (xc_region ?_)
            refine xr_op rfl rfl (xv_loadA ty24 rfl rfl (by (first|((repeat first|exact z_0|assumption|refine z_1 ?_|refine z_r ?_);done)|((repeat refine z_1 ?_);refine z_l ?_;(repeat first|exact z_0|assumption|refine z_1 ?_|refine z_r ?_);done)|((repeat refine z_1 ?_);refine z_r ?_;(repeat refine z_1 ?_);refine z_l ?_;(repeat first|exact z_0|assumption|refine z_1 ?_|refine z_r ?_);done)|((repeat first|exact z_0|assumption|refine z_1 ?_|refine z_l ?_);done))) (by ((try apply evl_some rfl);(repeat (first|exact (rfl : _ = [])|apply evl_cons rfl (by (first|exact v_1|exact v_2|exact v_3|exact v_4|exact v_5|exact v_6|exact v_7|exact v_8|exact v_9|exact rfl))|exact rfl)))) (by rfl) ?_)
            refine xr_op rfl rfl (xv_move rfl ?_)
            refine xr_op rfl rfl (xv_load1 ty3 rfl rfl (by (first|((repeat first|exact z_0|assumption|refine z_1 ?_|refine z_r ?_);done)|((repeat refine z_1 ?_);refine z_l ?_;(repeat first|exact z_0|assumption|refine z_1 ?_|refine z_r ?_);done)|((repeat refine z_1 ?_);refine z_r ?_;(repeat refine z_1 ?_);refine z_l ?_;(repeat first|exact z_0|assumption|refine z_1 ?_|refine z_r ?_);done)|((repeat first|exact z_0|assumption|refine z_1 ?_|refine z_l ?_);done))) (by rfl) ?_)
            refine xr_op rfl rfl (xv_calls rfl hb13 (Soonest_e (hs.sub (by intro z hz; (first|((repeat first|exact z_0|assumption|refine z_1 ?_|refine z_r ?_);done)|((repeat refine z_1 ?_);refine z_l ?_;(repeat first|exact z_0|assumption|refine z_1 ?_|refine z_r ?_);done)|((repeat refine z_1 ?_);refine z_r ?_;(repeat refine z_1 ?_);refine z_l ?_;(repeat first|exact z_0|assumption|refine z_1 ?_|refine z_r ?_);done)|((repeat first|exact z_0|assumption|refine z_1 ?_|refine z_l ?_);done)))) hlen (hl.sub (by intro z hz; (first|((repeat first|exact z_0|assumption|refine z_1 ?_|refine z_r ?_);done)|((repeat refine z_1 ?_);refine z_l ?_;(repeat first|exact z_0|assumption|refine z_1 ?_|refine z_r ?_);done)|((repeat refine z_1 ?_);refine z_r ?_;(repeat refine z_1 ?_);refine z_l ?_;(repeat first|exact z_0|assumption|refine z_1 ?_|refine z_r ?_);done)|((repeat first|exact z_0|assumption|refine z_1 ?_|refine z_l ?_);done)))) hpe (up_ret ?_)))
            refine xr_op rfl rfl (xv_move rfl ?_)
            refine xr_op rfl rfl (xv_extract rfl rfl ?_)
            refine xr_op rfl rfl (xv_extract rfl rfl ?_)
            refine xr_op rfl rfl (xv_assign rfl ?_)
            refine xr_op rfl rfl (xv_assign rfl ?_)
            refine xr_end rfl ?_
            refine th_n ?_
            refine xc_seq ?_
            refine xc_seq (xc_region ?_)
            refine xr_op rfl rfl (xv_move rfl ?_)
            refine xr_op rfl rfl (xv_neqT rfl rfl (play_err hpe) ?_)
            refine xr_op rfl rfl (xv_move rfl ?_)
            refine xr_no rfl rfl rfl rfl ?_
            refine xr_no rfl rfl rfl rfl ?_
            refine xr_op rfl rfl (xv_pick rfl rfl ?_)
            refine xr_op rfl rfl (xv_move rfl ?_)
            refine xr_no rfl rfl rfl rfl ?_
            refine xr_no rfl rfl rfl rfl ?_
            refine xr_op rfl rfl (xv_pick rfl rfl ?_)
            refine xr_end rfl ?_
            refine th_n ?_
            refine xc_true rfl ?_
            refine xc_seq (xc_region ?_)
            refine xr_op rfl rfl (xv_move rfl ?_)
            refine xr_op rfl rfl (xv_eqlT rfl rfl rfl ?_)
            refine xr_op rfl rfl (xv_move rfl ?_)
            refine xr_gd rfl rfl rfl (xv_move rfl ?_)
            refine xr_gd rfl rfl rfl (xv_move rfl ?_)
            refine xr_gd rfl rfl rfl (xv_eqlT rfl rfl rfl ?_)
            refine xr_gd rfl rfl rfl (xv_move rfl ?_)
            refine xr_gd rfl rfl rfl (xv_move rfl ?_)
            refine xr_gd rfl rfl rfl (xv_neqT rfl rfl (play_err hpe) ?_)
            refine xr_gd rfl rfl rfl (xv_pick rfl rfl ?_)
            refine xr_gd rfl rfl rfl (xv_move rfl ?_)
            refine xr_no rfl rfl rfl rfl ?_
            refine xr_no rfl rfl rfl rfl ?_
            refine xr_no rfl rfl rfl rfl ?_
            refine xr_nu rfl rfl rfl ?_
            refine xr_nu rfl rfl rfl ?_
            refine xr_no rfl rfl rfl rfl ?_
            refine xr_gd rfl rfl rfl (xv_pick rfl rfl ?_)
            refine xr_op rfl rfl (xv_pick rfl rfl ?_)
            refine xr_op rfl rfl (xv_move rfl ?_)
            refine xr_gd rfl rfl rfl (xv_calls rfl hb10 (awake_c (up_ret ?_)))
            refine xr_op rfl rfl (xv_pick rfl rfl ?_)
            refine xr_op rfl rfl (xv_assign rfl ?_)
            refine xr_end rfl ?_
            refine th_n ?_
            refine xc_ret ?_
            refine th_r ?_
            refine body_ret (h' := h) rfl (ro_tmp rfl ro_nil) (by (first|((repeat first|exact s_0|exact s_1|exact s_3|refine s_4 ?_|refine s_5 ?_|refine s_6 ?_|refine s_7 ?_);done)|((repeat first|exact s_0|exact s_1|exact s_3|refine s_4 ?_|refine s_5 ?_|refine s_6 ?_|refine s_8 ?_);done))) ?_
            exact H
          · refine xr_op rfl rfl (xv_move rfl ?_)
            refine xr_op rfl rfl (xv_extract rfl rfl ?_)
            refine xr_op rfl rfl (xv_extract rfl rfl ?_)
            refine xr_op rfl rfl (xv_extract rfl rfl ?_)
            refine xr_op rfl rfl (xv_alloc ty30 (fun cov hcov => ?_))
            refine xr_op rfl rfl (xv_s ty30 rfl rfl (by (first|(apply u_3;(repeat first|exact u_0|assumption|apply u_1|apply u_2);done)|((repeat first|exact u_0|assumption|apply u_1|apply u_2);done)|(apply u_3;apply u_3;(repeat first|exact u_0|assumption|apply u_1|apply u_2);done)|((repeat first|exact u_0|assumption|apply u_3|apply u_1);done))) (by ((try apply evl_some rfl);(repeat (first|exact (rfl : _ = [])|apply evl_cons rfl (by (first|exact v_1|exact v_2|exact v_3|exact v_4|exact v_5|exact v_6|exact v_7|exact v_8|exact v_9|exact rfl))|exact rfl)))) (by rfl) (by rfl) (by rfl) (by ((try apply evl_some rfl);(repeat (first|exact (rfl : _ = [])|apply evl_cons rfl (by (first|exact v_1|exact v_2|exact v_3|exact v_4|exact v_5|exact v_6|exact v_7|exact v_8|exact v_9|exact rfl))|exact rfl)))) ?_)
            refine xr_op rfl rfl (xv_assign rfl ?_)
            refine xr_op rfl rfl (xv_assign rfl ?_)
            refine xr_end rfl ?_
            refine th_n ?_
            refine xc_seq (xc_region ?_)
            refine xr_op rfl rfl (xv_loadA ty24 rfl rfl (by (first|((repeat first|exact z_0|assumption|refine z_1 ?_|refine z_r ?_);done)|((repeat refine z_1 ?_);refine z_l ?_;(repeat first|exact z_0|assumption|refine z_1 ?_|refine z_r ?_);done)|((repeat refine z_1 ?_);refine z_r ?_;(repeat refine z_1 ?_);refine z_l ?_;(repeat first|exact z_0|assumption|refine z_1 ?_|refine z_r ?_);done)|((repeat first|exact z_0|assumption|refine z_1 ?_|refine z_l ?_);done))) (by ((try apply evl_some rfl);(repeat (first|exact (rfl : _ = [])|apply evl_cons rfl (by (first|exact v_1|exact v_2|exact v_3|exact v_4|exact v_5|exact v_6|exact v_7|exact v_8|exact v_9|exact rfl))|exact rfl)))) (by rfl) ?_)
            refine xr_op rfl rfl (xv_move rfl ?_)
            refine xr_op rfl rfl (xv_load1 ty3 rfl rfl (by (first|((repeat first|exact z_0|assumption|refine z_1 ?_|refine z_r ?_);done)|((repeat refine z_1 ?_);refine z_l ?_;(repeat first|exact z_0|assumption|refine z_1 ?_|refine z_r ?_);done)|((repeat refine z_1 ?_);refine z_r ?_;(repeat refine z_1 ?_);refine z_l ?_;(repeat first|exact z_0|assumption|refine z_1 ?_|refine z_r ?_);done)|((repeat first|exact z_0|assumption|refine z_1 ?_|refine z_l ?_);done))) (by rfl) ?_)
            refine xr_op rfl rfl (xv_calls rfl hb13 (Soonest_o (hs.sub (by intro z hz; (first|((repeat first|exact z_0|assumption|refine z_1 ?_|refine z_r ?_);done)|((repeat refine z_1 ?_);refine z_l ?_;(repeat first|exact z_0|assumption|refine z_1 ?_|refine z_r ?_);done)|((repeat refine z_1 ?_);refine z_r ?_;(repeat refine z_1 ?_);refine z_l ?_;(repeat first|exact z_0|assumption|refine z_1 ?_|refine z_r ?_);done)|((repeat first|exact z_0|assumption|refine z_1 ?_|refine z_l ?_);done)))) hlen (hl.sub (by intro z hz; (first|((repeat first|exact z_0|assumption|refine z_1 ?_|refine z_r ?_);done)|((repeat refine z_1 ?_);refine z_l ?_;(repeat first|exact z_0|assumption|refine z_1 ?_|refine z_r ?_);done)|((repeat refine z_1 ?_);refine z_r ?_;(repeat refine z_1 ?_);refine z_l ?_;(repeat first|exact z_0|assumption|refine z_1 ?_|refine z_r ?_);done)|((repeat first|exact z_0|assumption|refine z_1 ?_|refine z_l ?_);done)))) hpo (fun hno => up_ret ?_) (fun e2 hown hse => up_ret ?_) (fun hh hown hso => up_ret ?_)))
            · refine xr_op rfl rfl (xv_move rfl ?_)
              refine xr_op rfl rfl (xv_extract rfl rfl ?_)
              refine xr_op rfl rfl (xv_extract rfl rfl ?_)
              refine xr_op rfl rfl (xv_assign rfl ?_)
              refine xr_op rfl rfl (xv_assign rfl ?_)
              refine xr_end rfl ?_
              refine th_n ?_
              refine xc_seq ?_
              refine xc_seq (xc_region ?_)
              refine xr_op rfl rfl (xv_move rfl ?_)
              refine xr_op rfl rfl (xv_neqF rfl rfl rfl ?_)
              refine xr_op rfl rfl (xv_move rfl ?_)
              refine xr_gd rfl rfl rfl (xv_load1 ty3 rfl rfl (by (first|((repeat first|exact z_0|assumption|refine z_1 ?_|refine z_r ?_);done)|((repeat refine z_1 ?_);refine z_l ?_;(repeat first|exact z_0|assumption|refine z_1 ?_|refine z_r ?_);done)|((repeat refine z_1 ?_);refine z_r ?_;(repeat refine z_1 ?_);refine z_l ?_;(repeat first|exact z_0|assumption|refine z_1 ?_|refine z_r ?_);done)|((repeat first|exact z_0|assumption|refine z_1 ?_|refine z_l ?_);done))) (by rfl) ?_)
              refine xr_gd rfl rfl rfl (xv_lss2 rfl rfl (fun q5 => ?_) (fun q5 => ?_))
              · refine xr_op rfl rfl (xv_pick rfl rfl ?_)
                refine xr_op rfl rfl (xv_move rfl ?_)
                refine xr_no rfl rfl rfl rfl ?_
                refine xr_no rfl rfl rfl rfl ?_
                refine xr_op rfl rfl (xv_pick rfl rfl ?_)
                refine xr_end rfl ?_
                refine th_n ?_
                refine xc_true rfl ?_
                refine xc_seq (xc_region ?_)
                refine xr_op rfl rfl (xv_move rfl ?_)
                refine xr_op rfl rfl (xv_eqlT rfl rfl rfl ?_)
                refine xr_op rfl rfl (xv_move rfl ?_)
                refine xr_gd rfl rfl rfl (xv_move rfl ?_)
                refine xr_gd rfl rfl rfl (xv_move rfl ?_)
                refine xr_gd rfl rfl rfl (xv_eqlF rfl rfl (by decide) ?_)
                refine xr_gd rfl rfl rfl (xv_move rfl ?_)
                refine xr_no rfl rfl rfl rfl ?_
                refine xr_no rfl rfl rfl rfl ?_
                refine xr_gd rfl rfl rfl (xv_pick rfl rfl ?_)
                refine xr_gd rfl rfl rfl (xv_move rfl ?_)
                refine xr_gd rfl rfl rfl (xv_move rfl ?_)
                refine xr_gd rfl rfl rfl (xv_eqlT rfl rfl rfl ?_)
                refine xr_gd rfl rfl rfl (xv_move rfl ?_)
                refine xr_gd rfl rfl rfl (xv_move rfl ?_)
                refine xr_gd rfl rfl rfl (xv_eqlT rfl rfl rfl ?_)
                refine xr_gd rfl rfl rfl (xv_pick rfl rfl ?_)
                refine xr_gd rfl rfl rfl (xv_pick rfl rfl ?_)
                refine xr_op rfl rfl (xv_pick rfl rfl ?_)
                refine xr_op rfl rfl (xv_move rfl ?_)
                refine xr_gd rfl rfl rfl (xv_calls rfl hb10 (awake_c (up_ret ?_)))
                refine xr_op rfl rfl (xv_pick rfl rfl ?_)
                refine xr_op rfl rfl (xv_assign rfl ?_)
                refine xr_end rfl ?_
                refine th_n ?_
                refine xc_ret ?_
                refine th_r ?_
                refine body_ret (h' := h) rfl (ro_tmp rfl ro_nil) (by (first|((repeat first|exact s_0|exact s_1|exact s_3|refine s_4 ?_|refine s_5 ?_|refine s_6 ?_|refine s_7 ?_);done)|((repeat first|exact s_0|exact s_1|exact s_3|refine s_4 ?_|refine s_5 ?_|refine s_6 ?_|refine s_8 ?_);done))) ?_
                exact H
              · refine xr_op rfl rfl (xv_pick rfl rfl ?_)
                refine xr_op rfl rfl (xv_move rfl ?_)
                refine xr_gd rfl rfl rfl (xv_load1 ty3 rfl rfl (by (first|((repeat first|exact z_0|assumption|refine z_1 ?_|refine z_r ?_);done)|((repeat refine z_1 ?_);refine z_l ?_;(repeat first|exact z_0|assumption|refine z_1 ?_|refine z_r ?_);done)|((repeat refine z_1 ?_);refine z_r ?_;(repeat refine z_1 ?_);refine z_l ?_;(repeat first|exact z_0|assumption|refine z_1 ?_|refine z_r ?_);done)|((repeat first|exact z_0|assumption|refine z_1 ?_|refine z_l ?_);done))) (by rfl) ?_)
                refine xr_gd rfl rfl rfl (xv_cmpK rfl rfl (cmpT (show (7 : Int) < own by omega)) ?_)
                refine xr_op rfl rfl (xv_pick rfl rfl ?_)
                refine xr_end rfl ?_
                refine th_n ?_
                refine xc_true rfl ?_
                refine xc_seq (xc_region ?_)
                refine xr_op rfl rfl (xv_move rfl ?_)
                refine xr_op rfl rfl (xv_eqlT rfl rfl rfl ?_)
                refine xr_op rfl rfl (xv_move rfl ?_)
                refine xr_gd rfl rfl rfl (xv_move rfl ?_)
                refine xr_gd rfl rfl rfl (xv_move rfl ?_)
                refine xr_gd rfl rfl rfl (xv_eqlF rfl rfl (by decide) ?_)
                refine xr_gd rfl rfl rfl (xv_move rfl ?_)
                refine xr_no rfl rfl rfl rfl ?_
                refine xr_no rfl rfl rfl rfl ?_
                refine xr_gd rfl rfl rfl (xv_pick rfl rfl ?_)
                refine xr_gd rfl rfl rfl (xv_move rfl ?_)
                refine xr_gd rfl rfl rfl (xv_move rfl ?_)
                refine xr_gd rfl rfl rfl (xv_eqlT rfl rfl rfl ?_)
                refine xr_gd rfl rfl rfl (xv_move rfl ?_)
                refine xr_gd rfl rfl rfl (xv_move rfl ?_)
                refine xr_gd rfl rfl rfl (xv_eqlT rfl rfl rfl ?_)
                refine xr_gd rfl rfl rfl (xv_pick rfl rfl ?_)
                refine xr_gd rfl rfl rfl (xv_pick rfl rfl ?_)
                refine xr_op rfl rfl (xv_pick rfl rfl ?_)
                refine xr_op rfl rfl (xv_move rfl ?_)
                refine xr_gd rfl rfl rfl (xv_calls rfl hb10 (awake_c (up_ret ?_)))
                refine xr_op rfl rfl (xv_pick rfl rfl ?_)
                refine xr_op rfl rfl (xv_assign rfl ?_)
                refine xr_end rfl ?_
                refine th_n ?_
                refine xc_ret ?_
                refine th_r ?_
                refine body_ret (h' := h) rfl (ro_tmp rfl ro_nil) (by (first|((repeat first|exact s_0|exact s_1|exact s_3|refine s_4 ?_|refine s_5 ?_|refine s_6 ?_|refine s_7 ?_);done)|((repeat first|exact s_0|exact s_1|exact s_3|refine s_4 ?_|refine s_5 ?_|refine s_6 ?_|refine s_8 ?_);done))) ?_
                exact H
            · refine xr_op rfl rfl (xv_move rfl ?_)
              refine xr_op rfl rfl (xv_extract rfl rfl ?_)
              refine xr_op rfl rfl (xv_extract rfl rfl ?_)
              refine xr_op rfl rfl (xv_assign rfl ?_)
              refine xr_op rfl rfl (xv_assign rfl ?_)
              refine xr_end rfl ?_
              refine th_n ?_
              refine xc_seq ?_
              refine xc_seq (xc_region ?_)
              refine xr_op rfl rfl (xv_move rfl ?_)
              refine xr_op rfl rfl (xv_neqF rfl rfl rfl ?_)
              refine xr_op rfl rfl (xv_move rfl ?_)
              refine xr_gd rfl rfl rfl (xv_load1 ty3 rfl rfl (by (first|((repeat first|exact z_0|assumption|refine z_1 ?_|refine z_r ?_);done)|((repeat refine z_1 ?_);refine z_l ?_;(repeat first|exact z_0|assumption|refine z_1 ?_|refine z_r ?_);done)|((repeat refine z_1 ?_);refine z_r ?_;(repeat refine z_1 ?_);refine z_l ?_;(repeat first|exact z_0|assumption|refine z_1 ?_|refine z_r ?_);done)|((repeat first|exact z_0|assumption|refine z_1 ?_|refine z_l ?_);done))) (by rfl) ?_)
              refine xr_gd rfl rfl rfl (xv_cmpK rfl rfl (cmpF rfl (by simp only [cmpP]; omega)) ?_)
              refine xr_op rfl rfl (xv_pick rfl rfl ?_)
              refine xr_op rfl rfl (xv_move rfl ?_)
              refine xr_gd rfl rfl rfl (xv_load1 ty3 rfl rfl (by (first|((repeat first|exact z_0|assumption|refine z_1 ?_|refine z_r ?_);done)|((repeat refine z_1 ?_);refine z_l ?_;(repeat first|exact z_0|assumption|refine z_1 ?_|refine z_r ?_);done)|((repeat refine z_1 ?_);refine z_r ?_;(repeat refine z_1 ?_);refine z_l ?_;(repeat first|exact z_0|assumption|refine z_1 ?_|refine z_r ?_);done)|((repeat first|exact z_0|assumption|refine z_1 ?_|refine z_l ?_);done))) (by rfl) ?_)
              refine xr_gd rfl rfl rfl (xv_cmpK rfl rfl (cmpF rfl (by simp only [cmpP]; omega)) ?_)
              refine xr_op rfl rfl (xv_pick rfl rfl ?_)
              refine xr_end rfl ?_
              refine th_n ?_
              refine xc_false rfl ?_
              refine xc_skip ?_
              refine th_n ?_
              refine xc_seq (xc_region ?_)
              have hpk := play_ok hpo
              have hA := play_after hpo
              have hI := PlayI.of hpk.1 _ rfl (play_from hpo)
              have hi8 : own.toNat < 8 := by omega
              have hov := hS.ov _ hi8
              have hO := hA.ov _ hi8
              obtain ⟨⟨hr1, hr2, hr3⟩, ⟨ht1, ht2, ht3⟩, ⟨hc1, hc2, hc3⟩, hb1, hb2, hb3, hb4, hb5⟩ := hO
              have hrr : (S.ov own.toNat).runs ≤ w.runs := by omega
              have hSl := hS.last
              obtain ⟨hl1, hl2, hl3, ⟨hle0, hle1⟩, ⟨hru0, hru1⟩, ⟨hsc0, hsc1⟩, ⟨hga0, hga1⟩, ⟨hco0, hco1⟩⟩ := hpk.1
              refine xr_op rfl rfl (xv_load1 ty3 rfl rfl (by (first|((repeat first|exact z_0|assumption|refine z_1 ?_|refine z_r ?_);done)|((repeat refine z_1 ?_);refine z_l ?_;(repeat first|exact z_0|assumption|refine z_1 ?_|refine z_r ?_);done)|((repeat refine z_1 ?_);refine z_r ?_;(repeat refine z_1 ?_);refine z_l ?_;(repeat first|exact z_0|assumption|refine z_1 ?_|refine z_r ?_);done)|((repeat first|exact z_0|assumption|refine z_1 ?_|refine z_l ?_);done))) (by rfl) ?_)
              refine xr_op rfl rfl (xv_iaA (sz := 5) (j := own.toNat) Try.underlying30 ty29 rfl rfl rfl rfl (by omega) (by omega) ?_)
              refine xr_op rfl rfl (xv_loadA ty29 rfl rfl (by (first|((repeat first|exact z_0|assumption|refine z_1 ?_|refine z_r ?_);done)|((repeat refine z_1 ?_);refine z_l ?_;(repeat first|exact z_0|assumption|refine z_1 ?_|refine z_r ?_);done)|((repeat refine z_1 ?_);refine z_r ?_;(repeat refine z_1 ?_);refine z_l ?_;(repeat first|exact z_0|assumption|refine z_1 ?_|refine z_r ?_);done)|((repeat first|exact z_0|assumption|refine z_1 ?_|refine z_l ?_);done))) (ov_at hi8) rfl ?_)
              refine xr_op rfl rfl (xv_alloc ty29 (fun cx hcx => ?_))
              refine xr_op rfl rfl (xv_s ty29 rfl rfl (by (first|(apply u_3;(repeat first|exact u_0|assumption|apply u_1|apply u_2);done)|((repeat first|exact u_0|assumption|apply u_1|apply u_2);done)|(apply u_3;apply u_3;(repeat first|exact u_0|assumption|apply u_1|apply u_2);done)|((repeat first|exact u_0|assumption|apply u_3|apply u_1);done))) (by ((try apply evl_some rfl);(repeat (first|exact (rfl : _ = [])|apply evl_cons rfl (by (first|exact v_1|exact v_2|exact v_3|exact v_4|exact v_5|exact v_6|exact v_7|exact v_8|exact v_9|exact rfl))|exact rfl)))) (by rfl) (by rfl) (by rfl) (by ((try apply evl_some rfl);(repeat (first|exact (rfl : _ = [])|apply evl_cons rfl (by (first|exact v_1|exact v_2|exact v_3|exact v_4|exact v_5|exact v_6|exact v_7|exact v_8|exact v_9|exact rfl))|exact rfl)))) ?_)
              refine xr_end rfl ?_
              refine th_n ?_
              refine xc_seq ?_
              refine xc_seq (xc_region ?_)
              refine xr_op rfl rfl (xv_faddr fl29_0 rfl ?_)
              refine xr_op rfl rfl (xv_load1 ty3 rfl rfl (by (first|((repeat first|exact z_0|assumption|refine z_1 ?_|refine z_r ?_);done)|((repeat refine z_1 ?_);refine z_l ?_;(repeat first|exact z_0|assumption|refine z_1 ?_|refine z_r ?_);done)|((repeat refine z_1 ?_);refine z_r ?_;(repeat refine z_1 ?_);refine z_l ?_;(repeat first|exact z_0|assumption|refine z_1 ?_|refine z_r ?_);done)|((repeat first|exact z_0|assumption|refine z_1 ?_|refine z_l ?_);done))) (by rfl) ?_)
              refine xr_op rfl rfl (xv_eql2 rfl rfl (fun q6 => ?_) (fun q6 => ?_))
              · refine xr_op rfl rfl (xv_move rfl ?_)
                refine xr_no rfl rfl rfl rfl ?_
                refine xr_no rfl rfl rfl rfl ?_
                refine xr_no rfl rfl rfl rfl ?_
                refine xr_op rfl rfl (xv_pick rfl rfl ?_)
                refine xr_end rfl ?_
                refine th_n ?_
                refine xc_true rfl ?_
                refine xc_seq (xc_region ?_)
                have he6 : e2 = 6 := soon_st6 hse (by omega)
                refine xr_op rfl rfl (xv_move rfl ?_)
                refine xr_op rfl rfl (xv_eqlT rfl rfl rfl ?_)
                refine xr_op rfl rfl (xv_move rfl ?_)
                refine xr_gd rfl rfl rfl (xv_move rfl ?_)
                refine xr_gd rfl rfl rfl (xv_eqlT rfl rfl he6 ?_)
                refine xr_op rfl rfl (xv_pick rfl rfl ?_)
                refine xr_op rfl rfl (xv_move rfl ?_)
                refine xr_gd rfl rfl rfl (xv_calls rfl hb10 (awake_c (up_ret ?_)))
                refine xr_op rfl rfl (xv_pick rfl rfl ?_)
                refine xr_op rfl rfl (xv_assign rfl ?_)
                refine xr_end rfl ?_
                refine th_n ?_
                refine xc_ret ?_
                refine th_r ?_
                refine body_ret (h' := h) rfl (ro_tmp rfl ro_nil) (by (first|((repeat first|exact s_0|exact s_1|exact s_3|refine s_4 ?_|refine s_5 ?_|refine s_6 ?_|refine s_7 ?_);done)|((repeat first|exact s_0|exact s_1|exact s_3|refine s_4 ?_|refine s_5 ?_|refine s_6 ?_|refine s_8 ?_);done))) ?_
                exact H
              · refine xr_op rfl rfl (xv_move rfl ?_)
                refine xr_gd rfl rfl rfl (xv_faddr fl29_0 rfl ?_)
                refine xr_gd rfl rfl rfl (xv_load1 ty3 rfl rfl (by (first|((repeat first|exact z_0|assumption|refine z_1 ?_|refine z_r ?_);done)|((repeat refine z_1 ?_);refine z_l ?_;(repeat first|exact z_0|assumption|refine z_1 ?_|refine z_r ?_);done)|((repeat refine z_1 ?_);refine z_r ?_;(repeat refine z_1 ?_);refine z_l ?_;(repeat first|exact z_0|assumption|refine z_1 ?_|refine z_r ?_);done)|((repeat first|exact z_0|assumption|refine z_1 ?_|refine z_l ?_);done))) (by rfl) ?_)
                refine xr_gd rfl rfl rfl (xv_eql2 rfl rfl (fun q7 => ?_) (fun q7 => ?_))
                · refine xr_op rfl rfl (xv_pick rfl rfl ?_)
                  refine xr_end rfl ?_
                  refine th_n ?_
                  refine xc_true rfl ?_
                  refine xc_seq (xc_region ?_)
                  have he6 : e2 = 6 := soon_st6 hse (by omega)
                  refine xr_op rfl rfl (xv_move rfl ?_)
                  refine xr_op rfl rfl (xv_eqlT rfl rfl rfl ?_)
                  refine xr_op rfl rfl (xv_move rfl ?_)
                  refine xr_gd rfl rfl rfl (xv_move rfl ?_)
                  refine xr_gd rfl rfl rfl (xv_eqlT rfl rfl he6 ?_)
                  refine xr_op rfl rfl (xv_pick rfl rfl ?_)
                  refine xr_op rfl rfl (xv_move rfl ?_)
                  refine xr_gd rfl rfl rfl (xv_calls rfl hb10 (awake_c (up_ret ?_)))
                  refine xr_op rfl rfl (xv_pick rfl rfl ?_)
                  refine xr_op rfl rfl (xv_assign rfl ?_)
                  refine xr_end rfl ?_
                  refine th_n ?_
                  refine xc_ret ?_
                  refine th_r ?_
                  refine body_ret (h' := h) rfl (ro_tmp rfl ro_nil) (by (first|((repeat first|exact s_0|exact s_1|exact s_3|refine s_4 ?_|refine s_5 ?_|refine s_6 ?_|refine s_7 ?_);done)|((repeat first|exact s_0|exact s_1|exact s_3|refine s_4 ?_|refine s_5 ?_|refine s_6 ?_|refine s_8 ?_);done))) ?_
                  exact H
                · refine xr_op rfl rfl (xv_pick rfl rfl ?_)
                  refine xr_end rfl ?_
                  refine th_n ?_
                  refine xc_false rfl ?_
                  refine xc_skip ?_
                  refine th_n ?_
                  refine xc_seq (xc_region ?_)
                  refine xr_op rfl rfl (xv_assign rfl ?_)
                  refine xr_end rfl ?_
                  refine th_n ?_
                  refine xc_join (σ := Unit) (fun _ => True) (fun _ => ((((((((emp.put (some 1) (.slice al l.length cl)).put (some 4) (.pointer (some ⟨cw, 0, none⟩))).put (some 6) (.pointer (some ⟨co, 0, none⟩))).put (some 7) (.pointer (some ⟨cby, 0, none⟩))).put (some 12) (I 0)).put (some 13) (I e2)).put (some 14) (.pointer (some ⟨cx, 0, none⟩))).put (some 15) (I S.last))) (fun _ => ((cx, .cells ⟨eOven (S.ov own.toNat)⟩ 29) :: (cby, .cells ⟨[.slice ab by_.length cb]⟩ 52) :: (co, .cells ⟨[I own]⟩ 3) :: (cw, .cells ⟨eHouse a c w⟩ 24) :: h)) ?_ ?_
                  · refine xc_seq (xc_region ?_)
                    refine xr_op rfl rfl (xv_move rfl ?_)
                    refine xr_op rfl rfl (xv_len sl25 rfl ?_)
                    refine xr_op rfl rfl (xv_gtr2 rfl rfl (fun q8 => ?_) (fun q8 => ?_))
                    · refine xr_end rfl ?_
                      refine th_n ?_
                      refine xc_true rfl ?_
                      refine xc_region ?_
                      obtain ⟨y, hky⟩ : ∃ y, l[l.length - 1]? = some y := ⟨_, List.getElem?_eq_getElem (by omega)⟩
                      obtain ⟨b, o, li, t, fz, hal, hm, hx⟩ := hl.at (i := l.length - 1) (by omega)
                      refine xr_op rfl rfl (xv_move rfl ?_)
                      refine xr_op rfl rfl (xv_move rfl ?_)
                      refine xr_op rfl rfl (xv_len sl25 rfl ?_)
                      refine xr_op rfl rfl (xv_sub rfl rfl (wrap_i64 (by (first | omega | (dsimp only at *; omega) | (simp at *; omega))) (by (first | omega | (dsimp only at *; omega) | (simp at *; omega)))) ?_)
                      refine xr_op rfl rfl (xv_ia (sz := 4) (j := l.length - 1) sl25 ty48 rfl (by rw [hal]; rfl) rfl (by omega) (by (first | omega | (dsimp only at *; omega) | (simp at *; omega))) (by (first | omega | (dsimp only at *; omega) | (simp at *; omega))) ?_)
                      refine xr_op rfl rfl (xv_faddr fl48_0 rfl ?_)
                      refine xr_op rfl rfl (xv_load1 ty3 rfl rfl (by (first|((repeat first|exact z_0|assumption|refine z_1 ?_|refine z_r ?_);done)|((repeat refine z_1 ?_);refine z_l ?_;(repeat first|exact z_0|assumption|refine z_1 ?_|refine z_r ?_);done)|((repeat refine z_1 ?_);refine z_r ?_;(repeat refine z_1 ?_);refine z_l ?_;(repeat first|exact z_0|assumption|refine z_1 ?_|refine z_r ?_);done)|((repeat first|exact z_0|assumption|refine z_1 ?_|refine z_l ?_);done))) (at_drop (hx (l.length - 1) y hky) (j := 0) rfl) ?_)
                      refine xr_op rfl rfl (xv_assign rfl ?_)
                      refine xr_end rfl ?_
                      have hl0 : S.last = y.hour := (hI.prev y (by omega) hky).symm
                      exact jn_n () trivial (le_put (le_put (le_put (le_put (le_put (le_put (le_put (le_put (le_emp _) rfl) rfl) rfl) rfl) rfl) rfl) rfl) (by rw [hl0]; rfl)) (by (first|((repeat first|exact s_0|exact s_1|exact s_3|refine s_4 ?_|refine s_5 ?_|refine s_6 ?_|refine s_7 ?_);done)|((repeat first|exact s_0|exact s_1|exact s_3|refine s_4 ?_|refine s_5 ?_|refine s_6 ?_|refine s_8 ?_);done)))
                    · refine xr_end rfl ?_
                      refine th_n ?_
                      refine xc_false rfl ?_
                      refine xc_skip ?_
                      have hl0 : S.last = 0 := hI.zero (by omega)
                      exact jn_n () trivial (le_put (le_put (le_put (le_put (le_put (le_put (le_put (le_put (le_emp _) rfl) rfl) rfl) rfl) rfl) rfl) rfl) (by rw [hl0]; rfl)) (by (first|((repeat first|exact s_0|exact s_1|exact s_3|refine s_4 ?_|refine s_5 ?_|refine s_6 ?_|refine s_7 ?_);done)|((repeat first|exact s_0|exact s_1|exact s_3|refine s_4 ?_|refine s_5 ?_|refine s_6 ?_|refine s_8 ?_);done)))
                  · rintro ⟨⟩ _
                    refine xc_seq ?_
                    refine xc_seq (xc_region ?_)
                    refine xr_op rfl rfl (xv_move rfl ?_)
                    refine xr_op rfl rfl (xv_neqT rfl rfl (soon_err_ne hse) ?_)
                    refine xr_end rfl ?_
                    refine th_n ?_
                    refine xc_true rfl ?_
                    refine xc_seq (xc_region ?_)
                    obtain ⟨he7, hlate⟩ := soon_late hpk.1 hS hi8 (by omega) hse
                    refine xr_op rfl rfl (xv_move rfl ?_)
                    refine xr_op rfl rfl (xv_eqlT rfl rfl rfl ?_)
                    refine xr_op rfl rfl (xv_move rfl ?_)
                    refine xr_gd rfl rfl rfl (xv_move rfl ?_)
                    refine xr_gd rfl rfl rfl (xv_eqlT rfl rfl he7 ?_)
                    refine xr_op rfl rfl (xv_pick rfl rfl ?_)
                    refine xr_op rfl rfl (xv_move rfl ?_)
                    refine xr_gd rfl rfl rfl (xv_move rfl ?_)
                    refine xr_gd rfl rfl rfl (xv_faddr fl29_1 rfl ?_)
                    refine xr_gd rfl rfl rfl (xv_load1 ty3 rfl rfl (by (first|((repeat first|exact z_0|assumption|refine z_1 ?_|refine z_r ?_);done)|((repeat refine z_1 ?_);refine z_l ?_;(repeat first|exact z_0|assumption|refine z_1 ?_|refine z_r ?_);done)|((repeat refine z_1 ?_);refine z_r ?_;(repeat refine z_1 ?_);refine z_l ?_;(repeat first|exact z_0|assumption|refine z_1 ?_|refine z_r ?_);done)|((repeat first|exact z_0|assumption|refine z_1 ?_|refine z_l ?_);done))) (by rfl) ?_)
                    refine xr_gd rfl rfl rfl (xv_max rfl rfl rfl ?_)
                    refine xr_gd rfl rfl rfl (xv_faddr fl24_5 rfl ?_)
                    refine xr_gd rfl rfl rfl (xv_load1 ty3 rfl rfl (by (first|((repeat first|exact z_0|assumption|refine z_1 ?_|refine z_r ?_);done)|((repeat refine z_1 ?_);refine z_l ?_;(repeat first|exact z_0|assumption|refine z_1 ?_|refine z_r ?_);done)|((repeat refine z_1 ?_);refine z_r ?_;(repeat refine z_1 ?_);refine z_l ?_;(repeat first|exact z_0|assumption|refine z_1 ?_|refine z_r ?_);done)|((repeat first|exact z_0|assumption|refine z_1 ?_|refine z_l ?_);done))) (by rfl) ?_)
                    refine xr_gd rfl rfl rfl (xv_mul rfl rfl (wrap_i64 (by (first | omega | (dsimp only at *; omega) | (simp at *; omega))) (by (first | omega | (dsimp only at *; omega) | (simp at *; omega)))) ?_)
                    refine xr_gd rfl rfl rfl (xv_add rfl rfl (wrap_i64 (by (first | omega | (dsimp only at *; omega) | (simp at *; omega))) (by (first | omega | (dsimp only at *; omega) | (simp at *; omega)))) ?_)
                    refine xr_gd rfl rfl rfl (xv_faddr fl24_1 rfl ?_)
                    refine xr_gd rfl rfl rfl (xv_load1 ty3 rfl rfl (by (first|((repeat first|exact z_0|assumption|refine z_1 ?_|refine z_r ?_);done)|((repeat refine z_1 ?_);refine z_l ?_;(repeat first|exact z_0|assumption|refine z_1 ?_|refine z_r ?_);done)|((repeat refine z_1 ?_);refine z_r ?_;(repeat refine z_1 ?_);refine z_l ?_;(repeat first|exact z_0|assumption|refine z_1 ?_|refine z_r ?_);done)|((repeat first|exact z_0|assumption|refine z_1 ?_|refine z_l ?_);done))) (by rfl) ?_)
                    refine xr_gd rfl rfl rfl (xv_add rfl rfl (wrap_i64 (by (first | omega | (dsimp only at *; omega) | (simp at *; omega))) (by (first | omega | (dsimp only at *; omega) | (simp at *; omega)))) ?_)
                    refine xr_gd rfl rfl rfl (xv_faddr fl24_3 rfl ?_)
                    refine xr_gd rfl rfl rfl (xv_load1 ty3 rfl rfl (by (first|((repeat first|exact z_0|assumption|refine z_1 ?_|refine z_r ?_);done)|((repeat refine z_1 ?_);refine z_l ?_;(repeat first|exact z_0|assumption|refine z_1 ?_|refine z_r ?_);done)|((repeat refine z_1 ?_);refine z_r ?_;(repeat refine z_1 ?_);refine z_l ?_;(repeat first|exact z_0|assumption|refine z_1 ?_|refine z_r ?_);done)|((repeat first|exact z_0|assumption|refine z_1 ?_|refine z_l ?_);done))) (by rfl) ?_)
                    refine xr_gd rfl rfl rfl (xv_add rfl rfl (wrap_i64 (by (first | omega | (dsimp only at *; omega) | (simp at *; omega))) (by (first | omega | (dsimp only at *; omega) | (simp at *; omega)))) ?_)
                    refine xr_gd rfl rfl rfl (xv_add rfl rfl (wrap_i64 (by (first | omega | (dsimp only at *; omega) | (simp at *; omega))) (by (first | omega | (dsimp only at *; omega) | (simp at *; omega)))) ?_)
                    refine xr_gd rfl rfl rfl (xv_cmpK rfl rfl (cmpT (show (1048576 : Int) < _ by omega)) ?_)
                    refine xr_op rfl rfl (xv_pick rfl rfl ?_)
                    refine xr_op rfl rfl (xv_move rfl ?_)
                    refine xr_gd rfl rfl rfl (xv_calls rfl hb10 (awake_c (up_ret ?_)))
                    refine xr_op rfl rfl (xv_pick rfl rfl ?_)
                    refine xr_op rfl rfl (xv_assign rfl ?_)
                    refine xr_end rfl ?_
                    refine th_n ?_
                    refine xc_ret ?_
                    refine th_r ?_
                    refine body_ret (h' := h) rfl (ro_tmp rfl ro_nil) (by (first|((repeat first|exact s_0|exact s_1|exact s_3|refine s_4 ?_|refine s_5 ?_|refine s_6 ?_|refine s_7 ?_);done)|((repeat first|exact s_0|exact s_1|exact s_3|refine s_4 ?_|refine s_5 ?_|refine s_6 ?_|refine s_8 ?_);done))) ?_
                    exact H
            · refine xr_op rfl rfl (xv_move rfl ?_)
              refine xr_op rfl rfl (xv_extract rfl rfl ?_)
              refine xr_op rfl rfl (xv_extract rfl rfl ?_)
              refine xr_op rfl rfl (xv_assign rfl ?_)
              refine xr_op rfl rfl (xv_assign rfl ?_)
              refine xr_end rfl ?_
              refine th_n ?_
              refine xc_seq ?_
              refine xc_seq (xc_region ?_)
              refine xr_op rfl rfl (xv_move rfl ?_)
              refine xr_op rfl rfl (xv_neqF rfl rfl rfl ?_)
              refine xr_op rfl rfl (xv_move rfl ?_)
              refine xr_gd rfl rfl rfl (xv_load1 ty3 rfl rfl (by (first|((repeat first|exact z_0|assumption|refine z_1 ?_|refine z_r ?_);done)|((repeat refine z_1 ?_);refine z_l ?_;(repeat first|exact z_0|assumption|refine z_1 ?_|refine z_r ?_);done)|((repeat refine z_1 ?_);refine z_r ?_;(repeat refine z_1 ?_);refine z_l ?_;(repeat first|exact z_0|assumption|refine z_1 ?_|refine z_r ?_);done)|((repeat first|exact z_0|assumption|refine z_1 ?_|refine z_l ?_);done))) (by rfl) ?_)
              refine xr_gd rfl rfl rfl (xv_cmpK rfl rfl (cmpF rfl (by simp only [cmpP]; omega)) ?_)
              refine xr_op rfl rfl (xv_pick rfl rfl ?_)
              refine xr_op rfl rfl (xv_move rfl ?_)
              refine xr_gd rfl rfl rfl (xv_load1 ty3 rfl rfl (by (first|((repeat first|exact z_0|assumption|refine z_1 ?_|refine z_r ?_);done)|((repeat refine z_1 ?_);refine z_l ?_;(repeat first|exact z_0|assumption|refine z_1 ?_|refine z_r ?_);done)|((repeat refine z_1 ?_);refine z_r ?_;(repeat refine z_1 ?_);refine z_l ?_;(repeat first|exact z_0|assumption|refine z_1 ?_|refine z_r ?_);done)|((repeat first|exact z_0|assumption|refine z_1 ?_|refine z_l ?_);done))) (by rfl) ?_)
              refine xr_gd rfl rfl rfl (xv_cmpK rfl rfl (cmpF rfl (by simp only [cmpP]; omega)) ?_)
              refine xr_op rfl rfl (xv_pick rfl rfl ?_)
              refine xr_end rfl ?_
              refine th_n ?_
              refine xc_false rfl ?_
              refine xc_skip ?_
              refine th_n ?_
              refine xc_seq (xc_region ?_)
              have hpk := play_ok hpo
              have hA := play_after hpo
              have hI := PlayI.of hpk.1 _ rfl (play_from hpo)
              have hi8 : own.toNat < 8 := by omega
              have hov := hS.ov _ hi8
              have hO := hA.ov _ hi8
              obtain ⟨⟨hr1, hr2, hr3⟩, ⟨ht1, ht2, ht3⟩, ⟨hc1, hc2, hc3⟩, hb1, hb2, hb3, hb4, hb5⟩ := hO
              have hrr : (S.ov own.toNat).runs ≤ w.runs := by omega
              have hSl := hS.last
              obtain ⟨hl1, hl2, hl3, ⟨hle0, hle1⟩, ⟨hru0, hru1⟩, ⟨hsc0, hsc1⟩, ⟨hga0, hga1⟩, ⟨hco0, hco1⟩⟩ := hpk.1
              refine xr_op rfl rfl (xv_load1 ty3 rfl rfl (by (first|((repeat first|exact z_0|assumption|refine z_1 ?_|refine z_r ?_);done)|((repeat refine z_1 ?_);refine z_l ?_;(repeat first|exact z_0|assumption|refine z_1 ?_|refine z_r ?_);done)|((repeat refine z_1 ?_);refine z_r ?_;(repeat refine z_1 ?_);refine z_l ?_;(repeat first|exact z_0|assumption|refine z_1 ?_|refine z_r ?_);done)|((repeat first|exact z_0|assumption|refine z_1 ?_|refine z_l ?_);done))) (by rfl) ?_)
              refine xr_op rfl rfl (xv_iaA (sz := 5) (j := own.toNat) Try.underlying30 ty29 rfl rfl rfl rfl (by omega) (by omega) ?_)
              refine xr_op rfl rfl (xv_loadA ty29 rfl rfl (by (first|((repeat first|exact z_0|assumption|refine z_1 ?_|refine z_r ?_);done)|((repeat refine z_1 ?_);refine z_l ?_;(repeat first|exact z_0|assumption|refine z_1 ?_|refine z_r ?_);done)|((repeat refine z_1 ?_);refine z_r ?_;(repeat refine z_1 ?_);refine z_l ?_;(repeat first|exact z_0|assumption|refine z_1 ?_|refine z_r ?_);done)|((repeat first|exact z_0|assumption|refine z_1 ?_|refine z_l ?_);done))) (ov_at hi8) rfl ?_)
              refine xr_op rfl rfl (xv_alloc ty29 (fun cx hcx => ?_))
              refine xr_op rfl rfl (xv_s ty29 rfl rfl (by (first|(apply u_3;(repeat first|exact u_0|assumption|apply u_1|apply u_2);done)|((repeat first|exact u_0|assumption|apply u_1|apply u_2);done)|(apply u_3;apply u_3;(repeat first|exact u_0|assumption|apply u_1|apply u_2);done)|((repeat first|exact u_0|assumption|apply u_3|apply u_1);done))) (by ((try apply evl_some rfl);(repeat (first|exact (rfl : _ = [])|apply evl_cons rfl (by (first|exact v_1|exact v_2|exact v_3|exact v_4|exact v_5|exact v_6|exact v_7|exact v_8|exact v_9|exact rfl))|exact rfl)))) (by rfl) (by rfl) (by rfl) (by ((try apply evl_some rfl);(repeat (first|exact (rfl : _ = [])|apply evl_cons rfl (by (first|exact v_1|exact v_2|exact v_3|exact v_4|exact v_5|exact v_6|exact v_7|exact v_8|exact v_9|exact rfl))|exact rfl)))) ?_)
              refine xr_end rfl ?_
              refine th_n ?_
              refine xc_seq ?_
              refine xc_seq (xc_region ?_)
              have hst := (soon_val hso).1
              have hge := soon_ge hso
              refine xr_op rfl rfl (xv_faddr fl29_0 rfl ?_)
              refine xr_op rfl rfl (xv_load1 ty3 rfl rfl (by (first|((repeat first|exact z_0|assumption|refine z_1 ?_|refine z_r ?_);done)|((repeat refine z_1 ?_);refine z_l ?_;(repeat first|exact z_0|assumption|refine z_1 ?_|refine z_r ?_);done)|((repeat refine z_1 ?_);refine z_r ?_;(repeat refine z_1 ?_);refine z_l ?_;(repeat first|exact z_0|assumption|refine z_1 ?_|refine z_r ?_);done)|((repeat first|exact z_0|assumption|refine z_1 ?_|refine z_l ?_);done))) (by rfl) ?_)
              refine xr_op rfl rfl (xv_cmpK rfl rfl (cmpF rfl (by simp only [cmpP]; omega)) ?_)
              refine xr_op rfl rfl (xv_move rfl ?_)
              refine xr_gd rfl rfl rfl (xv_faddr fl29_0 rfl ?_)
              refine xr_gd rfl rfl rfl (xv_load1 ty3 rfl rfl (by (first|((repeat first|exact z_0|assumption|refine z_1 ?_|refine z_r ?_);done)|((repeat refine z_1 ?_);refine z_l ?_;(repeat first|exact z_0|assumption|refine z_1 ?_|refine z_r ?_);done)|((repeat refine z_1 ?_);refine z_r ?_;(repeat refine z_1 ?_);refine z_l ?_;(repeat first|exact z_0|assumption|refine z_1 ?_|refine z_r ?_);done)|((repeat first|exact z_0|assumption|refine z_1 ?_|refine z_l ?_);done))) (by rfl) ?_)
              refine xr_gd rfl rfl rfl (xv_cmpK rfl rfl (cmpF rfl (by simp only [cmpP]; omega)) ?_)
              refine xr_op rfl rfl (xv_pick rfl rfl ?_)
              refine xr_end rfl ?_
              refine th_n ?_
              refine xc_false rfl ?_
              refine xc_skip ?_
              refine th_n ?_
              refine xc_seq (xc_region ?_)
              refine xr_op rfl rfl (xv_assign rfl ?_)
              refine xr_end rfl ?_
              refine th_n ?_
              refine xc_join (σ := Unit) (fun _ => True) (fun _ => ((((((((emp.put (some 1) (.slice al l.length cl)).put (some 4) (.pointer (some ⟨cw, 0, none⟩))).put (some 6) (.pointer (some ⟨co, 0, none⟩))).put (some 7) (.pointer (some ⟨cby, 0, none⟩))).put (some 12) (I hh)).put (some 13) (I 0)).put (some 14) (.pointer (some ⟨cx, 0, none⟩))).put (some 15) (I S.last))) (fun _ => ((cx, .cells ⟨eOven (S.ov own.toNat)⟩ 29) :: (cby, .cells ⟨[.slice ab by_.length cb]⟩ 52) :: (co, .cells ⟨[I own]⟩ 3) :: (cw, .cells ⟨eHouse a c w⟩ 24) :: h)) ?_ ?_
              · refine xc_seq (xc_region ?_)
                refine xr_op rfl rfl (xv_move rfl ?_)
                refine xr_op rfl rfl (xv_len sl25 rfl ?_)
                refine xr_op rfl rfl (xv_gtr2 rfl rfl (fun q9 => ?_) (fun q9 => ?_))
                · refine xr_end rfl ?_
                  refine th_n ?_
                  refine xc_true rfl ?_
                  refine xc_region ?_
                  obtain ⟨y, hky⟩ : ∃ y, l[l.length - 1]? = some y := ⟨_, List.getElem?_eq_getElem (by omega)⟩
                  obtain ⟨b, o, li, t, fz, hal, hm, hx⟩ := hl.at (i := l.length - 1) (by omega)
                  refine xr_op rfl rfl (xv_move rfl ?_)
                  refine xr_op rfl rfl (xv_move rfl ?_)
                  refine xr_op rfl rfl (xv_len sl25 rfl ?_)
                  refine xr_op rfl rfl (xv_sub rfl rfl (wrap_i64 (by (first | omega | (dsimp only at *; omega) | (simp at *; omega))) (by (first | omega | (dsimp only at *; omega) | (simp at *; omega)))) ?_)
                  refine xr_op rfl rfl (xv_ia (sz := 4) (j := l.length - 1) sl25 ty48 rfl (by rw [hal]; rfl) rfl (by omega) (by (first | omega | (dsimp only at *; omega) | (simp at *; omega))) (by (first | omega | (dsimp only at *; omega) | (simp at *; omega))) ?_)
                  refine xr_op rfl rfl (xv_faddr fl48_0 rfl ?_)
                  refine xr_op rfl rfl (xv_load1 ty3 rfl rfl (by (first|((repeat first|exact z_0|assumption|refine z_1 ?_|refine z_r ?_);done)|((repeat refine z_1 ?_);refine z_l ?_;(repeat first|exact z_0|assumption|refine z_1 ?_|refine z_r ?_);done)|((repeat refine z_1 ?_);refine z_r ?_;(repeat refine z_1 ?_);refine z_l ?_;(repeat first|exact z_0|assumption|refine z_1 ?_|refine z_r ?_);done)|((repeat first|exact z_0|assumption|refine z_1 ?_|refine z_l ?_);done))) (at_drop (hx (l.length - 1) y hky) (j := 0) rfl) ?_)
                  refine xr_op rfl rfl (xv_assign rfl ?_)
                  refine xr_end rfl ?_
                  have hl0 : S.last = y.hour := (hI.prev y (by omega) hky).symm
                  exact jn_n () trivial (le_put (le_put (le_put (le_put (le_put (le_put (le_put (le_put (le_emp _) rfl) rfl) rfl) rfl) rfl) rfl) rfl) (by rw [hl0]; rfl)) (by (first|((repeat first|exact s_0|exact s_1|exact s_3|refine s_4 ?_|refine s_5 ?_|refine s_6 ?_|refine s_7 ?_);done)|((repeat first|exact s_0|exact s_1|exact s_3|refine s_4 ?_|refine s_5 ?_|refine s_6 ?_|refine s_8 ?_);done)))
                · refine xr_end rfl ?_
                  refine th_n ?_
                  refine xc_false rfl ?_
                  refine xc_skip ?_
                  have hl0 : S.last = 0 := hI.zero (by omega)
                  exact jn_n () trivial (le_put (le_put (le_put (le_put (le_put (le_put (le_put (le_put (le_emp _) rfl) rfl) rfl) rfl) rfl) rfl) rfl) (by rw [hl0]; rfl)) (by (first|((repeat first|exact s_0|exact s_1|exact s_3|refine s_4 ?_|refine s_5 ?_|refine s_6 ?_|refine s_7 ?_);done)|((repeat first|exact s_0|exact s_1|exact s_3|refine s_4 ?_|refine s_5 ?_|refine s_6 ?_|refine s_8 ?_);done)))
              · rintro ⟨⟩ _
                refine xc_seq ?_
                refine xc_seq (xc_region ?_)
                refine xr_op rfl rfl (xv_move rfl ?_)
                refine xr_op rfl rfl (xv_neqF rfl rfl rfl ?_)
                refine xr_end rfl ?_
                refine th_n ?_
                refine xc_false rfl ?_
                refine xc_skip ?_
                refine th_n ?_
                refine xc_seq ?_
                refine xc_seq (xc_region ?_)
                refine xr_op rfl rfl (xv_move rfl ?_)
                refine xr_op rfl rfl (xv_move rfl ?_)
                refine xr_op rfl rfl (xv_cmpK rfl rfl (cmpF rfl (by simp only [cmpP]; omega)) ?_)
                refine xr_op rfl rfl (xv_move rfl ?_)
                refine xr_gd rfl rfl rfl (xv_move rfl ?_)
                refine xr_gd rfl rfl rfl (xv_cmpK rfl rfl (cmpF rfl (by simp only [cmpP]; omega)) ?_)
                refine xr_op rfl rfl (xv_pick rfl rfl ?_)
                refine xr_end rfl ?_
                refine th_n ?_
                refine xc_false rfl ?_
                refine xc_skip ?_
                refine th_n ?_
                refine xc_seq ?_
                refine xc_seq (xc_region ?_)
                have hnear := play_near hpo
                refine xr_op rfl rfl (xv_assign rfl ?_)
                refine xr_end rfl ?_
                refine th_n ?_
                refine xc_block ?_
                refine xc_loop (σ := Nat) (fun ey => ey ≤ 2) (fun ey => ((((((((emp.put (some 1) (.slice al l.length cl)).put (some 4) (.pointer (some ⟨cw, 0, none⟩))).put (some 6) (.pointer (some ⟨co, 0, none⟩))).put (some 7) (.pointer (some ⟨cby, 0, none⟩))).put (some 12) (I hh)).put (some 14) (.pointer (some ⟨cx, 0, none⟩))).put (some 15) (I S.last)).put (some 16) (I ey))) (fun ey => ((cx, .cells ⟨eOven (S.ov own.toNat)⟩ 29) :: (cby, .cells ⟨[.slice ab by_.length cb]⟩ 52) :: (co, .cells ⟨[I own]⟩ 3) :: (cw, .cells ⟨eHouse a c w⟩ 24) :: h)) (fun ey => 2 - ey) 0 (Nat.zero_le _) (le_put (le_put (le_put (le_put (le_put (le_put (le_put (le_put (le_emp _) rfl) rfl) rfl) rfl) rfl) rfl) rfl) rfl) (by (first|((repeat first|exact s_0|exact s_1|exact s_3|refine s_4 ?_|refine s_5 ?_|refine s_6 ?_|refine s_7 ?_);done)|((repeat first|exact s_0|exact s_1|exact s_3|refine s_4 ?_|refine s_5 ?_|refine s_6 ?_|refine s_8 ?_);done))) ?_
                rintro ey hey2
                refine xc_seq ?_
                refine xc_seq (xc_region ?_)
                refine xr_op rfl rfl (xv_move rfl ?_)
                refine xr_op rfl rfl (xv_lss2 rfl rfl (fun q10 => ?_) (fun q10 => ?_))
                · refine xr_end rfl ?_
                  refine th_n ?_
                  refine xc_true rfl ?_
                  refine xc_skip ?_
                  refine th_n ?_
                  refine xc_seq ?_
                  refine xc_block ?_
                  refine xc_seq (xc_region ?_)
                  refine xr_op rfl rfl (xv_move rfl ?_)
                  refine xr_op rfl rfl (xv_move rfl ?_)
                  refine xr_op rfl rfl (xv_sub rfl rfl (wrap_i64 (by (first | omega | (dsimp only at *; omega) | (simp at *; omega))) (by (first | omega | (dsimp only at *; omega) | (simp at *; omega)))) ?_)
                  refine xr_op rfl rfl (xv_alloc ty3 (fun ce hce => ?_))
                  refine xr_op rfl rfl (xv_s1 ty3 rfl rfl rfl (by (first|(apply u_3;(repeat first|exact u_0|assumption|apply u_1|apply u_2);done)|((repeat first|exact u_0|assumption|apply u_1|apply u_2);done)|(apply u_3;apply u_3;(repeat first|exact u_0|assumption|apply u_1|apply u_2);done)|((repeat first|exact u_0|assumption|apply u_3|apply u_1);done))) (by (first | rfl | exact Vec.one _ _)) (by (first | decide | exact Nat.le_of_ble_eq_true rfl | (simp only [List.length_cons, List.length_nil]; omega) | (simp; done))) (by ((try apply evl_some rfl);(repeat (first|exact (rfl : _ = [])|apply evl_cons rfl (by (first|exact v_1|exact v_2|exact v_3|exact v_4|exact v_5|exact v_6|exact v_7|exact v_8|exact v_9|exact rfl))|exact rfl)))) ?_)
                  refine xr_end rfl ?_
                  refine th_n ?_
                  refine xc_seq ?_
                  refine xc_seq (xc_region ?_)
                  refine xr_op rfl rfl (xv_load1 ty3 rfl rfl (by (first|((repeat first|exact z_0|assumption|refine z_1 ?_|refine z_r ?_);done)|((repeat refine z_1 ?_);refine z_l ?_;(repeat first|exact z_0|assumption|refine z_1 ?_|refine z_r ?_);done)|((repeat refine z_1 ?_);refine z_r ?_;(repeat refine z_1 ?_);refine z_l ?_;(repeat first|exact z_0|assumption|refine z_1 ?_|refine z_r ?_);done)|((repeat first|exact z_0|assumption|refine z_1 ?_|refine z_l ?_);done))) (by rfl) ?_)
                  refine xr_op rfl rfl (xv_move rfl ?_)
                  refine xr_op rfl rfl (xv_lss2 rfl rfl (fun q11 => ?_) (fun q11 => ?_))
                  · refine xr_end rfl ?_
                    refine th_n ?_
                    refine xc_true rfl ?_
                    refine xc_exit ?_
                    refine th_x ?_
                    refine bk_same ?_
                    refine th_n ?_
                    refine xc_region ?_
                    refine xr_op rfl rfl (xv_move rfl ?_)
                    refine xr_op rfl rfl (xv_add rfl rfl (wrap_i64 (by (first | omega | (dsimp only at *; omega) | (simp at *; omega))) (by (first | omega | (dsimp only at *; omega) | (simp at *; omega)))) ?_)
                    refine xr_op rfl rfl (xv_assign rfl ?_)
                    refine xr_end rfl ?_
                    exact rnd (ey + 1) (by (first | omega | (dsimp only at *; omega) | (simp at *; omega))) (by (first | omega | (dsimp only at *; omega) | (simp at *; omega))) (le_put (le_put (le_put (le_put (le_put (le_put (le_put (le_put (le_emp _) rfl) rfl) rfl) rfl) rfl) rfl) rfl) rfl) (by (first|((repeat first|exact s_0|exact s_1|exact s_3|refine s_4 ?_|refine s_5 ?_|refine s_6 ?_|refine s_7 ?_);done)|((repeat first|exact s_0|exact s_1|exact s_3|refine s_4 ?_|refine s_5 ?_|refine s_6 ?_|refine s_8 ?_);done)))
                  · refine xr_end rfl ?_
                    refine th_n ?_
                    refine xc_false rfl ?_
                    refine xc_skip ?_
                    refine th_n ?_
                    refine xc_seq (xc_region ?_)
                    refine xr_op rfl rfl (xv_assign rfl ?_)
                    refine xr_end rfl ?_
                    refine th_n ?_
                    refine xc_seq ?_
                    refine xc_seq (xc_region ?_)
                    refine xr_op rfl rfl (xv_alloc ty3 (fun cz hcz => ?_))
                    refine xr_op rfl rfl (xv_s1 ty3 rfl rfl rfl (by (first|(apply u_3;(repeat first|exact u_0|assumption|apply u_1|apply u_2);done)|((repeat first|exact u_0|assumption|apply u_1|apply u_2);done)|(apply u_3;apply u_3;(repeat first|exact u_0|assumption|apply u_1|apply u_2);done)|((repeat first|exact u_0|assumption|apply u_3|apply u_1);done))) (by (first | rfl | exact Vec.one _ _)) (by (first | decide | exact Nat.le_of_ble_eq_true rfl | (simp only [List.length_cons, List.length_nil]; omega) | (simp; done))) (by ((try apply evl_some rfl);(repeat (first|exact (rfl : _ = [])|apply evl_cons rfl (by (first|exact v_1|exact v_2|exact v_3|exact v_4|exact v_5|exact v_6|exact v_7|exact v_8|exact v_9|exact rfl))|exact rfl)))) ?_)
                    refine xr_end rfl ?_
                    refine th_n ?_
                    refine xc_block ?_
                    refine xc_loop (σ := Nat × Nat × Bool) (fun x => x.1 ≤ by_.length + 1 ∧ x.2.2 = (decide (ey = 0) && decide (0 < x.1))) (fun x => (((((((((((emp.put (some 1) (.slice al l.length cl)).put (some 4) (.pointer (some ⟨cw, 0, none⟩))).put (some 6) (.pointer (some ⟨co, 0, none⟩))).put (some 7) (.pointer (some ⟨cby, 0, none⟩))).put (some 12) (I hh)).put (some 14) (.pointer (some ⟨cx, 0, none⟩))).put (some 15) (I S.last)).put (some 16) (I ey)).put (some 17) (.pointer (some ⟨ce, 0, none⟩))).put (some 18) (.bool x.2.2)).put (some 19) (.pointer (some ⟨x.2.1, 0, none⟩)))) (fun x => ((x.2.1, .cells ⟨[I x.1]⟩ 3) :: (ce, .cells ⟨[I (hh - (ey : Int))]⟩ 3) :: (cx, .cells ⟨eOven (S.ov own.toNat)⟩ 29) :: (cby, .cells ⟨[.slice ab by_.length cb]⟩ 52) :: (co, .cells ⟨[I own]⟩ 3) :: (cw, .cells ⟨eHouse a c w⟩ 24) :: h)) (fun x => by_.length + 1 - x.1) ((0, cz, false) : Nat × Nat × Bool) ⟨Nat.zero_le _, by simp⟩ (le_put (le_put (le_put (le_put (le_put (le_put (le_put (le_put (le_put (le_put (le_put (le_emp _) rfl) rfl) rfl) rfl) rfl) rfl) rfl) rfl) rfl) rfl) rfl) (by (first|((repeat first|exact s_0|exact s_1|exact s_3|refine s_4 ?_|refine s_5 ?_|refine s_6 ?_|refine s_7 ?_);done)|((repeat first|exact s_0|exact s_1|exact s_3|refine s_4 ?_|refine s_5 ?_|refine s_6 ?_|refine s_8 ?_);done))) ?_
                    rintro ⟨z, bz, able⟩ ⟨hzl, hab⟩
                    dsimp only at hzl hab
                    refine xc_seq ?_
                    refine xc_seq (xc_region ?_)
                    refine xr_op rfl rfl (xv_load1 ty3 rfl rfl (by (first|((repeat first|exact z_0|assumption|refine z_1 ?_|refine z_r ?_);done)|((repeat refine z_1 ?_);refine z_l ?_;(repeat first|exact z_0|assumption|refine z_1 ?_|refine z_r ?_);done)|((repeat refine z_1 ?_);refine z_r ?_;(repeat refine z_1 ?_);refine z_l ?_;(repeat first|exact z_0|assumption|refine z_1 ?_|refine z_r ?_);done)|((repeat first|exact z_0|assumption|refine z_1 ?_|refine z_l ?_);done))) (by rfl) ?_)
                    refine xr_op rfl rfl (xv_load1 ty52 rfl rfl (by (first|((repeat first|exact z_0|assumption|refine z_1 ?_|refine z_r ?_);done)|((repeat refine z_1 ?_);refine z_l ?_;(repeat first|exact z_0|assumption|refine z_1 ?_|refine z_r ?_);done)|((repeat refine z_1 ?_);refine z_r ?_;(repeat refine z_1 ?_);refine z_l ?_;(repeat first|exact z_0|assumption|refine z_1 ?_|refine z_r ?_);done)|((repeat first|exact z_0|assumption|refine z_1 ?_|refine z_l ?_);done))) (by rfl) ?_)
                    refine xr_op rfl rfl (xv_len sl52 rfl ?_)
                    refine xr_op rfl rfl (xv_add rfl rfl (wrap_i64 (by (first | omega | (dsimp only at *; omega) | (simp at *; omega))) (by (first | omega | (dsimp only at *; omega) | (simp at *; omega)))) ?_)
                    refine xr_op rfl rfl (xv_lss2 rfl rfl (fun q12 => ?_) (fun q12 => ?_))
                    · refine xr_end rfl ?_
                      refine th_n ?_
                      refine xc_true rfl ?_
                      refine xc_skip ?_
                      refine th_n ?_
                      refine xc_seq ?_
                      refine xc_block ?_
                      refine xc_seq (xc_region ?_)
                      refine xr_op rfl rfl ((al_buildSlice sl25 ty48 rfl rfl rfl rfl rfl (by ((try apply evl_some rfl);(repeat (first|exact (rfl : _ = [])|apply evl_cons rfl (by (first|exact v_1|exact v_2|exact v_3|exact v_4|exact v_5|exact v_6|exact v_7|exact v_8|exact v_9|exact rfl))|exact rfl))))).xv (fun b53 hb53 => ?_))
                      refine xr_op rfl rfl (xv_move rfl ?_)
                      refine xr_op rfl rfl (xv_copy (enc := eStoke) (xs := l) sl25 ty48 rfl rfl rfl rfl (hl.sub (by intro z hz; (first|((repeat first|exact z_0|assumption|refine z_1 ?_|refine z_r ?_);done)|((repeat refine z_1 ?_);refine z_l ?_;(repeat first|exact z_0|assumption|refine z_1 ?_|refine z_r ?_);done)|((repeat refine z_1 ?_);refine z_r ?_;(repeat refine z_1 ?_);refine z_l ?_;(repeat first|exact z_0|assumption|refine z_1 ?_|refine z_r ?_);done)|((repeat first|exact z_0|assumption|refine z_1 ?_|refine z_l ?_);done)))) eStoke_len eStoke_1 (by (first | omega | (dsimp only at *; omega) | (simp at *; omega))) (by (first | omega | (dsimp only at *; omega) | (simp at *; omega))) (fun V hV => ?_))
                      refine xr_op rfl rfl (xv_move rfl ?_)
                      refine xr_op rfl rfl (xv_alloc ty25 (fun call hcall => ?_))
                      refine xr_op rfl rfl (xv_alloc ty3 (fun cat hcat => ?_))
                      refine xr_op rfl rfl (xv_s1 ty25 rfl rfl rfl (by (first|(apply u_3;(repeat first|exact u_0|assumption|apply u_1|apply u_2);done)|((repeat first|exact u_0|assumption|apply u_1|apply u_2);done)|(apply u_3;apply u_3;(repeat first|exact u_0|assumption|apply u_1|apply u_2);done)|((repeat first|exact u_0|assumption|apply u_3|apply u_1);done))) (by (first | rfl | exact Vec.one _ _)) (by (first | decide | exact Nat.le_of_ble_eq_true rfl | (simp only [List.length_cons, List.length_nil]; omega) | (simp; done))) (by ((try apply evl_some rfl);(repeat (first|exact (rfl : _ = [])|apply evl_cons rfl (by (first|exact v_1|exact v_2|exact v_3|exact v_4|exact v_5|exact v_6|exact v_7|exact v_8|exact v_9|exact rfl))|exact rfl)))) ?_)
                      refine xr_op rfl rfl (xv_s1 ty3 rfl rfl rfl (by (first|(apply u_3;(repeat first|exact u_0|assumption|apply u_1|apply u_2);done)|((repeat first|exact u_0|assumption|apply u_1|apply u_2);done)|(apply u_3;apply u_3;(repeat first|exact u_0|assumption|apply u_1|apply u_2);done)|((repeat first|exact u_0|assumption|apply u_3|apply u_1);done))) (by (first | rfl | exact Vec.one _ _)) (by (first | decide | exact Nat.le_of_ble_eq_true rfl | (simp only [List.length_cons, List.length_nil]; omega) | (simp; done))) (by ((try apply evl_some rfl);(repeat (first|exact (rfl : _ = [])|apply evl_cons rfl (by (first|exact v_1|exact v_2|exact v_3|exact v_4|exact v_5|exact v_6|exact v_7|exact v_8|exact v_9|exact rfl))|exact rfl)))) ?_)
                      refine xr_end rfl ?_
                      refine th_n ?_
                      refine xc_seq (xc_region ?_)
                      refine XR.perm perm2 ?_
                      refine xr_op rfl rfl (xv_func rfl rfl ?_)
                      refine xr_op rfl rfl (xv_assign rfl ?_)
                      refine xr_end rfl ?_
                      refine th_n ?_
                      refine xc_join (σ := List Stoke × St × Vec) (fun x => x.2.2.ok 4 x.1.length (x.1.flatMap eStoke) ∧ PlayI w x.1 x.1.length x.2.1 ∧ x.1.length ≤ 45 ∧ Half w S own (hh - (ey : Int)) z x.2.1) (fun x => ((((((((((((((emp.put (some 1) (.slice al l.length cl)).put (some 4) (.pointer (some ⟨cw, 0, none⟩))).put (some 6) (.pointer (some ⟨co, 0, none⟩))).put (some 7) (.pointer (some ⟨cby, 0, none⟩))).put (some 12) (I hh)).put (some 14) (.pointer (some ⟨cx, 0, none⟩))).put (some 15) (I S.last)).put (some 16) (I ey)).put (some 17) (.pointer (some ⟨ce, 0, none⟩))).put (some 18) (.bool able)).put (some 19) (.pointer (some ⟨bz, 0, none⟩))).put (some 20) (.pointer (some ⟨call, 0, none⟩))).put (some 21) (.pointer (some ⟨cat, 0, none⟩))).put (some 22) (.func (.func 21) ⟨[]⟩ ⟨[.pointer (some ⟨bz, 0, none⟩), .pointer (some ⟨cby, 0, none⟩), .pointer (some ⟨cw, 0, none⟩), .pointer (some ⟨ce, 0, none⟩), .pointer (some ⟨cat, 0, none⟩), .pointer (some ⟨co, 0, none⟩), .pointer (some ⟨call, 0, none⟩)]⟩))) (fun x => (x.2.2.hp 48 (x.1.flatMap eStoke) ++ (call, .cells ⟨[x.2.2.val x.1.length]⟩ 25) :: (cat, .cells ⟨[I x.2.1.last]⟩ 3) :: (bz, .cells ⟨[I z]⟩ 3) :: (ce, .cells ⟨[I (hh - (ey : Int))]⟩ 3) :: (cx, .cells ⟨eOven (S.ov own.toNat)⟩ 29) :: (cby, .cells ⟨[.slice ab by_.length cb]⟩ 52) :: (co, .cells ⟨[I own]⟩ 3) :: (cw, .cells ⟨eHouse a c w⟩ 24) :: h)) ?_ ?_
                      · refine xc_seq (xc_region ?_)
                        refine xr_op rfl rfl (xv_faddr fl29_0 rfl ?_)
                        refine xr_op rfl rfl (xv_load1 ty3 rfl rfl (by (first|((repeat first|exact z_0|assumption|refine z_1 ?_|refine z_r ?_);done)|((repeat refine z_1 ?_);refine z_l ?_;(repeat first|exact z_0|assumption|refine z_1 ?_|refine z_r ?_);done)|((repeat refine z_1 ?_);refine z_r ?_;(repeat refine z_1 ?_);refine z_l ?_;(repeat first|exact z_0|assumption|refine z_1 ?_|refine z_r ?_);done)|((repeat first|exact z_0|assumption|refine z_1 ?_|refine z_l ?_);done))) (by rfl) ?_)
                        refine xr_op rfl rfl (xv_eql2 rfl rfl (fun q54 => ?_) (fun q54 => ?_))
                        · refine xr_end rfl ?_
                          refine th_n ?_
                          refine xc_true rfl ?_
                          refine xc_region ?_
                          refine xr_op rfl rfl (xv_move rfl ?_)
                          refine xr_op rfl rfl (xv_fn rfl rfl (afn_func (fi := []) (lb := [.pointer (some ⟨bz, 0, none⟩), .pointer (some ⟨cby, 0, none⟩), .pointer (some ⟨cw, 0, none⟩), .pointer (some ⟨ce, 0, none⟩), .pointer (some ⟨cat, 0, none⟩), .pointer (some ⟨co, 0, none⟩), .pointer (some ⟨call, 0, none⟩)]) hb21 (step_c (l := l) (S := S) (V := V) (own := own) (e := (hh - (ey : Int))) (z := z) (kind := 1) (by (first|((repeat first|exact z_0|assumption|refine z_1 ?_|refine z_r ?_);done)|((repeat refine z_1 ?_);refine z_l ?_;(repeat first|exact z_0|assumption|refine z_1 ?_|refine z_r ?_);done)|((repeat refine z_1 ?_);refine z_r ?_;(repeat refine z_1 ?_);refine z_l ?_;(repeat first|exact z_0|assumption|refine z_1 ?_|refine z_r ?_);done)|((repeat first|exact z_0|assumption|refine z_1 ?_|refine z_l ?_);done))) (by (first|((repeat first|exact z_0|assumption|refine z_1 ?_|refine z_r ?_);done)|((repeat refine z_1 ?_);refine z_l ?_;(repeat first|exact z_0|assumption|refine z_1 ?_|refine z_r ?_);done)|((repeat refine z_1 ?_);refine z_r ?_;(repeat refine z_1 ?_);refine z_l ?_;(repeat first|exact z_0|assumption|refine z_1 ?_|refine z_r ?_);done)|((repeat first|exact z_0|assumption|refine z_1 ?_|refine z_l ?_);done))) (by (first|((repeat first|exact z_0|assumption|refine z_1 ?_|refine z_r ?_);done)|((repeat refine z_1 ?_);refine z_l ?_;(repeat first|exact z_0|assumption|refine z_1 ?_|refine z_r ?_);done)|((repeat refine z_1 ?_);refine z_r ?_;(repeat refine z_1 ?_);refine z_l ?_;(repeat first|exact z_0|assumption|refine z_1 ?_|refine z_r ?_);done)|((repeat first|exact z_0|assumption|refine z_1 ?_|refine z_l ?_);done))) (by (first|((repeat first|exact z_0|assumption|refine z_1 ?_|refine z_r ?_);done)|((repeat refine z_1 ?_);refine z_l ?_;(repeat first|exact z_0|assumption|refine z_1 ?_|refine z_r ?_);done)|((repeat refine z_1 ?_);refine z_r ?_;(repeat refine z_1 ?_);refine z_l ?_;(repeat first|exact z_0|assumption|refine z_1 ?_|refine z_r ?_);done)|((repeat first|exact z_0|assumption|refine z_1 ?_|refine z_l ?_);done))) (by (first|((repeat first|exact z_0|assumption|refine z_1 ?_|refine z_r ?_);done)|((repeat refine z_1 ?_);refine z_l ?_;(repeat first|exact z_0|assumption|refine z_1 ?_|refine z_r ?_);done)|((repeat refine z_1 ?_);refine z_r ?_;(repeat refine z_1 ?_);refine z_l ?_;(repeat first|exact z_0|assumption|refine z_1 ?_|refine z_r ?_);done)|((repeat first|exact z_0|assumption|refine z_1 ?_|refine z_l ?_);done))) (hbs.sub (by intro q hq; (first|((repeat first|exact z_0|assumption|refine z_1 ?_|refine z_r ?_);done)|((repeat refine z_1 ?_);refine z_l ?_;(repeat first|exact z_0|assumption|refine z_1 ?_|refine z_r ?_);done)|((repeat refine z_1 ?_);refine z_r ?_;(repeat refine z_1 ?_);refine z_l ?_;(repeat first|exact z_0|assumption|refine z_1 ?_|refine z_r ?_);done)|((repeat first|exact z_0|assumption|refine z_1 ?_|refine z_l ?_);done)))) (hs.sub (by intro q hq; (first|((repeat first|exact z_0|assumption|refine z_1 ?_|refine z_r ?_);done)|((repeat refine z_1 ?_);refine z_l ?_;(repeat first|exact z_0|assumption|refine z_1 ?_|refine z_r ?_);done)|((repeat refine z_1 ?_);refine z_r ?_;(repeat refine z_1 ?_);refine z_l ?_;(repeat first|exact z_0|assumption|refine z_1 ?_|refine z_r ?_);done)|((repeat first|exact z_0|assumption|refine z_1 ?_|refine z_l ?_);done)))) hlen hpk.1 hV hI (by omega) (by omega) ⟨by omega, by omega⟩ (by omega) ⟨by omega, by omega⟩ (fun wait1 hw1 hr1 => up_ret ?_) (fun wait1 t1 S1 V1 hw1 hr1 hV1 => up_ret ?_))))
                          · refine xr_end rfl ?_
                            exact jn_n ((l, S, V) : List Stoke × St × Vec) ⟨hV, hI, by dsimp only; omega, half_n (by omega) hw1 hr1⟩ (le_put (le_put (le_put (le_put (le_put (le_put (le_put (le_put (le_put (le_put (le_put (le_put (le_put (le_put (le_emp _) rfl) rfl) rfl) rfl) rfl) rfl) rfl) rfl) rfl) rfl) rfl) rfl) rfl) rfl) (by (first|((repeat first|exact s_0|exact s_1|exact s_3|refine s_4 ?_|refine s_5 ?_|refine s_6 ?_|refine s_7 ?_);done)|((repeat first|exact s_0|exact s_1|exact s_3|refine s_4 ?_|refine s_5 ?_|refine s_6 ?_|refine s_8 ?_);done)))
                          · refine xr_end rfl ?_
                            exact jn_n ((l ++ [stk own 1 t1], S1, V1) : List Stoke × St × Vec) ⟨hV1, hI.snoc hpk.1 (step_last hr1).2, by simp; omega, half_s (by omega) hw1 hr1⟩ (le_put (le_put (le_put (le_put (le_put (le_put (le_put (le_put (le_put (le_put (le_put (le_put (le_put (le_put (le_emp _) rfl) rfl) rfl) rfl) rfl) rfl) rfl) rfl) rfl) rfl) rfl) rfl) rfl) rfl) (by dsimp only; rw [← (step_last hr1).1]; (first|((repeat first|exact s_0|exact s_1|exact s_3|refine s_4 ?_|refine s_5 ?_|refine s_6 ?_|refine s_7 ?_);done)|((repeat first|exact s_0|exact s_1|exact s_3|refine s_4 ?_|refine s_5 ?_|refine s_6 ?_|refine s_8 ?_);done)))
                        · refine xr_end rfl ?_
                          refine th_n ?_
                          refine xc_false rfl ?_
                          refine xc_skip ?_
                          exact jn_n ((l, S, V) : List Stoke × St × Vec) ⟨hV, hI, by dsimp only; omega, half_no (by omega)⟩ (le_put (le_put (le_put (le_put (le_put (le_put (le_put (le_put (le_put (le_put (le_put (le_put (le_put (le_put (le_emp _) rfl) rfl) rfl) rfl) rfl) rfl) rfl) rfl) rfl) rfl) rfl) rfl) rfl) rfl) (by (first|((repeat first|exact s_0|exact s_1|exact s_3|refine s_4 ?_|refine s_5 ?_|refine s_6 ?_|refine s_7 ?_);done)|((repeat first|exact s_0|exact s_1|exact s_3|refine s_4 ?_|refine s_5 ?_|refine s_6 ?_|refine s_8 ?_);done)))
                      · rintro ⟨L1, S1, V1⟩ ⟨hV1, hI1, hL1, hW1⟩
                        dsimp only at hV1 hI1 hL1 hW1
                        refine xc_join (σ := List Stoke × St × Vec) (fun x => x.2.2.ok 4 x.1.length (x.1.flatMap eStoke) ∧ PlayI w x.1 x.1.length x.2.1 ∧ x.1.length ≤ 46 ∧ Way w S own (hh - (ey : Int)) z x.2.1) (fun x => ((((((((((((((emp.put (some 1) (.slice al l.length cl)).put (some 4) (.pointer (some ⟨cw, 0, none⟩))).put (some 6) (.pointer (some ⟨co, 0, none⟩))).put (some 7) (.pointer (some ⟨cby, 0, none⟩))).put (some 12) (I hh)).put (some 14) (.pointer (some ⟨cx, 0, none⟩))).put (some 15) (I S.last)).put (some 16) (I ey)).put (some 17) (.pointer (some ⟨ce, 0, none⟩))).put (some 18) (.bool able)).put (some 19) (.pointer (some ⟨bz, 0, none⟩))).put (some 20) (.pointer (some ⟨call, 0, none⟩))).put (some 21) (.pointer (some ⟨cat, 0, none⟩))).put (some 22) (.func (.func 21) ⟨[]⟩ ⟨[.pointer (some ⟨bz, 0, none⟩), .pointer (some ⟨cby, 0, none⟩), .pointer (some ⟨cw, 0, none⟩), .pointer (some ⟨ce, 0, none⟩), .pointer (some ⟨cat, 0, none⟩), .pointer (some ⟨co, 0, none⟩), .pointer (some ⟨call, 0, none⟩)]⟩))) (fun x => (x.2.2.hp 48 (x.1.flatMap eStoke) ++ (call, .cells ⟨[x.2.2.val x.1.length]⟩ 25) :: (cat, .cells ⟨[I x.2.1.last]⟩ 3) :: (bz, .cells ⟨[I z]⟩ 3) :: (ce, .cells ⟨[I (hh - (ey : Int))]⟩ 3) :: (cx, .cells ⟨eOven (S.ov own.toNat)⟩ 29) :: (cby, .cells ⟨[.slice ab by_.length cb]⟩ 52) :: (co, .cells ⟨[I own]⟩ 3) :: (cw, .cells ⟨eHouse a c w⟩ 24) :: h)) ?_ ?_
                        · refine xc_seq (xc_region ?_)
                          refine xr_op rfl rfl (xv_faddr fl29_3 rfl ?_)
                          refine xr_op rfl rfl (xv_load1 ty3 rfl rfl (by (first|((repeat first|exact z_0|assumption|refine z_1 ?_|refine z_r ?_);done)|((repeat refine z_1 ?_);refine z_l ?_;(repeat first|exact z_0|assumption|refine z_1 ?_|refine z_r ?_);done)|((repeat refine z_1 ?_);refine z_r ?_;(repeat refine z_1 ?_);refine z_l ?_;(repeat first|exact z_0|assumption|refine z_1 ?_|refine z_r ?_);done)|((repeat first|exact z_0|assumption|refine z_1 ?_|refine z_l ?_);done))) (by rfl) ?_)
                          refine xr_op rfl rfl (xv_faddr fl24_2 rfl ?_)
                          refine xr_op rfl rfl (xv_load1 ty3 rfl rfl (by (first|((repeat first|exact z_0|assumption|refine z_1 ?_|refine z_r ?_);done)|((repeat refine z_1 ?_);refine z_l ?_;(repeat first|exact z_0|assumption|refine z_1 ?_|refine z_r ?_);done)|((repeat refine z_1 ?_);refine z_r ?_;(repeat refine z_1 ?_);refine z_l ?_;(repeat first|exact z_0|assumption|refine z_1 ?_|refine z_r ?_);done)|((repeat first|exact z_0|assumption|refine z_1 ?_|refine z_l ?_);done))) (by rfl) ?_)
                          refine xr_op rfl rfl (xv_eql2 rfl rfl (fun q55 => ?_) (fun q55 => ?_))
                          · refine xr_end rfl ?_
                            refine th_n ?_
                            refine xc_true rfl ?_
                            refine xc_region ?_
                            refine xr_op rfl rfl (xv_move rfl ?_)
                            refine xr_op rfl rfl (xv_fn rfl rfl (afn_func (fi := []) (lb := [.pointer (some ⟨bz, 0, none⟩), .pointer (some ⟨cby, 0, none⟩), .pointer (some ⟨cw, 0, none⟩), .pointer (some ⟨ce, 0, none⟩), .pointer (some ⟨cat, 0, none⟩), .pointer (some ⟨co, 0, none⟩), .pointer (some ⟨call, 0, none⟩)]) hb21 (step_c (l := L1) (S := S1) (V := V1) (own := own) (e := (hh - (ey : Int))) (z := z) (kind := 2) (by (first|((repeat first|exact z_0|assumption|refine z_1 ?_|refine z_r ?_);done)|((repeat refine z_1 ?_);refine z_l ?_;(repeat first|exact z_0|assumption|refine z_1 ?_|refine z_r ?_);done)|((repeat refine z_1 ?_);refine z_r ?_;(repeat refine z_1 ?_);refine z_l ?_;(repeat first|exact z_0|assumption|refine z_1 ?_|refine z_r ?_);done)|((repeat first|exact z_0|assumption|refine z_1 ?_|refine z_l ?_);done))) (by (first|((repeat first|exact z_0|assumption|refine z_1 ?_|refine z_r ?_);done)|((repeat refine z_1 ?_);refine z_l ?_;(repeat first|exact z_0|assumption|refine z_1 ?_|refine z_r ?_);done)|((repeat refine z_1 ?_);refine z_r ?_;(repeat refine z_1 ?_);refine z_l ?_;(repeat first|exact z_0|assumption|refine z_1 ?_|refine z_r ?_);done)|((repeat first|exact z_0|assumption|refine z_1 ?_|refine z_l ?_);done))) (by (first|((repeat first|exact z_0|assumption|refine z_1 ?_|refine z_r ?_);done)|((repeat refine z_1 ?_);refine z_l ?_;(repeat first|exact z_0|assumption|refine z_1 ?_|refine z_r ?_);done)|((repeat refine z_1 ?_);refine z_r ?_;(repeat refine z_1 ?_);refine z_l ?_;(repeat first|exact z_0|assumption|refine z_1 ?_|refine z_r ?_);done)|((repeat first|exact z_0|assumption|refine z_1 ?_|refine z_l ?_);done))) (by (first|((repeat first|exact z_0|assumption|refine z_1 ?_|refine z_r ?_);done)|((repeat refine z_1 ?_);refine z_l ?_;(repeat first|exact z_0|assumption|refine z_1 ?_|refine z_r ?_);done)|((repeat refine z_1 ?_);refine z_r ?_;(repeat refine z_1 ?_);refine z_l ?_;(repeat first|exact z_0|assumption|refine z_1 ?_|refine z_r ?_);done)|((repeat first|exact z_0|assumption|refine z_1 ?_|refine z_l ?_);done))) (by (first|((repeat first|exact z_0|assumption|refine z_1 ?_|refine z_r ?_);done)|((repeat refine z_1 ?_);refine z_l ?_;(repeat first|exact z_0|assumption|refine z_1 ?_|refine z_r ?_);done)|((repeat refine z_1 ?_);refine z_r ?_;(repeat refine z_1 ?_);refine z_l ?_;(repeat first|exact z_0|assumption|refine z_1 ?_|refine z_r ?_);done)|((repeat first|exact z_0|assumption|refine z_1 ?_|refine z_l ?_);done))) (hbs.sub (by intro q hq; (first|((repeat first|exact z_0|assumption|refine z_1 ?_|refine z_r ?_);done)|((repeat refine z_1 ?_);refine z_l ?_;(repeat first|exact z_0|assumption|refine z_1 ?_|refine z_r ?_);done)|((repeat refine z_1 ?_);refine z_r ?_;(repeat refine z_1 ?_);refine z_l ?_;(repeat first|exact z_0|assumption|refine z_1 ?_|refine z_r ?_);done)|((repeat first|exact z_0|assumption|refine z_1 ?_|refine z_l ?_);done)))) (hs.sub (by intro q hq; (first|((repeat first|exact z_0|assumption|refine z_1 ?_|refine z_r ?_);done)|((repeat refine z_1 ?_);refine z_l ?_;(repeat first|exact z_0|assumption|refine z_1 ?_|refine z_r ?_);done)|((repeat refine z_1 ?_);refine z_r ?_;(repeat refine z_1 ?_);refine z_l ?_;(repeat first|exact z_0|assumption|refine z_1 ?_|refine z_r ?_);done)|((repeat first|exact z_0|assumption|refine z_1 ?_|refine z_l ?_);done)))) hlen hpk.1 hV1 hI1 (by omega) (by omega) ⟨by omega, by omega⟩ (by omega) ⟨by omega, by omega⟩ (fun wait2 hw2 hr2 => up_ret ?_) (fun wait2 t2 S2 V2 hw2 hr2 hV2 => up_ret ?_))))
                            · refine xr_end rfl ?_
                              exact jn_n ((L1, S1, V1) : List Stoke × St × Vec) ⟨hV1, hI1, by dsimp only; omega, way_n hW1 (by omega) hw2 hr2⟩ (le_put (le_put (le_put (le_put (le_put (le_put (le_put (le_put (le_put (le_put (le_put (le_put (le_put (le_put (le_emp _) rfl) rfl) rfl) rfl) rfl) rfl) rfl) rfl) rfl) rfl) rfl) rfl) rfl) rfl) (by (first|((repeat first|exact s_0|exact s_1|exact s_3|refine s_4 ?_|refine s_5 ?_|refine s_6 ?_|refine s_7 ?_);done)|((repeat first|exact s_0|exact s_1|exact s_3|refine s_4 ?_|refine s_5 ?_|refine s_6 ?_|refine s_8 ?_);done)))
                            · refine xr_end rfl ?_
                              exact jn_n ((L1 ++ [stk own 2 t2], S2, V2) : List Stoke × St × Vec) ⟨hV2, hI1.snoc hpk.1 (step_last hr2).2, by simp; omega, way_s hW1 (by omega) hw2 hr2⟩ (le_put (le_put (le_put (le_put (le_put (le_put (le_put (le_put (le_put (le_put (le_put (le_put (le_put (le_put (le_emp _) rfl) rfl) rfl) rfl) rfl) rfl) rfl) rfl) rfl) rfl) rfl) rfl) rfl) rfl) (by dsimp only; rw [← (step_last hr2).1]; (first|((repeat first|exact s_0|exact s_1|exact s_3|refine s_4 ?_|refine s_5 ?_|refine s_6 ?_|refine s_7 ?_);done)|((repeat first|exact s_0|exact s_1|exact s_3|refine s_4 ?_|refine s_5 ?_|refine s_6 ?_|refine s_8 ?_);done)))
                          · refine xr_end rfl ?_
                            refine th_n ?_
                            refine xc_false rfl ?_
                            refine xc_skip ?_
                            exact jn_n ((L1, S1, V1) : List Stoke × St × Vec) ⟨hV1, hI1, by dsimp only; omega, way_no hW1 (by omega)⟩ (le_put (le_put (le_put (le_put (le_put (le_put (le_put (le_put (le_put (le_put (le_put (le_put (le_put (le_put (le_emp _) rfl) rfl) rfl) rfl) rfl) rfl) rfl) rfl) rfl) rfl) rfl) rfl) rfl) rfl) (by (first|((repeat first|exact s_0|exact s_1|exact s_3|refine s_4 ?_|refine s_5 ?_|refine s_6 ?_|refine s_7 ?_);done)|((repeat first|exact s_0|exact s_1|exact s_3|refine s_4 ?_|refine s_5 ?_|refine s_6 ?_|refine s_8 ?_);done)))
                        · rintro ⟨L2, S2, V2⟩ ⟨hV2, hI2, hL2, hWay⟩
                          dsimp only at hV2 hI2 hL2 hWay
                          refine xc_seq ?_
                          refine xc_drawL (L := [(cw, fun o => o = .cells ⟨eHouse a c w⟩ 24 (0, 0)), (ce, fun o => o = .cells ⟨[I (hh - (ey : Int))]⟩ 3 (0, 0)), (co, fun o => o = .cells ⟨[I own]⟩ 3 (0, 0))]) [(0, .S), (1, .P), (2, .R), (4, .S), (5, .S), (6, .S), (7, .P), (14, .P), (1, .A), (3, .O), (7, .A), (8, .O), (9, .O), (10, .S), (11, .S), (12, .S), (13, .S), (14, .A), (15, .O), (16, .S), (17, .S)] [] _ mixed (by kernel_rfl) (by rw [List.append_nil]) (holds3 (by (first|((repeat first|exact z_0|assumption|refine z_1 ?_|refine z_r ?_);done)|((repeat refine z_1 ?_);refine z_l ?_;(repeat first|exact z_0|assumption|refine z_1 ?_|refine z_r ?_);done)|((repeat refine z_1 ?_);refine z_r ?_;(repeat refine z_1 ?_);refine z_l ?_;(repeat first|exact z_0|assumption|refine z_1 ?_|refine z_r ?_);done)|((repeat first|exact z_0|assumption|refine z_1 ?_|refine z_l ?_);done))) rfl (by (first|((repeat first|exact z_0|assumption|refine z_1 ?_|refine z_r ?_);done)|((repeat refine z_1 ?_);refine z_l ?_;(repeat first|exact z_0|assumption|refine z_1 ?_|refine z_r ?_);done)|((repeat refine z_1 ?_);refine z_r ?_;(repeat refine z_1 ?_);refine z_l ?_;(repeat first|exact z_0|assumption|refine z_1 ?_|refine z_r ?_);done)|((repeat first|exact z_0|assumption|refine z_1 ?_|refine z_l ?_);done))) rfl (by (first|((repeat first|exact z_0|assumption|refine z_1 ?_|refine z_r ?_);done)|((repeat refine z_1 ?_);refine z_l ?_;(repeat first|exact z_0|assumption|refine z_1 ?_|refine z_r ?_);done)|((repeat refine z_1 ?_);refine z_r ?_;(repeat refine z_1 ?_);refine z_l ?_;(repeat first|exact z_0|assumption|refine z_1 ?_|refine z_r ?_);done)|((repeat first|exact z_0|assumption|refine z_1 ?_|refine z_l ?_);done))) rfl) ?_
                          refine js_I rfl rfl (.inl rfl) (fun hh hv => by obtain ⟨o, hm, rfl⟩ := hv cw _ List.mem_cons_self; exact xv_loadA ty24 rfl rfl (List.mem_append_left _ hm) (by ((try apply evl_some rfl);(repeat (first|exact (rfl : _ = [])|apply evl_cons rfl (by (first|exact v_1|exact v_2|exact v_3|exact v_4|exact v_5|exact v_6|exact v_7|exact v_8|exact v_9|exact rfl))|exact rfl)))) (by rfl) ⟨rfl, rfl⟩) ?_
                          refine js_P rfl rfl rfl (al_buildSlice sl25 ty48 rfl rfl rfl rfl rfl (by ((try apply evl_some rfl);(repeat (first|exact (rfl : _ = [])|apply evl_cons rfl (by (first|exact v_1|exact v_2|exact v_3|exact v_4|exact v_5|exact v_6|exact v_7|exact v_8|exact v_9|exact rfl))|exact rfl))))) ?_
                          refine js_R0 rfl rfl (.inl rfl) (xv_load1 ty25 rfl rfl (by (first|((repeat first|exact z_0|assumption|refine z_1 ?_|refine z_r ?_);done)|((repeat refine z_1 ?_);refine z_l ?_;(repeat first|exact z_0|assumption|refine z_1 ?_|refine z_r ?_);done)|((repeat refine z_1 ?_);refine z_r ?_;(repeat refine z_1 ?_);refine z_l ?_;(repeat first|exact z_0|assumption|refine z_1 ?_|refine z_r ?_);done)|((repeat first|exact z_0|assumption|refine z_1 ?_|refine z_l ?_);done))) (by rfl) ⟨rfl, rfl⟩) ?_
                          refine js_I rfl rfl (.inl rfl) (fun hh hv => by obtain ⟨o, hm, rfl⟩ := hv ce _ (List.mem_cons_of_mem _ List.mem_cons_self); exact xv_load1 ty3 rfl rfl (List.mem_append_left _ hm) (by rfl) ⟨rfl, rfl⟩) ?_
                          refine js_I rfl rfl (.inl rfl) (fun hh hv => by obtain ⟨o, hm, rfl⟩ := hv co _ (List.mem_cons_of_mem _ (List.mem_cons_of_mem _ List.mem_cons_self)); exact xv_load1 ty3 rfl rfl (List.mem_append_left _ hm) (by rfl) ⟨rfl, rfl⟩) ?_
                          refine js_S rfl rfl (.inl rfl) (xv_build bt48 rfl (by ((try apply evl_some rfl);(repeat (first|exact (rfl : _ = [])|apply evl_cons rfl (by (first|exact v_1|exact v_2|exact v_3|exact v_4|exact v_5|exact v_6|exact v_7|exact v_8|exact v_9|exact rfl))|exact rfl)))) ⟨rfl, rfl⟩) ?_
                          refine js_P rfl rfl rfl (al_buildSlice sl25 ty48 rfl rfl rfl rfl rfl (by ((try apply evl_some rfl);(repeat (first|exact (rfl : _ = [])|apply evl_cons rfl (by (first|exact v_1|exact v_2|exact v_3|exact v_4|exact v_5|exact v_6|exact v_7|exact v_8|exact v_9|exact rfl))|exact rfl))))) ?_
                          refine js_P rfl rfl rfl (al_alloc ty30) ?_
                          refine js_A0 rfl rfl rfl rfl rfl trivial (fun cn hcn => ?_)
                          refine js_OL0 rfl rfl (.inl rfl) (xv_copyV (enc := eStoke) (xs := L2) sl25 ty48 rfl rfl rfl rfl rfl hV2 (by intro q hq; (first|((repeat first|exact z_0|assumption|refine z_1 ?_|refine z_r ?_);done)|((repeat refine z_1 ?_);refine z_l ?_;(repeat first|exact z_0|assumption|refine z_1 ?_|refine z_r ?_);done)|((repeat refine z_1 ?_);refine z_r ?_;(repeat refine z_1 ?_);refine z_l ?_;(repeat first|exact z_0|assumption|refine z_1 ?_|refine z_r ?_);done)|((repeat first|exact z_0|assumption|refine z_1 ?_|refine z_l ?_);done))) eStoke_len eStoke_1 (by show 2 * _ * 32 ≤ _; omega) (by omega) (fun V4 hV4 => ?_))
                          refine ⟨holds3 (by (first|((repeat first|exact z_0|assumption|refine z_1 ?_|refine z_r ?_);done)|((repeat refine z_1 ?_);refine z_l ?_;(repeat first|exact z_0|assumption|refine z_1 ?_|refine z_r ?_);done)|((repeat refine z_1 ?_);refine z_r ?_;(repeat refine z_1 ?_);refine z_l ?_;(repeat first|exact z_0|assumption|refine z_1 ?_|refine z_r ?_);done)|((repeat first|exact z_0|assumption|refine z_1 ?_|refine z_l ?_);done))) rfl (by (first|((repeat first|exact z_0|assumption|refine z_1 ?_|refine z_r ?_);done)|((repeat refine z_1 ?_);refine z_l ?_;(repeat first|exact z_0|assumption|refine z_1 ?_|refine z_r ?_);done)|((repeat refine z_1 ?_);refine z_r ?_;(repeat refine z_1 ?_);refine z_l ?_;(repeat first|exact z_0|assumption|refine z_1 ?_|refine z_r ?_);done)|((repeat first|exact z_0|assumption|refine z_1 ?_|refine z_l ?_);done))) rfl (by (first|((repeat first|exact z_0|assumption|refine z_1 ?_|refine z_r ?_);done)|((repeat refine z_1 ?_);refine z_l ?_;(repeat first|exact z_0|assumption|refine z_1 ?_|refine z_r ?_);done)|((repeat refine z_1 ?_);refine z_r ?_;(repeat refine z_1 ?_);refine z_l ?_;(repeat first|exact z_0|assumption|refine z_1 ?_|refine z_r ?_);done)|((repeat first|exact z_0|assumption|refine z_1 ?_|refine z_l ?_);done))) rfl, ?_⟩
                          refine js_A0 rfl rfl rfl rfl rfl ⟨rfl, trivial⟩ (fun cm hcm => ?_)
                          refine js_OL0 rfl rfl (.inl rfl) (xv_append (V := V4) (n := L2.length) (xs := L2.flatMap eStoke) sl25 ty48 rfl rfl rfl hV4 (.there .here) (by (first|((repeat first|exact z_0|assumption|refine z_1 ?_|refine z_r ?_);done)|((repeat refine z_1 ?_);refine z_l ?_;(repeat first|exact z_0|assumption|refine z_1 ?_|refine z_r ?_);done)|((repeat refine z_1 ?_);refine z_r ?_;(repeat refine z_1 ?_);refine z_l ?_;(repeat first|exact z_0|assumption|refine z_1 ?_|refine z_r ?_);done)|((repeat first|exact z_0|assumption|refine z_1 ?_|refine z_l ?_);done))) (by ((try apply evl_some rfl);(repeat (first|exact (rfl : _ = [])|apply evl_cons rfl (by (first|exact v_1|exact v_2|exact v_3|exact v_4|exact v_5|exact v_6|exact v_7|exact v_8|exact v_9|exact rfl))|exact rfl)))) rfl rfl (by omega) (by simp only []; omega) (by omega) (fun V5 hV5 => ?_))
                          refine ⟨holds3 (by (first|((repeat first|exact z_0|assumption|refine z_1 ?_|refine z_r ?_);done)|((repeat refine z_1 ?_);refine z_l ?_;(repeat first|exact z_0|assumption|refine z_1 ?_|refine z_r ?_);done)|((repeat refine z_1 ?_);refine z_r ?_;(repeat refine z_1 ?_);refine z_l ?_;(repeat first|exact z_0|assumption|refine z_1 ?_|refine z_r ?_);done)|((repeat first|exact z_0|assumption|refine z_1 ?_|refine z_l ?_);done))) rfl (by (first|((repeat first|exact z_0|assumption|refine z_1 ?_|refine z_r ?_);done)|((repeat refine z_1 ?_);refine z_l ?_;(repeat first|exact z_0|assumption|refine z_1 ?_|refine z_r ?_);done)|((repeat refine z_1 ?_);refine z_r ?_;(repeat refine z_1 ?_);refine z_l ?_;(repeat first|exact z_0|assumption|refine z_1 ?_|refine z_r ?_);done)|((repeat first|exact z_0|assumption|refine z_1 ?_|refine z_l ?_);done))) rfl (by (first|((repeat first|exact z_0|assumption|refine z_1 ?_|refine z_r ?_);done)|((repeat refine z_1 ?_);refine z_l ?_;(repeat first|exact z_0|assumption|refine z_1 ?_|refine z_r ?_);done)|((repeat refine z_1 ?_);refine z_r ?_;(repeat refine z_1 ?_);refine z_l ?_;(repeat first|exact z_0|assumption|refine z_1 ?_|refine z_r ?_);done)|((repeat first|exact z_0|assumption|refine z_1 ?_|refine z_l ?_);done))) rfl, ?_⟩
                          have hfl : (L2 ++ [stk own 0 (hh - (ey : Int))]).flatMap eStoke = L2.flatMap eStoke ++ [I (hh - (ey : Int)), I own, I 0, I 1] := by rw [List.flatMap_append]; rfl
                          have hV6 : V5.ok 4 (L2.length + 1) ((L2 ++ [stk own 0 (hh - (ey : Int))]).flatMap eStoke) := by rw [hfl]; exact hV5
                          refine js_OL0 rfl rfl (.inl rfl) (xv_calls rfl hb11 (PlayV_2 (l := L2 ++ [stk own 0 (hh - (ey : Int))]) (V := V5) (hs.sub (by intro q hq; (first|((repeat first|exact z_0|assumption|refine z_1 ?_|refine z_r ?_);done)|((repeat refine z_1 ?_);refine z_l ?_;(repeat first|exact z_0|assumption|refine z_1 ?_|refine z_r ?_);done)|((repeat refine z_1 ?_);refine z_r ?_;(repeat refine z_1 ?_);refine z_l ?_;(repeat first|exact z_0|assumption|refine z_1 ?_|refine z_r ?_);done)|((repeat first|exact z_0|assumption|refine z_1 ?_|refine z_l ?_);done)))) hlen hV6 (by simp) (by rw [hfl]; intro q hq; (first|((repeat first|exact z_0|assumption|refine z_1 ?_|refine z_r ?_);done)|((repeat refine z_1 ?_);refine z_l ?_;(repeat first|exact z_0|assumption|refine z_1 ?_|refine z_r ?_);done)|((repeat refine z_1 ?_);refine z_r ?_;(repeat refine z_1 ?_);refine z_l ?_;(repeat first|exact z_0|assumption|refine z_1 ?_|refine z_r ?_);done)|((repeat first|exact z_0|assumption|refine z_1 ?_|refine z_l ?_);done))) (fun i e1 hpe => up_ret ?_) (fun S3 hpo3 => up_ret ?_)))
                          · refine ⟨holds3 (by (first|((repeat first|exact z_0|assumption|refine z_1 ?_|refine z_r ?_);done)|((repeat refine z_1 ?_);refine z_l ?_;(repeat first|exact z_0|assumption|refine z_1 ?_|refine z_r ?_);done)|((repeat refine z_1 ?_);refine z_r ?_;(repeat refine z_1 ?_);refine z_l ?_;(repeat first|exact z_0|assumption|refine z_1 ?_|refine z_r ?_);done)|((repeat first|exact z_0|assumption|refine z_1 ?_|refine z_l ?_);done))) rfl (by (first|((repeat first|exact z_0|assumption|refine z_1 ?_|refine z_r ?_);done)|((repeat refine z_1 ?_);refine z_l ?_;(repeat first|exact z_0|assumption|refine z_1 ?_|refine z_r ?_);done)|((repeat refine z_1 ?_);refine z_r ?_;(repeat refine z_1 ?_);refine z_l ?_;(repeat first|exact z_0|assumption|refine z_1 ?_|refine z_r ?_);done)|((repeat first|exact z_0|assumption|refine z_1 ?_|refine z_l ?_);done))) rfl (by (first|((repeat first|exact z_0|assumption|refine z_1 ?_|refine z_r ?_);done)|((repeat refine z_1 ?_);refine z_l ?_;(repeat first|exact z_0|assumption|refine z_1 ?_|refine z_r ?_);done)|((repeat refine z_1 ?_);refine z_r ?_;(repeat refine z_1 ?_);refine z_l ?_;(repeat first|exact z_0|assumption|refine z_1 ?_|refine z_r ?_);done)|((repeat first|exact z_0|assumption|refine z_1 ?_|refine z_l ?_);done))) rfl, ?_⟩
                            refine js_S rfl rfl (.inl rfl) (xv_move rfl ⟨rfl, rfl⟩) ?_
                            refine js_S rfl rfl (.inl rfl) (xv_extract rfl rfl ⟨rfl, rfl⟩) ?_
                            refine js_S rfl rfl (.inl rfl) (xv_extract rfl rfl ⟨rfl, rfl⟩) ?_
                            refine js_S rfl rfl (.inl rfl) (xv_extract rfl rfl ⟨rfl, rfl⟩) ?_
                            refine js_A0 rfl rfl rfl rfl rfl trivial (fun cg hcg => ?_)
                            refine js_OL0 rfl rfl (.inl rfl) (xv_s ty30 rfl rfl (by (first|(apply u_3;(repeat first|exact u_0|assumption|apply u_1|apply u_2);done)|((repeat first|exact u_0|assumption|apply u_1|apply u_2);done)|(apply u_3;apply u_3;(repeat first|exact u_0|assumption|apply u_1|apply u_2);done)|((repeat first|exact u_0|assumption|apply u_3|apply u_1);done))) (by ((try apply evl_some rfl);(repeat (first|exact (rfl : _ = [])|apply evl_cons rfl (by (first|exact v_1|exact v_2|exact v_3|exact v_4|exact v_5|exact v_6|exact v_7|exact v_8|exact v_9|exact rfl))|exact rfl)))) (by rfl) (by rfl) (by rfl) (by ((try apply evl_some rfl);(repeat (first|exact (rfl : _ = [])|apply evl_cons rfl (by (first|exact v_1|exact v_2|exact v_3|exact v_4|exact v_5|exact v_6|exact v_7|exact v_8|exact v_9|exact rfl))|exact rfl)))) ?_)
                            refine ⟨holds3 (by (first|((repeat first|exact z_0|assumption|refine z_1 ?_|refine z_r ?_);done)|((repeat refine z_1 ?_);refine z_l ?_;(repeat first|exact z_0|assumption|refine z_1 ?_|refine z_r ?_);done)|((repeat refine z_1 ?_);refine z_r ?_;(repeat refine z_1 ?_);refine z_l ?_;(repeat first|exact z_0|assumption|refine z_1 ?_|refine z_r ?_);done)|((repeat first|exact z_0|assumption|refine z_1 ?_|refine z_l ?_);done))) rfl (by (first|((repeat first|exact z_0|assumption|refine z_1 ?_|refine z_r ?_);done)|((repeat refine z_1 ?_);refine z_l ?_;(repeat first|exact z_0|assumption|refine z_1 ?_|refine z_r ?_);done)|((repeat refine z_1 ?_);refine z_r ?_;(repeat refine z_1 ?_);refine z_l ?_;(repeat first|exact z_0|assumption|refine z_1 ?_|refine z_r ?_);done)|((repeat first|exact z_0|assumption|refine z_1 ?_|refine z_l ?_);done))) rfl (by (first|((repeat first|exact z_0|assumption|refine z_1 ?_|refine z_r ?_);done)|((repeat refine z_1 ?_);refine z_l ?_;(repeat first|exact z_0|assumption|refine z_1 ?_|refine z_r ?_);done)|((repeat refine z_1 ?_);refine z_r ?_;(repeat refine z_1 ?_);refine z_l ?_;(repeat first|exact z_0|assumption|refine z_1 ?_|refine z_r ?_);done)|((repeat first|exact z_0|assumption|refine z_1 ?_|refine z_l ?_);done))) rfl, ?_⟩
                            refine js_S rfl rfl (.inl rfl) (xv_assign rfl ⟨rfl, rfl⟩) ?_
                            refine js_S rfl rfl (.inl rfl) (xv_assign rfl ⟨rfl, rfl⟩) ?_
                            refine j_end0 ?_
                            refine th_n ?_
                            refine xc_region ?_
                            cases able
                            · have hey : ¬ (ey = 0 ∧ z = 0) := by
                                rintro ⟨rfl, rfl⟩
                                exact in_hour hpk.1 hS (by omega) hown hrr ⟨hb4, hb5⟩ hnear hso (by simpa using hWay) (by simpa using play_more_err hpk.1 (by omega) hI2 hpe)
                              refine xr_op rfl rfl (xv_move rfl ?_)
                              refine xr_op rfl rfl (xv_move rfl ?_)
                              refine xr_gd rfl rfl rfl (xv_move rfl ?_)
                              refine xr_gd rfl rfl rfl (xv_eqlF rfl rfl (play_err hpe) ?_)
                              refine xr_op rfl rfl (xv_pick rfl rfl ?_)
                              refine xr_op rfl rfl (xv_assign rfl ?_)
                              refine xr_end rfl ?_
                              refine bk_n ?_
                              refine th_n ?_
                              refine xc_seq ?_
                              refine xc_seq (xc_region ?_)
                              refine xr_op rfl rfl (xv_load1 ty3 rfl rfl (by (first|((repeat first|exact z_0|assumption|refine z_1 ?_|refine z_r ?_);done)|((repeat refine z_1 ?_);refine z_l ?_;(repeat first|exact z_0|assumption|refine z_1 ?_|refine z_r ?_);done)|((repeat refine z_1 ?_);refine z_r ?_;(repeat refine z_1 ?_);refine z_l ?_;(repeat first|exact z_0|assumption|refine z_1 ?_|refine z_r ?_);done)|((repeat first|exact z_0|assumption|refine z_1 ?_|refine z_l ?_);done))) (by rfl) ?_)
                              refine xr_end rfl ?_
                              refine th_n ?_
                              refine xc_region ?_
                              refine xr_op rfl rfl (xv_alloc ty3 (fun cz hcz => ?_))
                              refine xr_op rfl rfl (xv_s1 ty3 rfl rfl rfl (by (first|(apply u_3;(repeat first|exact u_0|assumption|apply u_1|apply u_2);done)|((repeat first|exact u_0|assumption|apply u_1|apply u_2);done)|(apply u_3;apply u_3;(repeat first|exact u_0|assumption|apply u_1|apply u_2);done)|((repeat first|exact u_0|assumption|apply u_3|apply u_1);done))) (by (first | rfl | exact Vec.one _ _)) (by (first | decide | exact Nat.le_of_ble_eq_true rfl | (simp only [List.length_cons, List.length_nil]; omega) | (simp; done))) (by ((try apply evl_some rfl);(repeat (first|exact (rfl : _ = [])|apply evl_cons rfl (by (first|exact v_1|exact v_2|exact v_3|exact v_4|exact v_5|exact v_6|exact v_7|exact v_8|exact v_9|exact rfl))|exact rfl)))) ?_)
                              refine xr_end rfl ?_
                              refine th_n ?_
                              refine xc_region ?_
                              refine xr_op rfl rfl (xv_load1 ty3 rfl rfl (by (first|((repeat first|exact z_0|assumption|refine z_1 ?_|refine z_r ?_);done)|((repeat refine z_1 ?_);refine z_l ?_;(repeat first|exact z_0|assumption|refine z_1 ?_|refine z_r ?_);done)|((repeat refine z_1 ?_);refine z_r ?_;(repeat refine z_1 ?_);refine z_l ?_;(repeat first|exact z_0|assumption|refine z_1 ?_|refine z_r ?_);done)|((repeat first|exact z_0|assumption|refine z_1 ?_|refine z_l ?_);done))) (by rfl) ?_)
                              refine xr_op rfl rfl (xv_add rfl rfl (wrap_i64 (by (first | omega | (dsimp only at *; omega) | (simp at *; omega))) (by (first | omega | (dsimp only at *; omega) | (simp at *; omega)))) ?_)
                              refine xr_op rfl rfl (xv_s1 ty3 rfl rfl rfl (by (first|(apply u_3;(repeat first|exact u_0|assumption|apply u_1|apply u_2);done)|((repeat first|exact u_0|assumption|apply u_1|apply u_2);done)|(apply u_3;apply u_3;(repeat first|exact u_0|assumption|apply u_1|apply u_2);done)|((repeat first|exact u_0|assumption|apply u_3|apply u_1);done))) (by (first | rfl | exact Vec.one _ _)) (by (first | decide | exact Nat.le_of_ble_eq_true rfl | (simp only [List.length_cons, List.length_nil]; omega) | (simp; done))) (by ((try apply evl_some rfl);(repeat (first|exact (rfl : _ = [])|apply evl_cons rfl (by (first|exact v_1|exact v_2|exact v_3|exact v_4|exact v_5|exact v_6|exact v_7|exact v_8|exact v_9|exact rfl))|exact rfl)))) ?_)
                              refine xr_end rfl ?_
                              exact rnd ((z + 1, cz, false) : Nat × Nat × Bool) ⟨by (first | omega | (dsimp only at *; omega) | (simp at *; omega)), by dsimp only; first | exact able_T hab | exact able_0 hey | exact able_F hab hey⟩ (by (first | omega | (dsimp only at *; omega) | (simp at *; omega))) (le_put (le_put (le_put (le_put (le_put (le_put (le_put (le_put (le_put (le_put (le_put (le_emp _) rfl) rfl) rfl) rfl) rfl) rfl) rfl) rfl) rfl) rfl) rfl) (by (first|((repeat first|exact s_0|exact s_1|exact s_3|refine s_4 ?_|refine s_5 ?_|refine s_6 ?_|refine s_7 ?_);done)|((repeat first|exact s_0|exact s_1|exact s_3|refine s_4 ?_|refine s_5 ?_|refine s_6 ?_|refine s_8 ?_);done)))
                            · have hey : ¬ (ey = 0 ∧ z = 0) := by
                                rintro ⟨rfl, rfl⟩
                                exact in_hour hpk.1 hS (by omega) hown hrr ⟨hb4, hb5⟩ hnear hso (by simpa using hWay) (by simpa using play_more_err hpk.1 (by omega) hI2 hpe)
                              refine xr_op rfl rfl (xv_move rfl ?_)
                              refine xr_op rfl rfl (xv_move rfl ?_)
                              refine xr_no rfl rfl rfl rfl ?_
                              refine xr_no rfl rfl rfl rfl ?_
                              refine xr_op rfl rfl (xv_pick rfl rfl ?_)
                              refine xr_op rfl rfl (xv_assign rfl ?_)
                              refine xr_end rfl ?_
                              refine bk_n ?_
                              refine th_n ?_
                              refine xc_seq ?_
                              refine xc_seq (xc_region ?_)
                              refine xr_op rfl rfl (xv_load1 ty3 rfl rfl (by (first|((repeat first|exact z_0|assumption|refine z_1 ?_|refine z_r ?_);done)|((repeat refine z_1 ?_);refine z_l ?_;(repeat first|exact z_0|assumption|refine z_1 ?_|refine z_r ?_);done)|((repeat refine z_1 ?_);refine z_r ?_;(repeat refine z_1 ?_);refine z_l ?_;(repeat first|exact z_0|assumption|refine z_1 ?_|refine z_r ?_);done)|((repeat first|exact z_0|assumption|refine z_1 ?_|refine z_l ?_);done))) (by rfl) ?_)
                              refine xr_end rfl ?_
                              refine th_n ?_
                              refine xc_region ?_
                              refine xr_op rfl rfl (xv_alloc ty3 (fun cz hcz => ?_))
                              refine xr_op rfl rfl (xv_s1 ty3 rfl rfl rfl (by (first|(apply u_3;(repeat first|exact u_0|assumption|apply u_1|apply u_2);done)|((repeat first|exact u_0|assumption|apply u_1|apply u_2);done)|(apply u_3;apply u_3;(repeat first|exact u_0|assumption|apply u_1|apply u_2);done)|((repeat first|exact u_0|assumption|apply u_3|apply u_1);done))) (by (first | rfl | exact Vec.one _ _)) (by (first | decide | exact Nat.le_of_ble_eq_true rfl | (simp only [List.length_cons, List.length_nil]; omega) | (simp; done))) (by ((try apply evl_some rfl);(repeat (first|exact (rfl : _ = [])|apply evl_cons rfl (by (first|exact v_1|exact v_2|exact v_3|exact v_4|exact v_5|exact v_6|exact v_7|exact v_8|exact v_9|exact rfl))|exact rfl)))) ?_)
                              refine xr_end rfl ?_
                              refine th_n ?_
                              refine xc_region ?_
                              refine xr_op rfl rfl (xv_load1 ty3 rfl rfl (by (first|((repeat first|exact z_0|assumption|refine z_1 ?_|refine z_r ?_);done)|((repeat refine z_1 ?_);refine z_l ?_;(repeat first|exact z_0|assumption|refine z_1 ?_|refine z_r ?_);done)|((repeat refine z_1 ?_);refine z_r ?_;(repeat refine z_1 ?_);refine z_l ?_;(repeat first|exact z_0|assumption|refine z_1 ?_|refine z_r ?_);done)|((repeat first|exact z_0|assumption|refine z_1 ?_|refine z_l ?_);done))) (by rfl) ?_)
                              refine xr_op rfl rfl (xv_add rfl rfl (wrap_i64 (by (first | omega | (dsimp only at *; omega) | (simp at *; omega))) (by (first | omega | (dsimp only at *; omega) | (simp at *; omega)))) ?_)
                              refine xr_op rfl rfl (xv_s1 ty3 rfl rfl rfl (by (first|(apply u_3;(repeat first|exact u_0|assumption|apply u_1|apply u_2);done)|((repeat first|exact u_0|assumption|apply u_1|apply u_2);done)|(apply u_3;apply u_3;(repeat first|exact u_0|assumption|apply u_1|apply u_2);done)|((repeat first|exact u_0|assumption|apply u_3|apply u_1);done))) (by (first | rfl | exact Vec.one _ _)) (by (first | decide | exact Nat.le_of_ble_eq_true rfl | (simp only [List.length_cons, List.length_nil]; omega) | (simp; done))) (by ((try apply evl_some rfl);(repeat (first|exact (rfl : _ = [])|apply evl_cons rfl (by (first|exact v_1|exact v_2|exact v_3|exact v_4|exact v_5|exact v_6|exact v_7|exact v_8|exact v_9|exact rfl))|exact rfl)))) ?_)
                              refine xr_end rfl ?_
                              exact rnd ((z + 1, cz, true) : Nat × Nat × Bool) ⟨by (first | omega | (dsimp only at *; omega) | (simp at *; omega)), by dsimp only; first | exact able_T hab | exact able_0 hey | exact able_F hab hey⟩ (by (first | omega | (dsimp only at *; omega) | (simp at *; omega))) (le_put (le_put (le_put (le_put (le_put (le_put (le_put (le_put (le_put (le_put (le_put (le_emp _) rfl) rfl) rfl) rfl) rfl) rfl) rfl) rfl) rfl) rfl) rfl) (by (first|((repeat first|exact s_0|exact s_1|exact s_3|refine s_4 ?_|refine s_5 ?_|refine s_6 ?_|refine s_7 ?_);done)|((repeat first|exact s_0|exact s_1|exact s_3|refine s_4 ?_|refine s_5 ?_|refine s_6 ?_|refine s_8 ?_);done)))
                          · refine ⟨holds3 (by (first|((repeat first|exact z_0|assumption|refine z_1 ?_|refine z_r ?_);done)|((repeat refine z_1 ?_);refine z_l ?_;(repeat first|exact z_0|assumption|refine z_1 ?_|refine z_r ?_);done)|((repeat refine z_1 ?_);refine z_r ?_;(repeat refine z_1 ?_);refine z_l ?_;(repeat first|exact z_0|assumption|refine z_1 ?_|refine z_r ?_);done)|((repeat first|exact z_0|assumption|refine z_1 ?_|refine z_l ?_);done))) rfl (by (first|((repeat first|exact z_0|assumption|refine z_1 ?_|refine z_r ?_);done)|((repeat refine z_1 ?_);refine z_l ?_;(repeat first|exact z_0|assumption|refine z_1 ?_|refine z_r ?_);done)|((repeat refine z_1 ?_);refine z_r ?_;(repeat refine z_1 ?_);refine z_l ?_;(repeat first|exact z_0|assumption|refine z_1 ?_|refine z_r ?_);done)|((repeat first|exact z_0|assumption|refine z_1 ?_|refine z_l ?_);done))) rfl (by (first|((repeat first|exact z_0|assumption|refine z_1 ?_|refine z_r ?_);done)|((repeat refine z_1 ?_);refine z_l ?_;(repeat first|exact z_0|assumption|refine z_1 ?_|refine z_r ?_);done)|((repeat refine z_1 ?_);refine z_r ?_;(repeat refine z_1 ?_);refine z_l ?_;(repeat first|exact z_0|assumption|refine z_1 ?_|refine z_r ?_);done)|((repeat first|exact z_0|assumption|refine z_1 ?_|refine z_l ?_);done))) rfl, ?_⟩
                            refine js_S rfl rfl (.inl rfl) (xv_move rfl ⟨rfl, rfl⟩) ?_
                            refine js_S rfl rfl (.inl rfl) (xv_extract rfl rfl ⟨rfl, rfl⟩) ?_
                            refine js_S rfl rfl (.inl rfl) (xv_extract rfl rfl ⟨rfl, rfl⟩) ?_
                            refine js_S rfl rfl (.inl rfl) (xv_extract rfl rfl ⟨rfl, rfl⟩) ?_
                            refine js_A0 rfl rfl rfl rfl rfl trivial (fun cg hcg => ?_)
                            refine js_OL0 rfl rfl (.inl rfl) (xv_s ty30 rfl rfl (by (first|(apply u_3;(repeat first|exact u_0|assumption|apply u_1|apply u_2);done)|((repeat first|exact u_0|assumption|apply u_1|apply u_2);done)|(apply u_3;apply u_3;(repeat first|exact u_0|assumption|apply u_1|apply u_2);done)|((repeat first|exact u_0|assumption|apply u_3|apply u_1);done))) (by ((try apply evl_some rfl);(repeat (first|exact (rfl : _ = [])|apply evl_cons rfl (by (first|exact v_1|exact v_2|exact v_3|exact v_4|exact v_5|exact v_6|exact v_7|exact v_8|exact v_9|exact rfl))|exact rfl)))) (by rfl) (by rfl) (by rfl) (by ((try apply evl_some rfl);(repeat (first|exact (rfl : _ = [])|apply evl_cons rfl (by (first|exact v_1|exact v_2|exact v_3|exact v_4|exact v_5|exact v_6|exact v_7|exact v_8|exact v_9|exact rfl))|exact rfl)))) ?_)
                            refine ⟨holds3 (by (first|((repeat first|exact z_0|assumption|refine z_1 ?_|refine z_r ?_);done)|((repeat refine z_1 ?_);refine z_l ?_;(repeat first|exact z_0|assumption|refine z_1 ?_|refine z_r ?_);done)|((repeat refine z_1 ?_);refine z_r ?_;(repeat refine z_1 ?_);refine z_l ?_;(repeat first|exact z_0|assumption|refine z_1 ?_|refine z_r ?_);done)|((repeat first|exact z_0|assumption|refine z_1 ?_|refine z_l ?_);done))) rfl (by (first|((repeat first|exact z_0|assumption|refine z_1 ?_|refine z_r ?_);done)|((repeat refine z_1 ?_);refine z_l ?_;(repeat first|exact z_0|assumption|refine z_1 ?_|refine z_r ?_);done)|((repeat refine z_1 ?_);refine z_r ?_;(repeat refine z_1 ?_);refine z_l ?_;(repeat first|exact z_0|assumption|refine z_1 ?_|refine z_r ?_);done)|((repeat first|exact z_0|assumption|refine z_1 ?_|refine z_l ?_);done))) rfl (by (first|((repeat first|exact z_0|assumption|refine z_1 ?_|refine z_r ?_);done)|((repeat refine z_1 ?_);refine z_l ?_;(repeat first|exact z_0|assumption|refine z_1 ?_|refine z_r ?_);done)|((repeat refine z_1 ?_);refine z_r ?_;(repeat refine z_1 ?_);refine z_l ?_;(repeat first|exact z_0|assumption|refine z_1 ?_|refine z_r ?_);done)|((repeat first|exact z_0|assumption|refine z_1 ?_|refine z_l ?_);done))) rfl, ?_⟩
                            refine js_S rfl rfl (.inl rfl) (xv_assign rfl ⟨rfl, rfl⟩) ?_
                            refine js_S rfl rfl (.inl rfl) (xv_assign rfl ⟨rfl, rfl⟩) ?_
                            refine j_end0 ?_
                            refine th_n ?_
                            refine xc_region ?_
                            cases able
                            · have hey : ey = 0 := by
                                have h1 := no_sooner hpk.1 hS (by omega) hown hrr hso hWay (play_more_ok hI2 hpo3)
                                omega
                              refine xr_op rfl rfl (xv_move rfl ?_)
                              refine xr_op rfl rfl (xv_move rfl ?_)
                              refine xr_gd rfl rfl rfl (xv_move rfl ?_)
                              refine xr_gd rfl rfl rfl (xv_eqlT rfl rfl rfl ?_)
                              refine xr_op rfl rfl (xv_pick rfl rfl ?_)
                              refine xr_op rfl rfl (xv_assign rfl ?_)
                              refine xr_end rfl ?_
                              refine bk_n ?_
                              refine th_n ?_
                              refine xc_seq ?_
                              refine xc_seq (xc_region ?_)
                              refine xr_op rfl rfl (xv_load1 ty3 rfl rfl (by (first|((repeat first|exact z_0|assumption|refine z_1 ?_|refine z_r ?_);done)|((repeat refine z_1 ?_);refine z_l ?_;(repeat first|exact z_0|assumption|refine z_1 ?_|refine z_r ?_);done)|((repeat refine z_1 ?_);refine z_r ?_;(repeat refine z_1 ?_);refine z_l ?_;(repeat first|exact z_0|assumption|refine z_1 ?_|refine z_r ?_);done)|((repeat first|exact z_0|assumption|refine z_1 ?_|refine z_l ?_);done))) (by rfl) ?_)
                              refine xr_end rfl ?_
                              refine th_n ?_
                              refine xc_region ?_
                              refine xr_op rfl rfl (xv_alloc ty3 (fun cz hcz => ?_))
                              refine xr_op rfl rfl (xv_s1 ty3 rfl rfl rfl (by (first|(apply u_3;(repeat first|exact u_0|assumption|apply u_1|apply u_2);done)|((repeat first|exact u_0|assumption|apply u_1|apply u_2);done)|(apply u_3;apply u_3;(repeat first|exact u_0|assumption|apply u_1|apply u_2);done)|((repeat first|exact u_0|assumption|apply u_3|apply u_1);done))) (by (first | rfl | exact Vec.one _ _)) (by (first | decide | exact Nat.le_of_ble_eq_true rfl | (simp only [List.length_cons, List.length_nil]; omega) | (simp; done))) (by ((try apply evl_some rfl);(repeat (first|exact (rfl : _ = [])|apply evl_cons rfl (by (first|exact v_1|exact v_2|exact v_3|exact v_4|exact v_5|exact v_6|exact v_7|exact v_8|exact v_9|exact rfl))|exact rfl)))) ?_)
                              refine xr_end rfl ?_
                              refine th_n ?_
                              refine xc_region ?_
                              refine xr_op rfl rfl (xv_load1 ty3 rfl rfl (by (first|((repeat first|exact z_0|assumption|refine z_1 ?_|refine z_r ?_);done)|((repeat refine z_1 ?_);refine z_l ?_;(repeat first|exact z_0|assumption|refine z_1 ?_|refine z_r ?_);done)|((repeat refine z_1 ?_);refine z_r ?_;(repeat refine z_1 ?_);refine z_l ?_;(repeat first|exact z_0|assumption|refine z_1 ?_|refine z_r ?_);done)|((repeat first|exact z_0|assumption|refine z_1 ?_|refine z_l ?_);done))) (by rfl) ?_)
                              refine xr_op rfl rfl (xv_add rfl rfl (wrap_i64 (by (first | omega | (dsimp only at *; omega) | (simp at *; omega))) (by (first | omega | (dsimp only at *; omega) | (simp at *; omega)))) ?_)
                              refine xr_op rfl rfl (xv_s1 ty3 rfl rfl rfl (by (first|(apply u_3;(repeat first|exact u_0|assumption|apply u_1|apply u_2);done)|((repeat first|exact u_0|assumption|apply u_1|apply u_2);done)|(apply u_3;apply u_3;(repeat first|exact u_0|assumption|apply u_1|apply u_2);done)|((repeat first|exact u_0|assumption|apply u_3|apply u_1);done))) (by (first | rfl | exact Vec.one _ _)) (by (first | decide | exact Nat.le_of_ble_eq_true rfl | (simp only [List.length_cons, List.length_nil]; omega) | (simp; done))) (by ((try apply evl_some rfl);(repeat (first|exact (rfl : _ = [])|apply evl_cons rfl (by (first|exact v_1|exact v_2|exact v_3|exact v_4|exact v_5|exact v_6|exact v_7|exact v_8|exact v_9|exact rfl))|exact rfl)))) ?_)
                              refine xr_end rfl ?_
                              exact rnd ((z + 1, cz, true) : Nat × Nat × Bool) ⟨by (first | omega | (dsimp only at *; omega) | (simp at *; omega)), by dsimp only; first | exact able_T hab | exact able_0 hey | exact able_F hab hey⟩ (by (first | omega | (dsimp only at *; omega) | (simp at *; omega))) (le_put (le_put (le_put (le_put (le_put (le_put (le_put (le_put (le_put (le_put (le_put (le_emp _) rfl) rfl) rfl) rfl) rfl) rfl) rfl) rfl) rfl) rfl) rfl) (by (first|((repeat first|exact s_0|exact s_1|exact s_3|refine s_4 ?_|refine s_5 ?_|refine s_6 ?_|refine s_7 ?_);done)|((repeat first|exact s_0|exact s_1|exact s_3|refine s_4 ?_|refine s_5 ?_|refine s_6 ?_|refine s_8 ?_);done)))
                            · have hey : ey = 0 := by
                                have h1 := no_sooner hpk.1 hS (by omega) hown hrr hso hWay (play_more_ok hI2 hpo3)
                                omega
                              refine xr_op rfl rfl (xv_move rfl ?_)
                              refine xr_op rfl rfl (xv_move rfl ?_)
                              refine xr_no rfl rfl rfl rfl ?_
                              refine xr_no rfl rfl rfl rfl ?_
                              refine xr_op rfl rfl (xv_pick rfl rfl ?_)
                              refine xr_op rfl rfl (xv_assign rfl ?_)
                              refine xr_end rfl ?_
                              refine bk_n ?_
                              refine th_n ?_
                              refine xc_seq ?_
                              refine xc_seq (xc_region ?_)
                              refine xr_op rfl rfl (xv_load1 ty3 rfl rfl (by (first|((repeat first|exact z_0|assumption|refine z_1 ?_|refine z_r ?_);done)|((repeat refine z_1 ?_);refine z_l ?_;(repeat first|exact z_0|assumption|refine z_1 ?_|refine z_r ?_);done)|((repeat refine z_1 ?_);refine z_r ?_;(repeat refine z_1 ?_);refine z_l ?_;(repeat first|exact z_0|assumption|refine z_1 ?_|refine z_r ?_);done)|((repeat first|exact z_0|assumption|refine z_1 ?_|refine z_l ?_);done))) (by rfl) ?_)
                              refine xr_end rfl ?_
                              refine th_n ?_
                              refine xc_region ?_
                              refine xr_op rfl rfl (xv_alloc ty3 (fun cz hcz => ?_))
                              refine xr_op rfl rfl (xv_s1 ty3 rfl rfl rfl (by (first|(apply u_3;(repeat first|exact u_0|assumption|apply u_1|apply u_2);done)|((repeat first|exact u_0|assumption|apply u_1|apply u_2);done)|(apply u_3;apply u_3;(repeat first|exact u_0|assumption|apply u_1|apply u_2);done)|((repeat first|exact u_0|assumption|apply u_3|apply u_1);done))) (by (first | rfl | exact Vec.one _ _)) (by (first | decide | exact Nat.le_of_ble_eq_true rfl | (simp only [List.length_cons, List.length_nil]; omega) | (simp; done))) (by ((try apply evl_some rfl);(repeat (first|exact (rfl : _ = [])|apply evl_cons rfl (by (first|exact v_1|exact v_2|exact v_3|exact v_4|exact v_5|exact v_6|exact v_7|exact v_8|exact v_9|exact rfl))|exact rfl)))) ?_)
                              refine xr_end rfl ?_
                              refine th_n ?_
                              refine xc_region ?_
                              refine xr_op rfl rfl (xv_load1 ty3 rfl rfl (by (first|((repeat first|exact z_0|assumption|refine z_1 ?_|refine z_r ?_);done)|((repeat refine z_1 ?_);refine z_l ?_;(repeat first|exact z_0|assumption|refine z_1 ?_|refine z_r ?_);done)|((repeat refine z_1 ?_);refine z_r ?_;(repeat refine z_1 ?_);refine z_l ?_;(repeat first|exact z_0|assumption|refine z_1 ?_|refine z_r ?_);done)|((repeat first|exact z_0|assumption|refine z_1 ?_|refine z_l ?_);done))) (by rfl) ?_)
                              refine xr_op rfl rfl (xv_add rfl rfl (wrap_i64 (by (first | omega | (dsimp only at *; omega) | (simp at *; omega))) (by (first | omega | (dsimp only at *; omega) | (simp at *; omega)))) ?_)
                              refine xr_op rfl rfl (xv_s1 ty3 rfl rfl rfl (by (first|(apply u_3;(repeat first|exact u_0|assumption|apply u_1|apply u_2);done)|((repeat first|exact u_0|assumption|apply u_1|apply u_2);done)|(apply u_3;apply u_3;(repeat first|exact u_0|assumption|apply u_1|apply u_2);done)|((repeat first|exact u_0|assumption|apply u_3|apply u_1);done))) (by (first | rfl | exact Vec.one _ _)) (by (first | decide | exact Nat.le_of_ble_eq_true rfl | (simp only [List.length_cons, List.length_nil]; omega) | (simp; done))) (by ((try apply evl_some rfl);(repeat (first|exact (rfl : _ = [])|apply evl_cons rfl (by (first|exact v_1|exact v_2|exact v_3|exact v_4|exact v_5|exact v_6|exact v_7|exact v_8|exact v_9|exact rfl))|exact rfl)))) ?_)
                              refine xr_end rfl ?_
                              exact rnd ((z + 1, cz, true) : Nat × Nat × Bool) ⟨by (first | omega | (dsimp only at *; omega) | (simp at *; omega)), by dsimp only; first | exact able_T hab | exact able_0 hey | exact able_F hab hey⟩ (by (first | omega | (dsimp only at *; omega) | (simp at *; omega))) (le_put (le_put (le_put (le_put (le_put (le_put (le_put (le_put (le_put (le_put (le_put (le_emp _) rfl) rfl) rfl) rfl) rfl) rfl) rfl) rfl) rfl) rfl) rfl) (by (first|((repeat first|exact s_0|exact s_1|exact s_3|refine s_4 ?_|refine s_5 ?_|refine s_6 ?_|refine s_7 ?_);done)|((repeat first|exact s_0|exact s_1|exact s_3|refine s_4 ?_|refine s_5 ?_|refine s_6 ?_|refine s_8 ?_);done)))
                    · refine xr_end rfl ?_
                      refine th_n ?_
                      refine xc_false rfl ?_
                      refine xc_exit ?_
                      refine th_x ?_
                      refine th_x ?_
                      refine bk_same ?_
                      refine th_n ?_
                      refine xc_seq (xc_region ?_)
                      refine xr_op rfl rfl (xv_move rfl ?_)
                      refine xr_op rfl rfl (xv_move rfl ?_)
                      refine xr_op rfl rfl (xv_cmp rfl rfl rfl ?_)
                      refine xr_op rfl rfl (xv_neB (c := false) Try.underlying4 rfl rfl (able_end hab (by (first | omega | (dsimp only at *; omega) | (simp at *; omega)))) ?_)
                      refine xr_end rfl ?_
                      refine th_n ?_
                      refine xc_false rfl ?_
                      refine xc_skip ?_
                      refine bk_n ?_
                      refine th_n ?_
                      refine xc_region ?_
                      refine xr_op rfl rfl (xv_move rfl ?_)
                      refine xr_op rfl rfl (xv_add rfl rfl (wrap_i64 (by (first | omega | (dsimp only at *; omega) | (simp at *; omega))) (by (first | omega | (dsimp only at *; omega) | (simp at *; omega)))) ?_)
                      refine xr_op rfl rfl (xv_assign rfl ?_)
                      refine xr_end rfl ?_
                      exact rnd (ey + 1) (by (first | omega | (dsimp only at *; omega) | (simp at *; omega))) (by (first | omega | (dsimp only at *; omega) | (simp at *; omega))) (le_put (le_put (le_put (le_put (le_put (le_put (le_put (le_put (le_emp _) rfl) rfl) rfl) rfl) rfl) rfl) rfl) rfl) (by (first|((repeat first|exact s_0|exact s_1|exact s_3|refine s_4 ?_|refine s_5 ?_|refine s_6 ?_|refine s_7 ?_);done)|((repeat first|exact s_0|exact s_1|exact s_3|refine s_4 ?_|refine s_5 ?_|refine s_6 ?_|refine s_8 ?_);done)))
                · refine xr_end rfl ?_
                  refine th_n ?_
                  refine xc_false rfl ?_
                  refine xc_exit ?_
                  refine th_x ?_
                  refine th_x ?_
                  refine bk_same ?_
                  refine th_n ?_
                  refine xc_seq (xc_region ?_)
                  refine xr_op rfl rfl (xv_calls rfl hb10 (awake_c (up_ret ?_)))
                  refine xr_op rfl rfl (xv_assign rfl ?_)
                  refine xr_end rfl ?_
                  refine th_n ?_
                  refine xc_ret ?_
                  refine body_ret (h' := h) rfl (ro_tmp rfl ro_nil) (by (first|((repeat first|exact s_0|exact s_1|exact s_3|refine s_4 ?_|refine s_5 ?_|refine s_6 ?_|refine s_7 ?_);done)|((repeat first|exact s_0|exact s_1|exact s_3|refine s_4 ?_|refine s_5 ?_|refine s_6 ?_|refine s_8 ?_);done))) ?_
                  exact H

end Go.Proofs.Ytjmailhoidenaaa
