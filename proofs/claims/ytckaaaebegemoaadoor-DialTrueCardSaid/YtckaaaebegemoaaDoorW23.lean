/-
  Walks.
-/
import Derived.Test.YtckaaaebegemoaaDoorW20
import Derived.Test.YtckaaaebegemoaaDoorW14
import Derived.Test.YtckaaaebegemoaaDoorW15
import Derived.Test.YtckaaaebegemoaaDoorP4
namespace Go.Proofs.YtckaaaebegemoaaDoor
open Go Go.H
set_option maxRecDepth 100000
set_option maxHeartbeats 2000000
set_option linter.all false
theorem span_c (a b : Int) {h : Hp} {R : Ending → Hp → Prop} (H : R (.returned (.agg ⟨[I a, I b]⟩)) h) :
    ACalls Tryd.prog 30 ⟨[I a, I b]⟩ h R := by
  refine calls_of_xc (N := 8) Tryd.func30 rfl (by rfl) ?_
  refine xc_seq (xc_region ?_)
  refine xr_op rfl rfl (xv_alloc ty38 (fun b4 hb4 => ?_))
  refine xr_end rfl ?_
  refine th_n ?_
  refine xc_seq (xc_region ?_)
  refine xr_op rfl rfl (xv_move rfl ?_)
  refine xr_op rfl rfl (xv_move rfl ?_)
  refine xr_op rfl rfl (xv_build bt38 rfl (by ((try apply evl_some rfl);(repeat (first|exact (rfl : _ = [])|apply evl_cons rfl (by (first|exact v_1|exact v_2|exact v_3|exact v_4|exact v_5|exact v_6|exact v_7|exact v_8|exact v_9|exact rfl))|exact rfl)))) ?_)
  refine xr_op rfl rfl (xv_s ty38 rfl rfl (by (first|(apply u_3;(repeat first|exact u_0|assumption|apply u_1|apply u_2);done)|((repeat first|exact u_0|assumption|apply u_1|apply u_2);done)|(apply u_3;apply u_3;(repeat first|exact u_0|assumption|apply u_1|apply u_2);done)|((repeat first|exact u_0|assumption|apply u_3|apply u_1);done))) (by ((try apply evl_some rfl);(repeat (first|exact (rfl : _ = [])|apply evl_cons rfl (by (first|exact v_1|exact v_2|exact v_3|exact v_4|exact v_5|exact v_6|exact v_7|exact v_8|exact v_9|exact rfl))|exact rfl)))) (by rfl) (by rfl) (by rfl) (by ((try apply evl_some rfl);(repeat (first|exact (rfl : _ = [])|apply evl_cons rfl (by (first|exact v_1|exact v_2|exact v_3|exact v_4|exact v_5|exact v_6|exact v_7|exact v_8|exact v_9|exact rfl))|exact rfl)))) ?_)
  refine xr_end rfl ?_
  refine th_n ?_
  refine xc_ret ?_
  refine body_ret (h' := h) rfl (ro_cellA ty38 rfl rfl (by ((repeat first|exact z_0|assumption|refine z_1 ?_|(refine z_l ?_;(repeat first|exact z_0|assumption|refine z_1 ?_);done)|refine z_r ?_);done)) (by rfl) (by rfl) ro_nil) (by (first|((repeat first|exact s_0|exact s_1|exact s_3|refine s_4 ?_|refine s_5 ?_|refine s_6 ?_|refine s_7 ?_);done)|((repeat first|exact s_0|exact s_1|exact s_3|refine s_4 ?_|refine s_5 ?_|refine s_6 ?_|refine s_8 ?_);done))) ?_
  exact H

theorem sample_c {h : Hp} {R : Ending → Hp → Prop} (H : ∀ bd bc, R (.returned (.agg ⟨eRnd (sR bd bc 47)⟩)) ((bc, .cells ⟨(sCards 47).flatMap eCard⟩ 59 (0, 0)) :: (bd, .cells ⟨sDials.flatMap eDial⟩ 45 (0, 0)) :: h)) : ACalls Tryd.prog 31 ⟨[]⟩ h R := by
  refine calls_of_xc (N := 13) Tryd.func31 rfl (by rfl) ?_
  refine xc_seq (xc_region ?_)
  refine xr_op rfl rfl (xv_alloc ty25 (fun b0 hb0 => ?_))
  refine xr_end rfl ?_
  refine th_n ?_
  refine xc_seq (xc_region ?_)
  refine xr_op rfl rfl (xv_calls rfl hb30 (span_c _ _ (up_ret ?_)))
  refine xr_op rfl rfl (xv_build bt45 rfl (by ((try apply evl_some rfl);(repeat (first|exact (rfl : _ = [])|apply evl_cons rfl (by (first|exact v_1|exact v_2|exact v_3|exact v_4|exact v_5|exact v_6|exact v_7|exact v_8|exact v_9|exact rfl))|exact rfl)))) ?_)
  refine xr_op rfl rfl (xv_calls rfl hb30 (span_c _ _ (up_ret ?_)))
  refine xr_op rfl rfl (xv_build bt45 rfl (by ((try apply evl_some rfl);(repeat (first|exact (rfl : _ = [])|apply evl_cons rfl (by (first|exact v_1|exact v_2|exact v_3|exact v_4|exact v_5|exact v_6|exact v_7|exact v_8|exact v_9|exact rfl))|exact rfl)))) ?_)
  refine xr_op rfl rfl ((al_buildSlice sl22 ty45 rfl rfl rfl rfl rfl (by ((try apply evl_some rfl);(repeat (first|exact (rfl : _ = [])|apply evl_cons rfl (by (first|exact v_1|exact v_2|exact v_3|exact v_4|exact v_5|exact v_6|exact v_7|exact v_8|exact v_9|exact rfl))|exact rfl))))).xv (fun bd hbd => ?_))
  refine xr_op rfl rfl (xv_build bt59 rfl (by ((try apply evl_some rfl);(repeat (first|exact (rfl : _ = [])|apply evl_cons rfl (by (first|exact v_1|exact v_2|exact v_3|exact v_4|exact v_5|exact v_6|exact v_7|exact v_8|exact v_9|exact rfl))|exact rfl)))) ?_)
  refine xr_op rfl rfl (xv_build bt59 rfl (by ((try apply evl_some rfl);(repeat (first|exact (rfl : _ = [])|apply evl_cons rfl (by (first|exact v_1|exact v_2|exact v_3|exact v_4|exact v_5|exact v_6|exact v_7|exact v_8|exact v_9|exact rfl))|exact rfl)))) ?_)
  refine xr_op rfl rfl (xv_build bt59 rfl (by ((try apply evl_some rfl);(repeat (first|exact (rfl : _ = [])|apply evl_cons rfl (by (first|exact v_1|exact v_2|exact v_3|exact v_4|exact v_5|exact v_6|exact v_7|exact v_8|exact v_9|exact rfl))|exact rfl)))) ?_)
  refine xr_op rfl rfl (xv_build bt59 rfl (by ((try apply evl_some rfl);(repeat (first|exact (rfl : _ = [])|apply evl_cons rfl (by (first|exact v_1|exact v_2|exact v_3|exact v_4|exact v_5|exact v_6|exact v_7|exact v_8|exact v_9|exact rfl))|exact rfl)))) ?_)
  refine xr_op rfl rfl (xv_build bt59 rfl (by ((try apply evl_some rfl);(repeat (first|exact (rfl : _ = [])|apply evl_cons rfl (by (first|exact v_1|exact v_2|exact v_3|exact v_4|exact v_5|exact v_6|exact v_7|exact v_8|exact v_9|exact rfl))|exact rfl)))) ?_)
  refine xr_op rfl rfl ((al_buildSlice sl23 ty59 rfl rfl rfl rfl rfl (by ((try apply evl_some rfl);(repeat (first|exact (rfl : _ = [])|apply evl_cons rfl (by (first|exact v_1|exact v_2|exact v_3|exact v_4|exact v_5|exact v_6|exact v_7|exact v_8|exact v_9|exact rfl))|exact rfl))))).xv (fun bc hbc => ?_))
  refine xr_op rfl rfl (xv_build bt25 rfl (by ((try apply evl_some rfl);(repeat (first|exact (rfl : _ = [])|apply evl_cons rfl (by (first|exact v_1|exact v_2|exact v_3|exact v_4|exact v_5|exact v_6|exact v_7|exact v_8|exact v_9|exact rfl))|exact rfl)))) ?_)
  refine xr_op rfl rfl (xv_s ty25 rfl rfl (by (first|(apply u_3;(repeat first|exact u_0|assumption|apply u_1|apply u_2);done)|((repeat first|exact u_0|assumption|apply u_1|apply u_2);done)|(apply u_3;apply u_3;(repeat first|exact u_0|assumption|apply u_1|apply u_2);done)|((repeat first|exact u_0|assumption|apply u_3|apply u_1);done))) (by ((try apply evl_some rfl);(repeat (first|exact (rfl : _ = [])|apply evl_cons rfl (by (first|exact v_1|exact v_2|exact v_3|exact v_4|exact v_5|exact v_6|exact v_7|exact v_8|exact v_9|exact rfl))|exact rfl)))) (by rfl) (by rfl) (by rfl) (by ((try apply evl_some rfl);(repeat (first|exact (rfl : _ = [])|apply evl_cons rfl (by (first|exact v_1|exact v_2|exact v_3|exact v_4|exact v_5|exact v_6|exact v_7|exact v_8|exact v_9|exact rfl))|exact rfl)))) ?_)
  refine xr_end rfl ?_
  refine th_n ?_
  refine xc_ret ?_
  refine body_ret (h' := ((bc, .cells ⟨(sCards 47).flatMap eCard⟩ 59 (0, 0)) :: (bd, .cells ⟨sDials.flatMap eDial⟩ 45 (0, 0)) :: h)) rfl (ro_cellA ty25 rfl rfl (by ((repeat first|exact z_0|assumption|refine z_1 ?_|(refine z_l ?_;(repeat first|exact z_0|assumption|refine z_1 ?_);done)|refine z_r ?_);done)) (by rfl) (by rfl) ro_nil) (by (first|((repeat first|exact s_0|exact s_1|exact s_3|refine s_4 ?_|refine s_5 ?_|refine s_6 ?_|refine s_7 ?_);done)|((repeat first|exact s_0|exact s_1|exact s_3|refine s_4 ?_|refine s_5 ?_|refine s_6 ?_|refine s_8 ?_);done))) ?_
  exact H bd bc

theorem large_c {r : Rnd} {house : Int} {h : Hp} {R : Ending → Hp → Prop} (hv : RndV h r) (H1 : R (.returned (.bool true)) h) (H2 : Small r → R (.returned (.bool false)) h) :
    ACalls Tryd.prog 9 ⟨[.agg ⟨eRnd r⟩, I house]⟩ h R := by
  refine calls_of_xc (N := 63) Tryd.func9 rfl (by rfl) ?_
  refine xc_seq (xc_region ?_)
  refine xr_op rfl rfl (xv_box rfl (fun b2 hb2 => ?_))
  refine xr_op rfl rfl (xv_assign rfl ?_)
  refine xr_end rfl ?_
  refine th_n ?_
  refine xc_seq ?_
  refine xc_seq (xc_region ?_)
  refine xr_op rfl rfl (xv_faddr fl25_0 rfl ?_)
  refine xr_op rfl rfl (xv_load1 ty22 rfl rfl (by ((repeat first|exact z_0|assumption|refine z_1 ?_|(refine z_l ?_;(repeat first|exact z_0|assumption|refine z_1 ?_);done)|refine z_r ?_);done)) (by rfl) ?_)
  refine xr_op rfl rfl (xv_len sl22 rfl ?_)
  refine xr_op rfl rfl (xv_gtr2 rfl rfl (fun q1 => ?_) (fun q1 => ?_))
  · refine xr_op rfl rfl (xv_move rfl ?_)
    refine xr_no rfl rfl rfl rfl ?_
    refine xr_no rfl rfl rfl rfl ?_
    refine xr_no rfl rfl rfl rfl ?_
    refine xr_no rfl rfl rfl rfl ?_
    refine xr_op rfl rfl (xv_pick rfl rfl ?_)
    refine xr_end rfl ?_
    refine th_n ?_
    refine xc_true rfl ?_
    refine xc_seq (xc_region ?_)
    refine xr_op rfl rfl (xv_assign rfl ?_)
    refine xr_end rfl ?_
    refine th_n ?_
    refine xc_ret ?_
    refine th_r ?_
    refine body_ret (h' := h) rfl (ro_tmp rfl ro_nil) (by (first|((repeat first|exact s_0|exact s_1|exact s_3|refine s_4 ?_|refine s_5 ?_|refine s_6 ?_|refine s_7 ?_);done)|((repeat first|exact s_0|exact s_1|exact s_3|refine s_4 ?_|refine s_5 ?_|refine s_6 ?_|refine s_8 ?_);done))) ?_
    first | exact H1 | exact H2 hs | exact H2 ⟨by omega, by omega⟩
  · refine xr_op rfl rfl (xv_move rfl ?_)
    refine xr_gd rfl rfl rfl (xv_faddr fl25_1 rfl ?_)
    refine xr_gd rfl rfl rfl (xv_load1 ty23 rfl rfl (by ((repeat first|exact z_0|assumption|refine z_1 ?_|(refine z_l ?_;(repeat first|exact z_0|assumption|refine z_1 ?_);done)|refine z_r ?_);done)) (by rfl) ?_)
    refine xr_gd rfl rfl rfl (xv_len sl23 rfl ?_)
    refine xr_gd rfl rfl rfl (xv_gtr2 rfl rfl (fun q2 => ?_) (fun q2 => ?_))
    · refine xr_op rfl rfl (xv_pick rfl rfl ?_)
      refine xr_end rfl ?_
      refine th_n ?_
      refine xc_true rfl ?_
      refine xc_seq (xc_region ?_)
      refine xr_op rfl rfl (xv_assign rfl ?_)
      refine xr_end rfl ?_
      refine th_n ?_
      refine xc_ret ?_
      refine th_r ?_
      refine body_ret (h' := h) rfl (ro_tmp rfl ro_nil) (by (first|((repeat first|exact s_0|exact s_1|exact s_3|refine s_4 ?_|refine s_5 ?_|refine s_6 ?_|refine s_7 ?_);done)|((repeat first|exact s_0|exact s_1|exact s_3|refine s_4 ?_|refine s_5 ?_|refine s_6 ?_|refine s_8 ?_);done))) ?_
      first | exact H1 | exact H2 hs | exact H2 ⟨by omega, by omega⟩
    · refine xr_op rfl rfl (xv_pick rfl rfl ?_)
      refine xr_end rfl ?_
      refine th_n ?_
      refine xc_false rfl ?_
      refine xc_skip ?_
      refine th_n ?_
      refine xc_seq ?_
      refine xc_seq (xc_region ?_)
      have hs : Small r := ⟨by omega, by omega⟩
      refine xr_op rfl rfl (xv_loadA ty25 rfl rfl (by ((repeat first|exact z_0|assumption|refine z_1 ?_|(refine z_l ?_;(repeat first|exact z_0|assumption|refine z_1 ?_);done)|refine z_r ?_);done)) (by ((try apply evl_some rfl);(repeat (first|exact (rfl : _ = [])|apply evl_cons rfl (by (first|exact v_1|exact v_2|exact v_3|exact v_4|exact v_5|exact v_6|exact v_7|exact v_8|exact v_9|exact rfl))|exact rfl)))) (by rfl) ?_)
      refine xr_op rfl rfl (xv_calls rfl hb28 (Round_c (hv.sub (by intro z hz; ((repeat first|exact z_0|assumption|refine z_1 ?_|(refine z_l ?_;(repeat first|exact z_0|assumption|refine z_1 ?_);done)|refine z_r ?_);done))) hs (fun hgood => up_ret ?_) (fun hgood => up_ret ?_)))
      · refine xr_op rfl rfl (xv_not rfl ?_)
        refine xr_op rfl rfl (xv_move rfl ?_)
        refine xr_gd rfl rfl rfl (xv_move rfl ?_)
        refine xr_gd rfl rfl rfl (xv_lss2 rfl rfl (fun q3 => ?_) (fun q3 => ?_))
        · refine xr_op rfl rfl (xv_pick rfl rfl ?_)
          refine xr_op rfl rfl (xv_move rfl ?_)
          refine xr_no rfl rfl rfl rfl ?_
          refine xr_no rfl rfl rfl rfl ?_
          refine xr_no rfl rfl rfl rfl ?_
          refine xr_no rfl rfl rfl rfl ?_
          refine xr_no rfl rfl rfl rfl ?_
          refine xr_op rfl rfl (xv_pick rfl rfl ?_)
          refine xr_end rfl ?_
          refine th_n ?_
          refine xc_true rfl ?_
          refine xc_seq (xc_region ?_)
          refine xr_op rfl rfl (xv_assign rfl ?_)
          refine xr_end rfl ?_
          refine th_n ?_
          refine xc_ret ?_
          refine th_r ?_
          refine body_ret (h' := h) rfl (ro_tmp rfl ro_nil) (by (first|((repeat first|exact s_0|exact s_1|exact s_3|refine s_4 ?_|refine s_5 ?_|refine s_6 ?_|refine s_7 ?_);done)|((repeat first|exact s_0|exact s_1|exact s_3|refine s_4 ?_|refine s_5 ?_|refine s_6 ?_|refine s_8 ?_);done))) ?_
          first | exact H1 | exact H2 hs | exact H2 ⟨by omega, by omega⟩
        · refine xr_op rfl rfl (xv_pick rfl rfl ?_)
          refine xr_op rfl rfl (xv_move rfl ?_)
          refine xr_gd rfl rfl rfl (xv_move rfl ?_)
          refine xr_gd rfl rfl rfl (xv_faddr fl25_0 rfl ?_)
          refine xr_gd rfl rfl rfl (xv_load1 ty22 rfl rfl (by ((repeat first|exact z_0|assumption|refine z_1 ?_|(refine z_l ?_;(repeat first|exact z_0|assumption|refine z_1 ?_);done)|refine z_r ?_);done)) (by rfl) ?_)
          refine xr_gd rfl rfl rfl (xv_len sl22 rfl ?_)
          refine xr_gd rfl rfl rfl (xv_geq2 rfl rfl (fun q4 => ?_) (fun q4 => ?_))
          · refine xr_op rfl rfl (xv_pick rfl rfl ?_)
            refine xr_end rfl ?_
            refine th_n ?_
            refine xc_true rfl ?_
            refine xc_seq (xc_region ?_)
            refine xr_op rfl rfl (xv_assign rfl ?_)
            refine xr_end rfl ?_
            refine th_n ?_
            refine xc_ret ?_
            refine th_r ?_
            refine body_ret (h' := h) rfl (ro_tmp rfl ro_nil) (by (first|((repeat first|exact s_0|exact s_1|exact s_3|refine s_4 ?_|refine s_5 ?_|refine s_6 ?_|refine s_7 ?_);done)|((repeat first|exact s_0|exact s_1|exact s_3|refine s_4 ?_|refine s_5 ?_|refine s_6 ?_|refine s_8 ?_);done))) ?_
            first | exact H1 | exact H2 hs | exact H2 ⟨by omega, by omega⟩
          · refine xr_op rfl rfl (xv_pick rfl rfl ?_)
            refine xr_end rfl ?_
            refine th_n ?_
            refine xc_false rfl ?_
            refine xc_skip ?_
            refine th_n ?_
            refine xc_seq (xc_region ?_)
            refine xr_op rfl rfl (xv_loadA ty25 rfl rfl (by ((repeat first|exact z_0|assumption|refine z_1 ?_|(refine z_l ?_;(repeat first|exact z_0|assumption|refine z_1 ?_);done)|refine z_r ?_);done)) (by ((try apply evl_some rfl);(repeat (first|exact (rfl : _ = [])|apply evl_cons rfl (by (first|exact v_1|exact v_2|exact v_3|exact v_4|exact v_5|exact v_6|exact v_7|exact v_8|exact v_9|exact rfl))|exact rfl)))) (by rfl) ?_)
            refine xr_op rfl rfl (xv_move rfl ?_)
            refine xr_op rfl rfl (xv_calls rfl hb27 (Readings_c (hv.sub (by intro z hz; ((repeat first|exact z_0|assumption|refine z_1 ?_|(refine z_l ?_;(repeat first|exact z_0|assumption|refine z_1 ?_);done)|refine z_r ?_);done))) (by omega) (fun hrn => up_ret ?_) (fun l V hrs hV => up_ret ?_)))
            · refine xr_op rfl rfl (xv_move rfl ?_)
              refine xr_op rfl rfl (xv_extract rfl rfl ?_)
              refine xr_op rfl rfl (xv_extract rfl rfl ?_)
              refine xr_op rfl rfl (xv_assign rfl ?_)
              refine xr_op rfl rfl (xv_assign rfl ?_)
              refine xr_end rfl ?_
              refine th_n ?_
              refine xc_seq ?_
              refine xc_draw0 [(0, .S), (1, .S), (2, .O), (3, .S), (4, .S), (5, .S), (6, .S), (7, .S), (8, .S), (9, .S), (10, .R), (11, .S), (12, .S), (13, .S), (14, .R), (15, .S), (16, .S), (17, .R), (18, .S), (19, .S), (20, .S), (21, .S), (22, .R), (23, .S), (24, .O), (25, .S), (26, .S)] mixed (by kernel_rfl) ?_
              refine js_S rfl rfl (.inl rfl) (xv_move rfl ⟨rfl, rfl⟩) ?_
              refine js_S rfl rfl (.inl rfl) (xv_len sl23 rfl ⟨rfl, rfl⟩) ?_
              refine js_O0 rfl rfl (.inl rfl) (xv_cmpK (c := false) rfl rfl (by simp [cmpB]) ?_)
              refine js_S rfl rfl (.inl rfl) (xv_move rfl ⟨rfl, rfl⟩) ?_
              refine js_Ss rfl rfl ⟨_, _, _, rfl, rfl, rfl⟩ ?_
              refine js_Ss rfl rfl ⟨_, _, _, rfl, rfl, rfl⟩ ?_
              refine js_Ss rfl rfl ⟨_, _, _, rfl, rfl, rfl⟩ ?_
              refine js_Ss rfl rfl ⟨_, _, _, rfl, rfl, rfl⟩ ?_
              refine js_Ss rfl rfl ⟨_, _, _, rfl, rfl, rfl⟩ ?_
              refine js_Ss rfl rfl ⟨_, _, _, rfl, rfl, rfl⟩ ?_
              refine js_Rs rfl rfl ⟨_, _, _, rfl, rfl, rfl⟩ ?_
              refine js_Ss rfl rfl ⟨_, _, _, rfl, rfl, rfl⟩ ?_
              refine js_Ss rfl rfl ⟨_, _, _, rfl, rfl, rfl⟩ ?_
              refine js_Ss rfl rfl ⟨_, _, _, rfl, rfl, rfl⟩ ?_
              refine js_Rs rfl rfl ⟨_, _, _, rfl, rfl, rfl⟩ ?_
              refine js_Ss rfl rfl ⟨_, _, _, rfl, rfl, rfl⟩ ?_
              refine js_Ss rfl rfl ⟨_, _, _, rfl, rfl, rfl⟩ ?_
              refine js_Rs rfl rfl ⟨_, _, _, rfl, rfl, rfl⟩ ?_
              refine js_Ss rfl rfl ⟨_, _, _, rfl, rfl, rfl⟩ ?_
              refine js_Ss rfl rfl ⟨_, _, _, rfl, rfl, rfl⟩ ?_
              refine js_Ss rfl rfl ⟨_, _, _, rfl, rfl, rfl⟩ ?_
              refine js_Ss rfl rfl ⟨_, _, _, rfl, rfl, rfl⟩ ?_
              refine js_Rs rfl rfl ⟨_, _, _, rfl, rfl, rfl⟩ ?_
              refine js_Ss rfl rfl ⟨_, _, _, rfl, rfl, rfl⟩ ?_
              refine js_Os rfl rfl ⟨_, _, _, rfl, rfl, rfl⟩ ?_
              refine js_S rfl rfl (.inl rfl) (xv_pick rfl rfl ⟨rfl, rfl⟩) ?_
              refine js_S rfl rfl (.inl rfl) (xv_assign rfl ⟨rfl, rfl⟩) ?_
              refine j_end0 ?_
              refine th_n ?_
              refine xc_ret ?_
              refine body_ret (h' := h) rfl (ro_tmp rfl ro_nil) (by (first|((repeat first|exact s_0|exact s_1|exact s_3|refine s_4 ?_|refine s_5 ?_|refine s_6 ?_|refine s_7 ?_);done)|((repeat first|exact s_0|exact s_1|exact s_3|refine s_4 ?_|refine s_5 ?_|refine s_6 ?_|refine s_8 ?_);done))) ?_
              first | exact H1 | exact H2 hs | exact H2 ⟨by omega, by omega⟩
            · refine xr_op rfl rfl (xv_move rfl ?_)
              refine xr_op rfl rfl (xv_extract rfl rfl ?_)
              refine xr_op rfl rfl (xv_extract rfl rfl ?_)
              refine xr_op rfl rfl (xv_assign rfl ?_)
              refine xr_op rfl rfl (xv_assign rfl ?_)
              refine xr_end rfl ?_
              refine th_n ?_
              refine xc_seq ?_
              refine xc_draw0 [(0, .S), (1, .S), (2, .O), (3, .S), (4, .S), (5, .S), (6, .S), (7, .S), (8, .S), (9, .S), (10, .R), (11, .S), (12, .S), (13, .S), (14, .R), (15, .S), (16, .S), (17, .R), (18, .S), (19, .S), (20, .S), (21, .S), (22, .R), (23, .S), (24, .O), (25, .S), (26, .S)] mixed (by kernel_rfl) ?_
              obtain ⟨sa, sc, hsv, hsl⟩ := Vec.slv (enc := eCard) (t := 59) (h := V.hp 59 (l.flatMap eCard)) eCard_len hV (fun _ hz => hz)
              rw [hsv]
              obtain ⟨hdo, hri, hll, hro⟩ := reads_ok hgood (house := house) ⟨by omega, by omega⟩ hrs
              refine js_S rfl rfl (.inl rfl) (xv_move rfl ⟨rfl, rfl⟩) ?_
              refine js_S rfl rfl (.inl rfl) (xv_len sl23 rfl ⟨rfl, rfl⟩) ?_
              refine js_O0 rfl rfl (.inl rfl) (xv_gtr2 rfl rfl (fun hq => ?_) (fun hq => ?_))
              · refine js_S rfl rfl (.inl rfl) (xv_move rfl ⟨rfl, rfl⟩) ?_
                refine js_S rfl rfl (.inr ⟨_, _, rfl, rfl⟩) (xv_move rfl ⟨rfl, rfl⟩) ?_
                refine js_S rfl rfl (.inr ⟨_, _, rfl, rfl⟩) (xv_move rfl ⟨rfl, rfl⟩) ?_
                refine js_S rfl rfl (.inr ⟨_, _, rfl, rfl⟩) (xv_len sl23 rfl ⟨rfl, rfl⟩) ?_
                refine js_S rfl rfl (.inr ⟨_, _, rfl, rfl⟩) (xv_sub rfl rfl (wrap_i64 (by (first | omega | (dsimp only at *; omega) | (simp at *; omega))) (by (first | omega | (dsimp only at *; omega) | (simp at *; omega)))) ⟨rfl, rfl⟩) ?_
                have hltp : (l.length - 1) < l.length := by (first | omega | (dsimp only at *; omega) | (simp at *; omega))
                obtain ⟨bp, op, lp, tp, fzp, hap, hmp, hxp⟩ := (hsl).at hltp
                obtain ⟨xp, hkp⟩ : ∃ qq_, l[(l.length - 1)]? = some qq_ := ⟨_, List.getElem?_eq_getElem hltp⟩
                refine js_S rfl rfl (.inr ⟨_, _, rfl, rfl⟩) (xv_ia (sz := 3) (j := l.length - 1) sl23 ty59 rfl (by rw [hap]; rfl) rfl (by (first | omega | (dsimp only at *; omega) | (simp at *; omega))) (by (first | omega | (dsimp only at *; omega) | (simp at *; omega))) (by (first | omega | (dsimp only at *; omega) | (simp at *; omega))) ⟨rfl, rfl⟩) ?_
                refine js_S rfl rfl (.inr ⟨_, _, rfl, rfl⟩) (xv_faddr fl59_1 rfl ⟨rfl, rfl⟩) ?_
                refine js_R0 rfl rfl (.inr ⟨_, _, rfl, rfl⟩) (xv_load1 ty3 rfl rfl (by ((repeat first|exact z_0|assumption|refine z_1 ?_|(refine z_l ?_;(repeat first|exact z_0|assumption|refine z_1 ?_);done)|refine z_r ?_);done)) (take_get (hxp (l.length - 1) xp hkp) (j := 1) rfl) ⟨rfl, rfl⟩) ?_
                refine js_S rfl rfl (.inr ⟨_, _, rfl, rfl⟩) (xv_move rfl ⟨rfl, rfl⟩) ?_
                have hltq : 0 < l.length := by (first | omega | (dsimp only at *; omega) | (simp at *; omega))
                obtain ⟨bq, oq, lq, tq, fzq, haq, hmq, hxq⟩ := (hsl).at hltq
                obtain ⟨xq, hkq⟩ : ∃ qq_, l[0]? = some qq_ := ⟨_, List.getElem?_eq_getElem hltq⟩
                refine js_S rfl rfl (.inr ⟨_, _, rfl, rfl⟩) (xv_ia (sz := 3) (j := 0) sl23 ty59 rfl (by rw [haq]; rfl) rfl rfl (by (first | omega | (dsimp only at *; omega) | (simp at *; omega))) (by (first | omega | (dsimp only at *; omega) | (simp at *; omega))) ⟨rfl, rfl⟩) ?_
                refine js_S rfl rfl (.inr ⟨_, _, rfl, rfl⟩) (xv_faddr fl59_1 rfl ⟨rfl, rfl⟩) ?_
                refine js_R0 rfl rfl (.inr ⟨_, _, rfl, rfl⟩) (xv_load1 ty3 rfl rfl (by ((repeat first|exact z_0|assumption|refine z_1 ?_|(refine z_l ?_;(repeat first|exact z_0|assumption|refine z_1 ?_);done)|refine z_r ?_);done)) (take_get (hxq (0) xq hkq) (j := 1) rfl) ⟨rfl, rfl⟩) ?_
                have hhp := (hro xp (List.mem_of_getElem? hkp)).1
                have hhq := (hro xq (List.mem_of_getElem? hkq)).1
                unfold hourOk at hhp hhq
                refine js_S rfl rfl (.inr ⟨_, _, rfl, rfl⟩) (xv_sub rfl rfl (wrap_i64 (by (first | omega | (dsimp only at *; omega) | (simp at *; omega))) (by (first | omega | (dsimp only at *; omega) | (simp at *; omega)))) ⟨rfl, rfl⟩) ?_
                refine js_S rfl rfl (.inr ⟨_, _, rfl, rfl⟩) (xv_faddr fl25_0 rfl ⟨rfl, rfl⟩) ?_
                refine js_R0 rfl rfl (.inr ⟨_, _, rfl, rfl⟩) (xv_load1 ty22 rfl rfl (by ((repeat first|exact z_0|assumption|refine z_1 ?_|(refine z_l ?_;(repeat first|exact z_0|assumption|refine z_1 ?_);done)|refine z_r ?_);done)) (by rfl) ⟨rfl, rfl⟩) ?_
                refine js_S rfl rfl (.inr ⟨_, _, rfl, rfl⟩) (xv_move rfl ⟨rfl, rfl⟩) ?_
                have hltd : house.toNat < r.dials.length := by (first | omega | (dsimp only at *; omega) | (simp at *; omega))
                obtain ⟨bd, od, ld, td, fzd, had, hmd, hxd⟩ := (hv.dials).at hltd
                obtain ⟨xd, hkd⟩ : ∃ qq_, r.dials[house.toNat]? = some qq_ := ⟨_, List.getElem?_eq_getElem hltd⟩
                have hda : dialAt r.dials house = xd := by unfold dialAt; rw [hkd]; rfl
                rw [hda] at hdo
                obtain ⟨g1, g2, g3, g4, g5⟩ := hdo
                have hmb := mul_bdI (a := xd.rate.hi) (A := 10000) (x := xp.hour - xq.hour) (B := 1048576) (by omega) g5 (by omega) (by omega) (by omega)
                rw [Int.mul_comm xd.rate.hi] at hmb
                refine js_S rfl rfl (.inr ⟨_, _, rfl, rfl⟩) (xv_ia (sz := 4) (j := house.toNat) sl22 ty45 rfl (by rw [had]; rfl) rfl rfl (by (first | omega | (dsimp only at *; omega) | (simp at *; omega))) (by (first | omega | (dsimp only at *; omega) | (simp at *; omega))) ⟨rfl, rfl⟩) ?_
                refine js_S rfl rfl (.inr ⟨_, _, rfl, rfl⟩) (xv_faddr fl45_1 rfl ⟨rfl, rfl⟩) ?_
                refine js_S rfl rfl (.inr ⟨_, _, rfl, rfl⟩) (xv_faddr fl38_1 rfl ⟨rfl, rfl⟩) ?_
                refine js_R0 rfl rfl (.inr ⟨_, _, rfl, rfl⟩) (xv_load1 ty3 rfl rfl (by ((repeat first|exact z_0|assumption|refine z_1 ?_|(refine z_l ?_;(repeat first|exact z_0|assumption|refine z_1 ?_);done)|refine z_r ?_);done)) (take_get (hxd (house.toNat) xd hkd) (j := 2) rfl) ⟨rfl, rfl⟩) ?_
                refine js_S rfl rfl (.inr ⟨_, _, rfl, rfl⟩) (xv_mul rfl rfl (wrap_i64 (by (first | omega | (dsimp only at *; omega) | (simp at *; omega))) (by (first | omega | (dsimp only at *; omega) | (simp at *; omega)))) ⟨rfl, rfl⟩) ?_
                refine js_O0 rfl rfl (.inr ⟨_, _, rfl, rfl⟩) (xv_gtr2 rfl rfl (fun hq => ?_) (fun hq => ?_))
                · refine js_S rfl rfl (.inl rfl) (xv_pick rfl rfl ⟨rfl, rfl⟩) ?_
                  refine js_S rfl rfl (.inl rfl) (xv_assign rfl ⟨rfl, rfl⟩) ?_
                  refine j_end0 ?_
                  refine th_n ?_
                  refine xc_ret ?_
                  refine body_ret (h' := h) rfl (ro_tmp rfl ro_nil) (by (first|((repeat first|exact s_0|exact s_1|exact s_3|refine s_4 ?_|refine s_5 ?_|refine s_6 ?_|refine s_7 ?_);done)|((repeat first|exact s_0|exact s_1|exact s_3|refine s_4 ?_|refine s_5 ?_|refine s_6 ?_|refine s_8 ?_);done))) ?_
                  first | exact H1 | exact H2 hs | exact H2 ⟨by omega, by omega⟩
                · refine js_S rfl rfl (.inl rfl) (xv_pick rfl rfl ⟨rfl, rfl⟩) ?_
                  refine js_S rfl rfl (.inl rfl) (xv_assign rfl ⟨rfl, rfl⟩) ?_
                  refine j_end0 ?_
                  refine th_n ?_
                  refine xc_ret ?_
                  refine body_ret (h' := h) rfl (ro_tmp rfl ro_nil) (by (first|((repeat first|exact s_0|exact s_1|exact s_3|refine s_4 ?_|refine s_5 ?_|refine s_6 ?_|refine s_7 ?_);done)|((repeat first|exact s_0|exact s_1|exact s_3|refine s_4 ?_|refine s_5 ?_|refine s_6 ?_|refine s_8 ?_);done))) ?_
                  first | exact H1 | exact H2 hs | exact H2 ⟨by omega, by omega⟩
              · refine js_S rfl rfl (.inl rfl) (xv_move rfl ⟨rfl, rfl⟩) ?_
                refine js_Ss rfl rfl ⟨_, _, _, rfl, rfl, rfl⟩ ?_
                refine js_Ss rfl rfl ⟨_, _, _, rfl, rfl, rfl⟩ ?_
                refine js_Ss rfl rfl ⟨_, _, _, rfl, rfl, rfl⟩ ?_
                refine js_Ss rfl rfl ⟨_, _, _, rfl, rfl, rfl⟩ ?_
                refine js_Ss rfl rfl ⟨_, _, _, rfl, rfl, rfl⟩ ?_
                refine js_Ss rfl rfl ⟨_, _, _, rfl, rfl, rfl⟩ ?_
                refine js_Rs rfl rfl ⟨_, _, _, rfl, rfl, rfl⟩ ?_
                refine js_Ss rfl rfl ⟨_, _, _, rfl, rfl, rfl⟩ ?_
                refine js_Ss rfl rfl ⟨_, _, _, rfl, rfl, rfl⟩ ?_
                refine js_Ss rfl rfl ⟨_, _, _, rfl, rfl, rfl⟩ ?_
                refine js_Rs rfl rfl ⟨_, _, _, rfl, rfl, rfl⟩ ?_
                refine js_Ss rfl rfl ⟨_, _, _, rfl, rfl, rfl⟩ ?_
                refine js_Ss rfl rfl ⟨_, _, _, rfl, rfl, rfl⟩ ?_
                refine js_Rs rfl rfl ⟨_, _, _, rfl, rfl, rfl⟩ ?_
                refine js_Ss rfl rfl ⟨_, _, _, rfl, rfl, rfl⟩ ?_
                refine js_Ss rfl rfl ⟨_, _, _, rfl, rfl, rfl⟩ ?_
                refine js_Ss rfl rfl ⟨_, _, _, rfl, rfl, rfl⟩ ?_
                refine js_Ss rfl rfl ⟨_, _, _, rfl, rfl, rfl⟩ ?_
                refine js_Rs rfl rfl ⟨_, _, _, rfl, rfl, rfl⟩ ?_
                refine js_Ss rfl rfl ⟨_, _, _, rfl, rfl, rfl⟩ ?_
                refine js_Os rfl rfl ⟨_, _, _, rfl, rfl, rfl⟩ ?_
                refine js_S rfl rfl (.inl rfl) (xv_pick rfl rfl ⟨rfl, rfl⟩) ?_
                refine js_S rfl rfl (.inl rfl) (xv_assign rfl ⟨rfl, rfl⟩) ?_
                refine j_end0 ?_
                refine th_n ?_
                refine xc_ret ?_
                refine body_ret (h' := h) rfl (ro_tmp rfl ro_nil) (by (first|((repeat first|exact s_0|exact s_1|exact s_3|refine s_4 ?_|refine s_5 ?_|refine s_6 ?_|refine s_7 ?_);done)|((repeat first|exact s_0|exact s_1|exact s_3|refine s_4 ?_|refine s_5 ?_|refine s_6 ?_|refine s_8 ?_);done))) ?_
                first | exact H1 | exact H2 hs | exact H2 ⟨by omega, by omega⟩
      · refine xr_op rfl rfl (xv_not rfl ?_)
        refine xr_op rfl rfl (xv_move rfl ?_)
        refine xr_no rfl rfl rfl rfl ?_
        refine xr_no rfl rfl rfl rfl ?_
        refine xr_op rfl rfl (xv_pick rfl rfl ?_)
        refine xr_op rfl rfl (xv_move rfl ?_)
        refine xr_no rfl rfl rfl rfl ?_
        refine xr_no rfl rfl rfl rfl ?_
        refine xr_no rfl rfl rfl rfl ?_
        refine xr_no rfl rfl rfl rfl ?_
        refine xr_no rfl rfl rfl rfl ?_
        refine xr_op rfl rfl (xv_pick rfl rfl ?_)
        refine xr_end rfl ?_
        refine th_n ?_
        refine xc_true rfl ?_
        refine xc_seq (xc_region ?_)
        refine xr_op rfl rfl (xv_assign rfl ?_)
        refine xr_end rfl ?_
        refine th_n ?_
        refine xc_ret ?_
        refine th_r ?_
        refine body_ret (h' := h) rfl (ro_tmp rfl ro_nil) (by (first|((repeat first|exact s_0|exact s_1|exact s_3|refine s_4 ?_|refine s_5 ?_|refine s_6 ?_|refine s_7 ?_);done)|((repeat first|exact s_0|exact s_1|exact s_3|refine s_4 ?_|refine s_5 ?_|refine s_6 ?_|refine s_8 ?_);done))) ?_
        first | exact H1 | exact H2 hs | exact H2 ⟨by omega, by omega⟩

end Go.Proofs.YtckaaaebegemoaaDoor
