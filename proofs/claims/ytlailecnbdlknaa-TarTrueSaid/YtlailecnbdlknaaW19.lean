/-
  Walks.
-/
import Derived.Test.YtlailecnbdlknaaA
namespace Go.Proofs.Ytlailecnbdlknaa
open Go Go.H
set_option maxRecDepth 100000
set_option maxHeartbeats 2000000
set_option linter.all false
theorem awake_c {h : Hp} {R : Ending → Hp → Prop} (H : R (.returned (.bool true)) h) : ACalls Try.prog 10 ⟨[]⟩ h R := by
  refine calls_of_xc (N := 109) Try.func10 rfl (by rfl) ?_
  refine xc_seq (xc_region ?_)
  refine xr_op rfl rfl (xv_assign rfl ?_)
  refine xr_end rfl ?_
  refine th_n ?_
  refine xc_seq (xc_region ?_)
  refine xr_op rfl rfl (xv_calls rfl hb24 (sample_c (fun bs o1 o2 bt bl => up_ret ?_)))
  refine xr_op rfl rfl (xv_alloc ty26 (fun bY hbY => ?_))
  refine xr_op rfl rfl (xv_s ty26 rfl rfl (by (first|(apply u_3;(repeat first|exact u_0|assumption|apply u_1|apply u_2);done)|((repeat first|exact u_0|assumption|apply u_1|apply u_2);done)|(apply u_3;apply u_3;(repeat first|exact u_0|assumption|apply u_1|apply u_2);done)|((repeat first|exact u_0|assumption|apply u_3|apply u_1);done))) (by ((try apply evl_some rfl);(repeat (first|exact (rfl : _ = [])|apply evl_cons rfl (by (first|exact v_1|exact v_2|exact v_3|exact v_4|exact v_5|exact v_6|exact v_7|exact v_8|exact v_9|exact rfl))|exact rfl)))) (by rfl) (by rfl) (by rfl) (by ((try apply evl_some rfl);(repeat (first|exact (rfl : _ = [])|apply evl_cons rfl (by (first|exact v_1|exact v_2|exact v_3|exact v_4|exact v_5|exact v_6|exact v_7|exact v_8|exact v_9|exact rfl))|exact rfl)))) ?_)
  refine xr_end rfl ?_
  refine th_n ?_
  refine xc_seq (xc_region ?_)
  refine xr_op rfl rfl (xv_loadA ty26 rfl rfl (by (first|((repeat first|exact z_0|assumption|refine z_1 ?_|refine z_r ?_);done)|((repeat refine z_1 ?_);refine z_l ?_;(repeat first|exact z_0|assumption|refine z_1 ?_|refine z_r ?_);done)|((repeat refine z_1 ?_);refine z_r ?_;(repeat refine z_1 ?_);refine z_l ?_;(repeat first|exact z_0|assumption|refine z_1 ?_|refine z_r ?_);done)|((repeat first|exact z_0|assumption|refine z_1 ?_|refine z_l ?_);done))) (by ((try apply evl_some rfl);(repeat (first|exact (rfl : _ = [])|apply evl_cons rfl (by (first|exact v_1|exact v_2|exact v_3|exact v_4|exact v_5|exact v_6|exact v_7|exact v_8|exact v_9|exact rfl))|exact rfl)))) (by rfl) ?_)
  refine xr_op rfl rfl ((al_buildSlice sl22 ty3 rfl rfl rfl rfl rfl (by ((try apply evl_some rfl);(repeat (first|exact (rfl : _ = [])|apply evl_cons rfl (by (first|exact v_1|exact v_2|exact v_3|exact v_4|exact v_5|exact v_6|exact v_7|exact v_8|exact v_9|exact rfl))|exact rfl))))).xv (fun bp1 hbp1 => ?_))
  refine xr_op rfl rfl (xv_calls rfl hb14 (aLeft (by ((intro q0 hq0;(repeat first|(with_reducible exact z_l hq0)|(with_reducible refine z_1 ?_)|(with_reducible refine z_r ?_))))) (by (first|((repeat first|exact z_0|assumption|refine z_1 ?_|refine z_r ?_);done)|((repeat refine z_1 ?_);refine z_l ?_;(repeat first|exact z_0|assumption|refine z_1 ?_|refine z_r ?_);done)|((repeat refine z_1 ?_);refine z_r ?_;(repeat refine z_1 ?_);refine z_l ?_;(repeat first|exact z_0|assumption|refine z_1 ?_|refine z_r ?_);done)|((repeat first|exact z_0|assumption|refine z_1 ?_|refine z_l ?_);done))) (fun a1 c1 q1 hs1 => up_ret ?_)))
  refine xr_op rfl rfl (xv_move rfl ?_)
  refine xr_op rfl rfl (xv_extract rfl rfl ?_)
  refine xr_op rfl rfl (xv_extract rfl rfl ?_)
  refine xr_op rfl rfl (xv_assign rfl ?_)
  refine xr_op rfl rfl (xv_assign rfl ?_)
  refine xr_end rfl ?_
  refine th_n ?_
  refine xc_seq (xc_region ?_)
  refine xr_op rfl rfl (xv_loadA ty26 rfl rfl (by (first|((repeat first|exact z_0|assumption|refine z_1 ?_|refine z_r ?_);done)|((repeat refine z_1 ?_);refine z_l ?_;(repeat first|exact z_0|assumption|refine z_1 ?_|refine z_r ?_);done)|((repeat refine z_1 ?_);refine z_r ?_;(repeat refine z_1 ?_);refine z_l ?_;(repeat first|exact z_0|assumption|refine z_1 ?_|refine z_r ?_);done)|((repeat first|exact z_0|assumption|refine z_1 ?_|refine z_l ?_);done))) (by ((try apply evl_some rfl);(repeat (first|exact (rfl : _ = [])|apply evl_cons rfl (by (first|exact v_1|exact v_2|exact v_3|exact v_4|exact v_5|exact v_6|exact v_7|exact v_8|exact v_9|exact rfl))|exact rfl)))) (by rfl) ?_)
  refine xr_op rfl rfl ((al_buildSlice sl22 ty3 rfl rfl rfl rfl rfl (by ((try apply evl_some rfl);(repeat (first|exact (rfl : _ = [])|apply evl_cons rfl (by (first|exact v_1|exact v_2|exact v_3|exact v_4|exact v_5|exact v_6|exact v_7|exact v_8|exact v_9|exact rfl))|exact rfl))))).xv (fun bp2 hbp2 => ?_))
  refine xr_op rfl rfl (xv_calls rfl hb14 (aLeft0 (by ((intro q0 hq0;(repeat first|(with_reducible exact z_l hq0)|(with_reducible refine z_1 ?_)|(with_reducible refine z_r ?_))))) (by (first|((repeat first|exact z_0|assumption|refine z_1 ?_|refine z_r ?_);done)|((repeat refine z_1 ?_);refine z_l ?_;(repeat first|exact z_0|assumption|refine z_1 ?_|refine z_r ?_);done)|((repeat refine z_1 ?_);refine z_r ?_;(repeat refine z_1 ?_);refine z_l ?_;(repeat first|exact z_0|assumption|refine z_1 ?_|refine z_r ?_);done)|((repeat first|exact z_0|assumption|refine z_1 ?_|refine z_l ?_);done))) (up_ret ?_)))
  refine xr_op rfl rfl (xv_move rfl ?_)
  refine xr_op rfl rfl (xv_extract rfl rfl ?_)
  refine xr_op rfl rfl (xv_extract rfl rfl ?_)
  refine xr_op rfl rfl (xv_assign rfl ?_)
  refine xr_op rfl rfl (xv_assign rfl ?_)
  refine xr_end rfl ?_
  refine th_n ?_
  refine xc_seq (xc_region ?_)
  refine xr_op rfl rfl (xv_loadA ty26 rfl rfl (by (first|((repeat first|exact z_0|assumption|refine z_1 ?_|refine z_r ?_);done)|((repeat refine z_1 ?_);refine z_l ?_;(repeat first|exact z_0|assumption|refine z_1 ?_|refine z_r ?_);done)|((repeat refine z_1 ?_);refine z_r ?_;(repeat refine z_1 ?_);refine z_l ?_;(repeat first|exact z_0|assumption|refine z_1 ?_|refine z_r ?_);done)|((repeat first|exact z_0|assumption|refine z_1 ?_|refine z_l ?_);done))) (by ((try apply evl_some rfl);(repeat (first|exact (rfl : _ = [])|apply evl_cons rfl (by (first|exact v_1|exact v_2|exact v_3|exact v_4|exact v_5|exact v_6|exact v_7|exact v_8|exact v_9|exact rfl))|exact rfl)))) (by rfl) ?_)
  refine xr_op rfl rfl ((al_buildSlice sl22 ty3 rfl rfl rfl rfl rfl (by ((try apply evl_some rfl);(repeat (first|exact (rfl : _ = [])|apply evl_cons rfl (by (first|exact v_1|exact v_2|exact v_3|exact v_4|exact v_5|exact v_6|exact v_7|exact v_8|exact v_9|exact rfl))|exact rfl))))).xv (fun bp3 hbp3 => ?_))
  refine xr_op rfl rfl (xv_calls rfl hb16 (aIncome (by ((intro q0 hq0;(repeat first|(with_reducible exact z_l hq0)|(with_reducible refine z_1 ?_)|(with_reducible refine z_r ?_))))) (by (first|((repeat first|exact z_0|assumption|refine z_1 ?_|refine z_r ?_);done)|((repeat refine z_1 ?_);refine z_l ?_;(repeat first|exact z_0|assumption|refine z_1 ?_|refine z_r ?_);done)|((repeat refine z_1 ?_);refine z_r ?_;(repeat refine z_1 ?_);refine z_l ?_;(repeat first|exact z_0|assumption|refine z_1 ?_|refine z_r ?_);done)|((repeat first|exact z_0|assumption|refine z_1 ?_|refine z_l ?_);done))) (fun b2 => up_ret ?_)))
  refine xr_op rfl rfl (xv_move rfl ?_)
  refine xr_op rfl rfl (xv_extract rfl rfl ?_)
  refine xr_op rfl rfl (xv_extract rfl rfl ?_)
  refine xr_op rfl rfl (xv_extract rfl rfl ?_)
  refine xr_op rfl rfl (xv_assign rfl ?_)
  refine xr_op rfl rfl (xv_assign rfl ?_)
  refine xr_op rfl rfl (xv_assign rfl ?_)
  refine xr_end rfl ?_
  refine th_n ?_
  refine xc_seq (xc_region ?_)
  refine xr_op rfl rfl (xv_loadA ty26 rfl rfl (by (first|((repeat first|exact z_0|assumption|refine z_1 ?_|refine z_r ?_);done)|((repeat refine z_1 ?_);refine z_l ?_;(repeat first|exact z_0|assumption|refine z_1 ?_|refine z_r ?_);done)|((repeat refine z_1 ?_);refine z_r ?_;(repeat refine z_1 ?_);refine z_l ?_;(repeat first|exact z_0|assumption|refine z_1 ?_|refine z_r ?_);done)|((repeat first|exact z_0|assumption|refine z_1 ?_|refine z_l ?_);done))) (by ((try apply evl_some rfl);(repeat (first|exact (rfl : _ = [])|apply evl_cons rfl (by (first|exact v_1|exact v_2|exact v_3|exact v_4|exact v_5|exact v_6|exact v_7|exact v_8|exact v_9|exact rfl))|exact rfl)))) (by rfl) ?_)
  refine xr_op rfl rfl (xv_calls rfl hb11 (aPlan (by ((intro q0 hq0;(repeat first|(with_reducible exact z_l hq0)|(with_reducible refine z_1 ?_)|(with_reducible refine z_r ?_))))) (fun a3 c3 q3 hs3 => up_ret ?_)))
  refine xr_op rfl rfl (xv_move rfl ?_)
  refine xr_op rfl rfl (xv_extract rfl rfl ?_)
  refine xr_op rfl rfl (xv_extract rfl rfl ?_)
  refine xr_op rfl rfl (xv_extract rfl rfl ?_)
  refine xr_op rfl rfl (xv_assign rfl ?_)
  refine xr_op rfl rfl (xv_assign rfl ?_)
  refine xr_op rfl rfl (xv_assign rfl ?_)
  refine xr_end rfl ?_
  refine th_n ?_
  refine xc_seq (xc_region ?_)
  refine xr_op rfl rfl (xv_calls rfl hb23 (span_c _ _ (up_ret ?_)))
  refine xr_op rfl rfl (xv_calls rfl hb23 (span_c _ _ (up_ret ?_)))
  refine xr_op rfl rfl (xv_build bt61 rfl (by ((try apply evl_some rfl);(repeat (first|exact (rfl : _ = [])|apply evl_cons rfl (by (first|exact v_1|exact v_2|exact v_3|exact v_4|exact v_5|exact v_6|exact v_7|exact v_8|exact v_9|exact rfl))|exact rfl)))) ?_)
  refine xr_op rfl rfl (xv_calls rfl hb23 (span_c _ _ (up_ret ?_)))
  refine xr_op rfl rfl (xv_calls rfl hb23 (span_c _ _ (up_ret ?_)))
  refine xr_op rfl rfl (xv_build bt61 rfl (by ((try apply evl_some rfl);(repeat (first|exact (rfl : _ = [])|apply evl_cons rfl (by (first|exact v_1|exact v_2|exact v_3|exact v_4|exact v_5|exact v_6|exact v_7|exact v_8|exact v_9|exact rfl))|exact rfl)))) ?_)
  refine xr_op rfl rfl ((al_buildSlice sl34 ty61 rfl rfl rfl rfl rfl (by ((try apply evl_some rfl);(repeat (first|exact (rfl : _ = [])|apply evl_cons rfl (by (first|exact v_1|exact v_2|exact v_3|exact v_4|exact v_5|exact v_6|exact v_7|exact v_8|exact v_9|exact rfl))|exact rfl))))).xv (fun bw hbw => ?_))
  refine xr_op rfl rfl (xv_calls rfl hb18 (aCarried (by (first|((repeat first|exact z_0|assumption|refine z_1 ?_|refine z_r ?_);done)|((repeat refine z_1 ?_);refine z_l ?_;(repeat first|exact z_0|assumption|refine z_1 ?_|refine z_r ?_);done)|((repeat refine z_1 ?_);refine z_r ?_;(repeat refine z_1 ?_);refine z_l ?_;(repeat first|exact z_0|assumption|refine z_1 ?_|refine z_r ?_);done)|((repeat first|exact z_0|assumption|refine z_1 ?_|refine z_l ?_);done))) (fun a4 c4 q4 hs4 => up_ret ?_)))
  refine xr_op rfl rfl (xv_move rfl ?_)
  refine xr_op rfl rfl (xv_extract rfl rfl ?_)
  refine xr_op rfl rfl (xv_extract rfl rfl ?_)
  refine xr_op rfl rfl (xv_extract rfl rfl ?_)
  refine xr_op rfl rfl (xv_alloc ty41 (fun bA hbA => ?_))
  refine xr_op rfl rfl (xv_assign rfl ?_)
  refine xr_op rfl rfl (xv_s ty41 rfl rfl (by (first|(apply u_3;(repeat first|exact u_0|assumption|apply u_1|apply u_2);done)|((repeat first|exact u_0|assumption|apply u_1|apply u_2);done)|(apply u_3;apply u_3;(repeat first|exact u_0|assumption|apply u_1|apply u_2);done)|((repeat first|exact u_0|assumption|apply u_3|apply u_1);done))) (by ((try apply evl_some rfl);(repeat (first|exact (rfl : _ = [])|apply evl_cons rfl (by (first|exact v_1|exact v_2|exact v_3|exact v_4|exact v_5|exact v_6|exact v_7|exact v_8|exact v_9|exact rfl))|exact rfl)))) (by rfl) (by rfl) (by rfl) (by ((try apply evl_some rfl);(repeat (first|exact (rfl : _ = [])|apply evl_cons rfl (by (first|exact v_1|exact v_2|exact v_3|exact v_4|exact v_5|exact v_6|exact v_7|exact v_8|exact v_9|exact rfl))|exact rfl)))) ?_)
  refine xr_op rfl rfl (xv_assign rfl ?_)
  refine xr_end rfl ?_
  refine th_n ?_
  refine xc_seq ?_
  refine xc_seq (xc_region ?_)
  refine xr_op rfl rfl (xv_move rfl ?_)
  refine xr_op rfl rfl (xv_calls rfl hb23 (span_c _ _ (up_ret ?_)))
  refine xr_op rfl rfl (xv_calls rfl hb23 (span_c _ _ (up_ret ?_)))
  refine xr_op rfl rfl (xv_calls rfl hb23 (span_c _ _ (up_ret ?_)))
  refine xr_op rfl rfl ((al_buildSlice sl35 ty41 rfl rfl rfl rfl rfl (by ((try apply evl_some rfl);(repeat (first|exact (rfl : _ = [])|apply evl_cons rfl (by (first|exact v_1|exact v_2|exact v_3|exact v_4|exact v_5|exact v_6|exact v_7|exact v_8|exact v_9|exact rfl))|exact rfl))))).xv (fun b1 hb1 => ?_))
  refine xr_op rfl rfl (xv_calls rfl hb20 (SpansT_c (xs := [⟨2, 2⟩, ⟨2, 5⟩, ⟨7, 10⟩]) (hs1.sub (by ((intro q0 hq0;(repeat first|(with_reducible exact z_l hq0)|(with_reducible refine z_1 ?_)|(with_reducible refine z_r ?_)))))) (slvL eSpan_len (by (first|((repeat first|exact z_0|assumption|refine z_1 ?_|refine z_r ?_);done)|((repeat refine z_1 ?_);refine z_l ?_;(repeat first|exact z_0|assumption|refine z_1 ?_|refine z_r ?_);done)|((repeat refine z_1 ?_);refine z_r ?_;(repeat refine z_1 ?_);refine z_l ?_;(repeat first|exact z_0|assumption|refine z_1 ?_|refine z_r ?_);done)|((repeat first|exact z_0|assumption|refine z_1 ?_|refine z_l ?_);done)))) (by decide) (up_ret ?_)))
  refine xr_op rfl rfl (xv_not rfl ?_)
  refine xr_op rfl rfl (xv_move rfl ?_)
  refine xr_gd rfl rfl rfl (xv_move rfl ?_)
  refine xr_gd rfl rfl rfl (xv_neqF rfl rfl rfl ?_)
  refine xr_op rfl rfl (xv_pick rfl rfl ?_)
  refine xr_op rfl rfl (xv_move rfl ?_)
  refine xr_gd rfl rfl rfl (xv_move rfl ?_)
  refine xr_gd rfl rfl rfl (xv_neqF rfl rfl rfl ?_)
  refine xr_op rfl rfl (xv_pick rfl rfl ?_)
  refine xr_op rfl rfl (xv_move rfl ?_)
  refine xr_gd rfl rfl rfl (xv_move rfl ?_)
  refine xr_gd rfl rfl rfl (xv_neqF rfl rfl rfl ?_)
  refine xr_op rfl rfl (xv_pick rfl rfl ?_)
  refine xr_op rfl rfl (xv_move rfl ?_)
  refine xr_gd rfl rfl rfl (xv_move rfl ?_)
  refine xr_gd rfl rfl rfl ((al_buildSlice sl22 ty3 rfl rfl rfl rfl rfl (by ((try apply evl_some rfl);(repeat (first|exact (rfl : _ = [])|apply evl_cons rfl (by (first|exact v_1|exact v_2|exact v_3|exact v_4|exact v_5|exact v_6|exact v_7|exact v_8|exact v_9|exact rfl))|exact rfl))))).xv (fun b2 hb2 => ?_))
  refine xr_gd rfl rfl rfl (xv_calls rfl hb13 (IntsT_c (xs := [5, 2, 2]) (slvL eI_len (by (first|((repeat first|exact z_0|assumption|refine z_1 ?_|refine z_r ?_);done)|((repeat refine z_1 ?_);refine z_l ?_;(repeat first|exact z_0|assumption|refine z_1 ?_|refine z_r ?_);done)|((repeat refine z_1 ?_);refine z_r ?_;(repeat refine z_1 ?_);refine z_l ?_;(repeat first|exact z_0|assumption|refine z_1 ?_|refine z_r ?_);done)|((repeat first|exact z_0|assumption|refine z_1 ?_|refine z_l ?_);done)))) (slvL eI_len (by (first|((repeat first|exact z_0|assumption|refine z_1 ?_|refine z_r ?_);done)|((repeat refine z_1 ?_);refine z_l ?_;(repeat first|exact z_0|assumption|refine z_1 ?_|refine z_r ?_);done)|((repeat refine z_1 ?_);refine z_r ?_;(repeat refine z_1 ?_);refine z_l ?_;(repeat first|exact z_0|assumption|refine z_1 ?_|refine z_r ?_);done)|((repeat first|exact z_0|assumption|refine z_1 ?_|refine z_l ?_);done)))) (by decide) (up_ret ?_)))
  refine xr_gd rfl rfl rfl (xv_not rfl ?_)
  refine xr_op rfl rfl (xv_pick rfl rfl ?_)
  refine xr_op rfl rfl (xv_move rfl ?_)
  refine xr_gd rfl rfl rfl (xv_move rfl ?_)
  refine xr_gd rfl rfl rfl (xv_neqF rfl rfl rfl ?_)
  refine xr_op rfl rfl (xv_pick rfl rfl ?_)
  refine xr_end rfl ?_
  refine th_n ?_
  refine xc_false rfl ?_
  refine xc_skip ?_
  refine th_n ?_
  refine xc_seq ?_
  refine xc_draw0 [(0, .S), (1, .P), (1, .A), (2, .R), (3, .S), (4, .S), (5, .S), (6, .S), (7, .S), (8, .S), (9, .S), (10, .S), (11, .S), (12, .S), (13, .R), (14, .R), (15, .O), (16, .R), (17, .S), (18, .S), (19, .R), (20, .R), (21, .S), (22, .S), (23, .S), (24, .S), (25, .S), (26, .S), (27, .S)] mixed (by kernel_rfl) ?_
  refine js_S rfl rfl (.inl rfl) (xv_move rfl ⟨rfl, rfl⟩) ?_
  refine js_P rfl rfl rfl (al_buildSlice sl22 ty3 rfl rfl rfl rfl rfl (by ((try apply evl_some rfl);(repeat (first|exact (rfl : _ = [])|apply evl_cons rfl (by (first|exact v_1|exact v_2|exact v_3|exact v_4|exact v_5|exact v_6|exact v_7|exact v_8|exact v_9|exact rfl))|exact rfl))))) ?_
  refine js_A0 rfl rfl rfl rfl rfl trivial (fun b4 hb4 => ?_)
  refine js_R0 rfl rfl (.inl rfl) (xv_calls rfl hb13 (IntsT_c (xs := [2, 1]) (hs3.sub (by ((intro q0 hq0;(repeat first|(with_reducible exact z_l hq0)|(with_reducible refine z_1 ?_)|(with_reducible refine z_r ?_)))))) (slvL eI_len (by (first|((repeat first|exact z_0|assumption|refine z_1 ?_|refine z_r ?_);done)|((repeat refine z_1 ?_);refine z_l ?_;(repeat first|exact z_0|assumption|refine z_1 ?_|refine z_r ?_);done)|((repeat refine z_1 ?_);refine z_r ?_;(repeat refine z_1 ?_);refine z_l ?_;(repeat first|exact z_0|assumption|refine z_1 ?_|refine z_r ?_);done)|((repeat first|exact z_0|assumption|refine z_1 ?_|refine z_l ?_);done)))) (by decide) (up_ret ⟨rfl, rfl⟩))) ?_
  refine js_S rfl rfl (.inl rfl) (xv_move rfl ⟨rfl, rfl⟩) ?_
  refine js_S rfl rfl (.inr ⟨_, _, rfl, rfl⟩) (xv_move rfl ⟨rfl, rfl⟩) ?_
  refine js_S rfl rfl (.inr ⟨_, _, rfl, rfl⟩) (xv_eqlT rfl rfl rfl ⟨rfl, rfl⟩) ?_
  refine js_S rfl rfl (.inl rfl) (xv_pick rfl rfl ⟨rfl, rfl⟩) ?_
  refine js_S rfl rfl (.inl rfl) (xv_move rfl ⟨rfl, rfl⟩) ?_
  refine js_S rfl rfl (.inr ⟨_, _, rfl, rfl⟩) (xv_move rfl ⟨rfl, rfl⟩) ?_
  refine js_S rfl rfl (.inr ⟨_, _, rfl, rfl⟩) (xv_eqlT rfl rfl rfl ⟨rfl, rfl⟩) ?_
  refine js_S rfl rfl (.inl rfl) (xv_pick rfl rfl ⟨rfl, rfl⟩) ?_
  refine js_S rfl rfl (.inl rfl) (xv_move rfl ⟨rfl, rfl⟩) ?_
  refine js_S rfl rfl (.inr ⟨_, _, rfl, rfl⟩) (xv_move rfl ⟨rfl, rfl⟩) ?_
  refine js_R0 rfl rfl (.inr ⟨_, _, rfl, rfl⟩) (xv_calls rfl hb23 (span_c _ _ (up_ret ⟨rfl, rfl⟩))) ?_
  refine js_R0 rfl rfl (.inr ⟨_, _, rfl, rfl⟩) (xv_calls rfl hb23 (span_c _ _ (up_ret ⟨rfl, rfl⟩))) ?_
  refine js_O0 rfl rfl (.inr ⟨_, _, rfl, rfl⟩) ((al_buildSlice sl35 ty41 rfl rfl rfl rfl rfl (by ((try apply evl_some rfl);(repeat (first|exact (rfl : _ = [])|apply evl_cons rfl (by (first|exact v_1|exact v_2|exact v_3|exact v_4|exact v_5|exact v_6|exact v_7|exact v_8|exact v_9|exact rfl))|exact rfl))))).xv (fun b5 hb5 => ?_))
  refine js_R0 rfl rfl (.inr ⟨_, _, rfl, rfl⟩) (xv_calls rfl hb20 (SpansT_c (xs := [⟨18, 21⟩, ⟨0, 3⟩]) (hs4.sub (by ((intro q0 hq0;(repeat first|(with_reducible exact z_l hq0)|(with_reducible refine z_1 ?_)|(with_reducible refine z_r ?_)))))) (slvL eSpan_len (by (first|((repeat first|exact z_0|assumption|refine z_1 ?_|refine z_r ?_);done)|((repeat refine z_1 ?_);refine z_l ?_;(repeat first|exact z_0|assumption|refine z_1 ?_|refine z_r ?_);done)|((repeat refine z_1 ?_);refine z_r ?_;(repeat refine z_1 ?_);refine z_l ?_;(repeat first|exact z_0|assumption|refine z_1 ?_|refine z_r ?_);done)|((repeat first|exact z_0|assumption|refine z_1 ?_|refine z_l ?_);done)))) (by decide) (up_ret ⟨rfl, rfl⟩))) ?_
  refine js_S rfl rfl (.inl rfl) (xv_pick rfl rfl ⟨rfl, rfl⟩) ?_
  refine js_S rfl rfl (.inl rfl) (xv_move rfl ⟨rfl, rfl⟩) ?_
  refine js_R0 rfl rfl (.inr ⟨_, _, rfl, rfl⟩) (xv_loadA ty41 rfl rfl (by (first|((repeat first|exact z_0|assumption|refine z_1 ?_|refine z_r ?_);done)|((repeat refine z_1 ?_);refine z_l ?_;(repeat first|exact z_0|assumption|refine z_1 ?_|refine z_r ?_);done)|((repeat refine z_1 ?_);refine z_r ?_;(repeat refine z_1 ?_);refine z_l ?_;(repeat first|exact z_0|assumption|refine z_1 ?_|refine z_r ?_);done)|((repeat first|exact z_0|assumption|refine z_1 ?_|refine z_l ?_);done))) (by ((try apply evl_some rfl);(repeat (first|exact (rfl : _ = [])|apply evl_cons rfl (by (first|exact v_1|exact v_2|exact v_3|exact v_4|exact v_5|exact v_6|exact v_7|exact v_8|exact v_9|exact rfl))|exact rfl)))) (by rfl) ⟨rfl, rfl⟩) ?_
  refine js_R0 rfl rfl (.inr ⟨_, _, rfl, rfl⟩) (xv_calls rfl hb23 (span_c _ _ (up_ret ⟨rfl, rfl⟩))) ?_
  refine js_S rfl rfl (.inr ⟨_, _, rfl, rfl⟩) (xv_eqA (b := true) fq41 rfl eg41 rfl rfl rfl rfl (by ((repeat' first | assumption | exact numNil | refine numCons ?_ | refine numApp ?_ ?_); done)) (by ((repeat' first | assumption | exact numNil | refine numCons ?_ | refine numApp ?_ ?_); done)) (eqc_self (by ((repeat' first | assumption | exact numNil | refine numCons ?_ | refine numApp ?_ ?_); done))) ⟨rfl, rfl⟩) ?_
  refine js_S rfl rfl (.inl rfl) (xv_pick rfl rfl ⟨rfl, rfl⟩) ?_
  refine js_S rfl rfl (.inl rfl) (xv_move rfl ⟨rfl, rfl⟩) ?_
  refine js_S rfl rfl (.inr ⟨_, _, rfl, rfl⟩) (xv_move rfl ⟨rfl, rfl⟩) ?_
  refine js_S rfl rfl (.inr ⟨_, _, rfl, rfl⟩) (xv_eqlT rfl rfl rfl ⟨rfl, rfl⟩) ?_
  refine js_S rfl rfl (.inl rfl) (xv_pick rfl rfl ⟨rfl, rfl⟩) ?_
  refine js_S rfl rfl (.inl rfl) (xv_assign rfl ⟨rfl, rfl⟩) ?_
  refine j_end0 ?_
  refine th_n ?_
  refine xc_ret ?_
  refine body_ret (h' := h) rfl (ro_tmp rfl ro_nil) (by (first|((repeat first|exact s_0|exact s_1|exact s_3|refine s_4 ?_|refine s_5 ?_|refine s_6 ?_|refine s_7 ?_);done)|((repeat first|exact s_0|exact s_1|exact s_3|refine s_4 ?_|refine s_5 ?_|refine s_6 ?_|refine s_8 ?_);done))) ?_
  exact H

end Go.Proofs.Ytlailecnbdlknaa
