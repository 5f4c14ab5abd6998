/-
  Walks.
-/
import Derived.Test.YtckaaaebegemoaaDoorW20
import Derived.Test.YtckaaaebegemoaaDoorW14
import Derived.Test.YtckaaaebegemoaaDoorW15
import Derived.Test.YtckaaaebegemoaaDoorP4
namespace Go.Proofs.YtckaaaebegemoaaDoor
open Go Go.H
set_option maxRecDepth 100000
set_option maxHeartbeats 2000000
set_option linter.all false
theorem span_c (a b : Int) {h : Hp} {R : Ending → Hp → Prop} (H : R (.returned (.agg ⟨[I a, I b]⟩)) h) :
    ACalls Tryd.prog 30 ⟨[I a, I b]⟩ h R := by
  refine calls_of_xc (N := 8) Tryd.func30 rfl (by rfl) ?_
  refine xc_seq (xc_region ?_)
  refine xr_op rfl rfl (xv_alloc ty38 (fun b4 hb4 => ?_))
  refine xr_end rfl ?_
  refine th_n ?_
  refine xc_seq (xc_region ?_)
  refine xr_op rfl rfl (xv_move rfl ?_)
  refine xr_op rfl rfl (xv_move rfl ?_)
  refine xr_op rfl rfl (xv_build bt38 rfl (by ((try apply evl_some rfl);(repeat (first|exact (rfl : _ = [])|apply evl_cons rfl (by (first|exact v_1|exact v_2|exact v_3|exact v_4|exact v_5|exact v_6|exact v_7|exact v_8|exact v_9|exact rfl))|exact rfl)))) ?_)
  refine xr_op rfl rfl (xv_s ty38 rfl rfl (by (first|(apply u_3;(repeat first|exact u_0|assumption|apply u_1|apply u_2);done)|((repeat first|exact u_0|assumption|apply u_1|apply u_2);done)|(apply u_3;apply u_3;(repeat first|exact u_0|assumption|apply u_1|apply u_2);done)|((repeat first|exact u_0|assumption|apply u_3|apply u_1);done))) (by ((try apply evl_some rfl);(repeat (first|exact (rfl : _ = [])|apply evl_cons rfl (by (first|exact v_1|exact v_2|exact v_3|exact v_4|exact v_5|exact v_6|exact v_7|exact v_8|exact v_9|exact rfl))|exact rfl)))) (by rfl) (by rfl) (by rfl) (by ((try apply evl_some rfl);(repeat (first|exact (rfl : _ = [])|apply evl_cons rfl (by (first|exact v_1|exact v_2|exact v_3|exact v_4|exact v_5|exact v_6|exact v_7|exact v_8|exact v_9|exact rfl))|exact rfl)))) ?_)
  refine xr_end rfl ?_
  refine th_n ?_
  refine xc_ret ?_
  refine body_ret (h' := h) rfl (ro_cellA ty38 rfl rfl (by ((repeat first|exact z_0|assumption|refine z_1 ?_|(refine z_l ?_;(repeat first|exact z_0|assumption|refine z_1 ?_);done)|refine z_r ?_);done)) (by rfl) (by rfl) ro_nil) (by (first|((repeat first|exact s_0|exact s_1|exact s_3|refine s_4 ?_|refine s_5 ?_|refine s_6 ?_|refine s_7 ?_);done)|((repeat first|exact s_0|exact s_1|exact s_3|refine s_4 ?_|refine s_5 ?_|refine s_6 ?_|refine s_8 ?_);done))) ?_
  exact H

theorem sample_c {h : Hp} {R : Ending → Hp → Prop} (H : ∀ bd bc, R (.returned (.agg ⟨eRnd (sR bd bc 47)⟩)) ((bc, .cells ⟨(sCards 47).flatMap eCard⟩ 59 (0, 0)) :: (bd, .cells ⟨sDials.flatMap eDial⟩ 45 (0, 0)) :: h)) : ACalls Tryd.prog 31 ⟨[]⟩ h R := by
  refine calls_of_xc (N := 13) Tryd.func31 rfl (by rfl) ?_
  refine xc_seq (xc_region ?_)
  refine xr_op rfl rfl (xv_alloc ty25 (fun b0 hb0 => ?_))
  refine xr_end rfl ?_
  refine th_n ?_
  refine xc_seq (xc_region ?_)
  refine xr_op rfl rfl (xv_calls rfl hb30 (span_c _ _ (up_ret ?_)))
  refine xr_op rfl rfl (xv_build bt45 rfl (by ((try apply evl_some rfl);(repeat (first|exact (rfl : _ = [])|apply evl_cons rfl (by (first|exact v_1|exact v_2|exact v_3|exact v_4|exact v_5|exact v_6|exact v_7|exact v_8|exact v_9|exact rfl))|exact rfl)))) ?_)
  refine xr_op rfl rfl (xv_calls rfl hb30 (span_c _ _ (up_ret ?_)))
  refine xr_op rfl rfl (xv_build bt45 rfl (by ((try apply evl_some rfl);(repeat (first|exact (rfl : _ = [])|apply evl_cons rfl (by (first|exact v_1|exact v_2|exact v_3|exact v_4|exact v_5|exact v_6|exact v_7|exact v_8|exact v_9|exact rfl))|exact rfl)))) ?_)
  refine xr_op rfl rfl ((al_buildSlice sl22 ty45 rfl rfl rfl rfl rfl (by ((try apply evl_some rfl);(repeat (first|exact (rfl : _ = [])|apply evl_cons rfl (by (first|exact v_1|exact v_2|exact v_3|exact v_4|exact v_5|exact v_6|exact v_7|exact v_8|exact v_9|exact rfl))|exact rfl))))).xv (fun bd hbd => ?_))
  refine xr_op rfl rfl (xv_build bt59 rfl (by ((try apply evl_some rfl);(repeat (first|exact (rfl : _ = [])|apply evl_cons rfl (by (first|exact v_1|exact v_2|exact v_3|exact v_4|exact v_5|exact v_6|exact v_7|exact v_8|exact v_9|exact rfl))|exact rfl)))) ?_)
  refine xr_op rfl rfl (xv_build bt59 rfl (by ((try apply evl_some rfl);(repeat (first|exact (rfl : _ = [])|apply evl_cons rfl (by (first|exact v_1|exact v_2|exact v_3|exact v_4|exact v_5|exact v_6|exact v_7|exact v_8|exact v_9|exact rfl))|exact rfl)))) ?_)
  refine xr_op rfl rfl (xv_build bt59 rfl (by ((try apply evl_some rfl);(repeat (first|exact (rfl : _ = [])|apply evl_cons rfl (by (first|exact v_1|exact v_2|exact v_3|exact v_4|exact v_5|exact v_6|exact v_7|exact v_8|exact v_9|exact rfl))|exact rfl)))) ?_)
  refine xr_op rfl rfl (xv_build bt59 rfl (by ((try apply evl_some rfl);(repeat (first|exact (rfl : _ = [])|apply evl_cons rfl (by (first|exact v_1|exact v_2|exact v_3|exact v_4|exact v_5|exact v_6|exact v_7|exact v_8|exact v_9|exact rfl))|exact rfl)))) ?_)
  refine xr_op rfl rfl (xv_build bt59 rfl (by ((try apply evl_some rfl);(repeat (first|exact (rfl : _ = [])|apply evl_cons rfl (by (first|exact v_1|exact v_2|exact v_3|exact v_4|exact v_5|exact v_6|exact v_7|exact v_8|exact v_9|exact rfl))|exact rfl)))) ?_)
  refine xr_op rfl rfl ((al_buildSlice sl23 ty59 rfl rfl rfl rfl rfl (by ((try apply evl_some rfl);(repeat (first|exact (rfl : _ = [])|apply evl_cons rfl (by (first|exact v_1|exact v_2|exact v_3|exact v_4|exact v_5|exact v_6|exact v_7|exact v_8|exact v_9|exact rfl))|exact rfl))))).xv (fun bc hbc => ?_))
  refine xr_op rfl rfl (xv_build bt25 rfl (by ((try apply evl_some rfl);(repeat (first|exact (rfl : _ = [])|apply evl_cons rfl (by (first|exact v_1|exact v_2|exact v_3|exact v_4|exact v_5|exact v_6|exact v_7|exact v_8|exact v_9|exact rfl))|exact rfl)))) ?_)
  refine xr_op rfl rfl (xv_s ty25 rfl rfl (by (first|(apply u_3;(repeat first|exact u_0|assumption|apply u_1|apply u_2);done)|((repeat first|exact u_0|assumption|apply u_1|apply u_2);done)|(apply u_3;apply u_3;(repeat first|exact u_0|assumption|apply u_1|apply u_2);done)|((repeat first|exact u_0|assumption|apply u_3|apply u_1);done))) (by ((try apply evl_some rfl);(repeat (first|exact (rfl : _ = [])|apply evl_cons rfl (by (first|exact v_1|exact v_2|exact v_3|exact v_4|exact v_5|exact v_6|exact v_7|exact v_8|exact v_9|exact rfl))|exact rfl)))) (by rfl) (by rfl) (by rfl) (by ((try apply evl_some rfl);(repeat (first|exact (rfl : _ = [])|apply evl_cons rfl (by (first|exact v_1|exact v_2|exact v_3|exact v_4|exact v_5|exact v_6|exact v_7|exact v_8|exact v_9|exact rfl))|exact rfl)))) ?_)
  refine xr_end rfl ?_
  refine th_n ?_
  refine xc_ret ?_
  refine body_ret (h' := ((bc, .cells ⟨(sCards 47).flatMap eCard⟩ 59 (0, 0)) :: (bd, .cells ⟨sDials.flatMap eDial⟩ 45 (0, 0)) :: h)) rfl (ro_cellA ty25 rfl rfl (by ((repeat first|exact z_0|assumption|refine z_1 ?_|(refine z_l ?_;(repeat first|exact z_0|assumption|refine z_1 ?_);done)|refine z_r ?_);done)) (by rfl) (by rfl) ro_nil) (by (first|((repeat first|exact s_0|exact s_1|exact s_3|refine s_4 ?_|refine s_5 ?_|refine s_6 ?_|refine s_7 ?_);done)|((repeat first|exact s_0|exact s_1|exact s_3|refine s_4 ?_|refine s_5 ?_|refine s_6 ?_|refine s_8 ?_);done))) ?_
  exact H bd bc

end Go.Proofs.YtckaaaebegemoaaDoor
