/-
  Walks.
-/
import Derived.Test.YtjmailhoidenaaaW6
namespace Go.Proofs.Ytjmailhoidenaaa
open Go Go.H
set_option maxRecDepth 100000
set_option maxHeartbeats 2000000
set_option linter.all false
theorem Play_c {a al : Option Addr} {c cl : Nat} {w : House} {l : List Stoke} {h : Hp} {R : Ending → Hp → Prop} (hs : SlV h 2 eSpan a w.curve) (hlen : w.curve.length ≤ 4611686018427387904) (hl : SlV h 4 eStoke al l)
    (H1 : ∀ i e, play w l = .error (i, e) → R (.returned (.tuple ⟨[.agg ⟨eOvens (fun _ => ⟨0, 0, 0, 0, 0⟩)⟩, I i, I e]⟩)) h)
    (H2 : ∀ S, play w l = .ok S → S.Ok l.length → R (.returned (.tuple ⟨[.agg ⟨eOvens S.ov⟩, I l.length, I 0]⟩)) h) :
    ACalls Try.prog 11 ⟨[.agg ⟨eHouse a c w⟩, .slice al l.length cl]⟩ h R := by
  refine calls_of_xc (N := 25) Try.func11 rfl (by rfl) ?_
  refine xc_seq (xc_region ?_)
  refine xr_op rfl rfl (xv_box rfl (fun b1 hb1 => ?_))
  refine xr_op rfl rfl (xv_alloc ty30 (fun b2 hb2 => ?_))
  refine xr_op rfl rfl (xv_assign rfl ?_)
  refine xr_op rfl rfl (xv_assign rfl ?_)
  refine xr_end rfl ?_
  refine th_n ?_
  refine xc_seq (xc_region ?_)
  refine xr_op rfl rfl (xv_loadA ty24 rfl rfl (by (first|((repeat first|exact z_0|assumption|refine z_1 ?_|refine z_r ?_);done)|((repeat refine z_1 ?_);refine z_l ?_;(repeat first|exact z_0|assumption|refine z_1 ?_|refine z_r ?_);done)|((repeat refine z_1 ?_);refine z_r ?_;(repeat refine z_1 ?_);refine z_l ?_;(repeat first|exact z_0|assumption|refine z_1 ?_|refine z_r ?_);done)|((repeat first|exact z_0|assumption|refine z_1 ?_|refine z_l ?_);done))) (by ((try apply evl_some rfl);(repeat (first|exact (rfl : _ = [])|apply evl_cons rfl (by (first|exact v_1|exact v_2|exact v_3|exact v_4|exact v_5|exact v_6|exact v_7|exact v_8|exact v_9|exact rfl))|exact rfl)))) (by rfl) ?_)
  refine xr_op rfl rfl (xv_move rfl ?_)
  refine xr_op rfl rfl (xv_calls rfl hb23 (play_c (hs.sub (by intro z hz; (first|((repeat first|exact z_0|assumption|refine z_1 ?_|refine z_r ?_);done)|((repeat refine z_1 ?_);refine z_l ?_;(repeat first|exact z_0|assumption|refine z_1 ?_|refine z_r ?_);done)|((repeat refine z_1 ?_);refine z_r ?_;(repeat refine z_1 ?_);refine z_l ?_;(repeat first|exact z_0|assumption|refine z_1 ?_|refine z_r ?_);done)|((repeat first|exact z_0|assumption|refine z_1 ?_|refine z_l ?_);done)))) hlen (hl.sub (by intro z hz; (first|((repeat first|exact z_0|assumption|refine z_1 ?_|refine z_r ?_);done)|((repeat refine z_1 ?_);refine z_l ?_;(repeat first|exact z_0|assumption|refine z_1 ?_|refine z_r ?_);done)|((repeat refine z_1 ?_);refine z_r ?_;(repeat refine z_1 ?_);refine z_l ?_;(repeat first|exact z_0|assumption|refine z_1 ?_|refine z_r ?_);done)|((repeat first|exact z_0|assumption|refine z_1 ?_|refine z_l ?_);done)))) (fun i e hpe => up_ret ?_) (fun S bsh bm es cm V hpo hS hV hM => up_ret ?_)))
  · refine xr_op rfl rfl (xv_move rfl ?_)
    refine xr_op rfl rfl (xv_extract rfl rfl ?_)
    refine xr_op rfl rfl (xv_extract rfl rfl ?_)
    refine xr_op rfl rfl (xv_extract rfl rfl ?_)
    refine xr_op rfl rfl (xv_assign rfl ?_)
    refine xr_op rfl rfl (xv_assign rfl ?_)
    refine xr_op rfl rfl (xv_assign rfl ?_)
    refine xr_end rfl ?_
    refine th_n ?_
    refine xc_seq ?_
    refine xc_seq (xc_region ?_)
    refine xr_op rfl rfl (xv_move rfl ?_)
    refine xr_op rfl rfl (xv_neqT rfl rfl (play_err hpe) ?_)
    refine xr_end rfl ?_
    refine th_n ?_
    refine xc_true rfl ?_
    refine xc_seq (xc_region ?_)
    refine xr_op rfl rfl (xv_loadA ty30 rfl rfl (by (first|((repeat first|exact z_0|assumption|refine z_1 ?_|refine z_r ?_);done)|((repeat refine z_1 ?_);refine z_l ?_;(repeat first|exact z_0|assumption|refine z_1 ?_|refine z_r ?_);done)|((repeat refine z_1 ?_);refine z_r ?_;(repeat refine z_1 ?_);refine z_l ?_;(repeat first|exact z_0|assumption|refine z_1 ?_|refine z_r ?_);done)|((repeat first|exact z_0|assumption|refine z_1 ?_|refine z_l ?_);done))) (by ((try apply evl_some rfl);(repeat (first|exact (rfl : _ = [])|apply evl_cons rfl (by (first|exact v_1|exact v_2|exact v_3|exact v_4|exact v_5|exact v_6|exact v_7|exact v_8|exact v_9|exact rfl))|exact rfl)))) (by rfl) ?_)
    refine xr_op rfl rfl (xv_move rfl ?_)
    refine xr_op rfl rfl (xv_move rfl ?_)
    refine xr_op rfl rfl (xv_s ty30 rfl rfl (by (first|(apply u_3;(repeat first|exact u_0|assumption|apply u_1|apply u_2);done)|((repeat first|exact u_0|assumption|apply u_1|apply u_2);done)|(apply u_3;apply u_3;(repeat first|exact u_0|assumption|apply u_1|apply u_2);done)|((repeat first|exact u_0|assumption|apply u_3|apply u_1);done))) (by ((try apply evl_some rfl);(repeat (first|exact (rfl : _ = [])|apply evl_cons rfl (by (first|exact v_1|exact v_2|exact v_3|exact v_4|exact v_5|exact v_6|exact v_7|exact v_8|exact v_9|exact rfl))|exact rfl)))) (by rfl) (by rfl) (by rfl) (by ((try apply evl_some rfl);(repeat (first|exact (rfl : _ = [])|apply evl_cons rfl (by (first|exact v_1|exact v_2|exact v_3|exact v_4|exact v_5|exact v_6|exact v_7|exact v_8|exact v_9|exact rfl))|exact rfl)))) ?_)
    refine xr_op rfl rfl (xv_assign rfl ?_)
    refine xr_op rfl rfl (xv_assign rfl ?_)
    refine xr_end rfl ?_
    refine th_n ?_
    refine xc_ret ?_
    refine th_r ?_
    refine body_ret (h' := h) rfl (ro_cellA ty30 rfl rfl (by (first|((repeat first|exact z_0|assumption|refine z_1 ?_|refine z_r ?_);done)|((repeat refine z_1 ?_);refine z_l ?_;(repeat first|exact z_0|assumption|refine z_1 ?_|refine z_r ?_);done)|((repeat refine z_1 ?_);refine z_r ?_;(repeat refine z_1 ?_);refine z_l ?_;(repeat first|exact z_0|assumption|refine z_1 ?_|refine z_r ?_);done)|((repeat first|exact z_0|assumption|refine z_1 ?_|refine z_l ?_);done))) (by rfl) (by rfl) (ro_tmp rfl (ro_tmp rfl ro_nil))) (by (first|((repeat first|exact s_0|exact s_1|exact s_3|refine s_4 ?_|refine s_5 ?_|refine s_6 ?_|refine s_7 ?_);done)|((repeat first|exact s_0|exact s_1|exact s_3|refine s_4 ?_|refine s_5 ?_|refine s_6 ?_|refine s_8 ?_);done))) ?_
    first | exact H1 _ _ hpe | exact H2 S hpo hS
  · refine xr_op rfl rfl (xv_move rfl ?_)
    refine xr_op rfl rfl (xv_extract rfl rfl ?_)
    refine xr_op rfl rfl (xv_extract rfl rfl ?_)
    refine xr_op rfl rfl (xv_extract rfl rfl ?_)
    refine xr_op rfl rfl (xv_assign rfl ?_)
    refine xr_op rfl rfl (xv_assign rfl ?_)
    refine xr_op rfl rfl (xv_assign rfl ?_)
    refine xr_end rfl ?_
    refine th_n ?_
    refine xc_seq ?_
    refine xc_seq (xc_region ?_)
    refine xr_op rfl rfl (xv_move rfl ?_)
    refine xr_op rfl rfl (xv_neqF rfl rfl rfl ?_)
    refine xr_end rfl ?_
    refine th_n ?_
    refine xc_false rfl ?_
    refine xc_skip ?_
    refine th_n ?_
    refine xc_seq (xc_region ?_)
    refine xr_op rfl rfl (xv_move rfl ?_)
    refine xr_op rfl rfl (xv_nilp rfl ?_)
    refine xr_op rfl rfl (xv_faddr fl63_1 rfl ?_)
    refine xr_op rfl rfl (xv_loadA ty30 rfl rfl (by (first|((repeat first|exact z_0|assumption|refine z_1 ?_|refine z_r ?_);done)|((repeat refine z_1 ?_);refine z_l ?_;(repeat first|exact z_0|assumption|refine z_1 ?_|refine z_r ?_);done)|((repeat refine z_1 ?_);refine z_r ?_;(repeat refine z_1 ?_);refine z_l ?_;(repeat first|exact z_0|assumption|refine z_1 ?_|refine z_r ?_);done)|((repeat first|exact z_0|assumption|refine z_1 ?_|refine z_l ?_);done))) (by ((try apply evl_some rfl);(repeat (first|exact (rfl : _ = [])|apply evl_cons rfl (by (first|exact v_1|exact v_2|exact v_3|exact v_4|exact v_5|exact v_6|exact v_7|exact v_8|exact v_9|exact rfl))|exact rfl)))) (by rfl) ?_)
    refine xr_op rfl rfl (xv_move rfl ?_)
    refine xr_op rfl rfl (xv_s ty30 rfl rfl (by (first|(apply u_3;(repeat first|exact u_0|assumption|apply u_1|apply u_2);done)|((repeat first|exact u_0|assumption|apply u_1|apply u_2);done)|(apply u_3;apply u_3;(repeat first|exact u_0|assumption|apply u_1|apply u_2);done)|((repeat first|exact u_0|assumption|apply u_3|apply u_1);done))) (by ((try apply evl_some rfl);(repeat (first|exact (rfl : _ = [])|apply evl_cons rfl (by (first|exact v_1|exact v_2|exact v_3|exact v_4|exact v_5|exact v_6|exact v_7|exact v_8|exact v_9|exact rfl))|exact rfl)))) (by rfl) (by rfl) (by rfl) (by ((try apply evl_some rfl);(repeat (first|exact (rfl : _ = [])|apply evl_cons rfl (by (first|exact v_1|exact v_2|exact v_3|exact v_4|exact v_5|exact v_6|exact v_7|exact v_8|exact v_9|exact rfl))|exact rfl)))) ?_)
    refine xr_op rfl rfl (xv_assign rfl ?_)
    refine xr_op rfl rfl (xv_assign rfl ?_)
    refine xr_end rfl ?_
    refine th_n ?_
    refine xc_ret ?_
    refine body_ret (h' := h) rfl (ro_cellA ty30 rfl rfl (by (first|((repeat first|exact z_0|assumption|refine z_1 ?_|refine z_r ?_);done)|((repeat refine z_1 ?_);refine z_l ?_;(repeat first|exact z_0|assumption|refine z_1 ?_|refine z_r ?_);done)|((repeat refine z_1 ?_);refine z_r ?_;(repeat refine z_1 ?_);refine z_l ?_;(repeat first|exact z_0|assumption|refine z_1 ?_|refine z_r ?_);done)|((repeat first|exact z_0|assumption|refine z_1 ?_|refine z_l ?_);done))) (by rfl) (by rfl) (ro_tmp rfl (ro_tmp rfl ro_nil))) (by (first|((repeat first|exact s_0|exact s_1|exact s_3|refine s_4 ?_|refine s_5 ?_|refine s_6 ?_|refine s_7 ?_);done)|((repeat first|exact s_0|exact s_1|exact s_3|refine s_4 ?_|refine s_5 ?_|refine s_6 ?_|refine s_8 ?_);done))) ?_
    first | exact H1 _ _ hpe | exact H2 S hpo hS

end Go.Proofs.Ytjmailhoidenaaa
