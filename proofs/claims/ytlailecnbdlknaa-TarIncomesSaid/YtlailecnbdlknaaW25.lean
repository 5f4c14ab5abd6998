/-
  Walks.
-/
import Derived.Test.YtlailecnbdlknaaP13
namespace Go.Proofs.Ytlailecnbdlknaa
open Go Go.H
set_option maxRecDepth 100000
set_option maxHeartbeats 2000000
set_option linter.all false
theorem TarIncomes_c {y : Yard} {a a2 : Option Addr} {c c2 : Nat} {plan : List Int} {l : List Weigh} {h : Hp} {R : Ending → Hp → Prop} (hv : YardV h y) (hp : SlV h 1 eI a plan) (hl : SlV h 4 eWeigh a2 l) (H : R (.returned (.bool true)) h) :
    ACalls Try.prog 4 ⟨[.agg ⟨eYard y⟩, .slice a plan.length c, .slice a2 l.length c2]⟩ h R := by
  refine calls_of_xc (N := 115) Try.func4 rfl (by rfl) ?_
  refine xc_seq (xc_region ?_)
  refine xr_op rfl rfl (xv_box rfl (fun b3 hb3 => ?_))
  refine xr_op rfl rfl (xv_assign rfl ?_)
  refine xr_end rfl ?_
  refine th_n ?_
  refine xc_seq ?_
  refine xc_seq (xc_region ?_)
  refine xr_op rfl rfl (xv_loadA ty26 rfl rfl (by (first|((repeat first|exact z_0|assumption|refine z_1 ?_|refine z_r ?_);done)|((repeat refine z_1 ?_);refine z_l ?_;(repeat first|exact z_0|assumption|refine z_1 ?_|refine z_r ?_);done)|((repeat refine z_1 ?_);refine z_r ?_;(repeat refine z_1 ?_);refine z_l ?_;(repeat first|exact z_0|assumption|refine z_1 ?_|refine z_r ?_);done)|((repeat first|exact z_0|assumption|refine z_1 ?_|refine z_l ?_);done))) (by ((try apply evl_some rfl);(repeat (first|exact (rfl : _ = [])|apply evl_cons rfl (by (first|exact v_1|exact v_2|exact v_3|exact v_4|exact v_5|exact v_6|exact v_7|exact v_8|exact v_9|exact rfl))|exact rfl)))) (by rfl) ?_)
  refine xr_op rfl rfl (xv_calls rfl hb9 (large_c (hv.sub (by intro z hz; (first|((repeat first|exact z_0|assumption|refine z_1 ?_|refine z_r ?_);done)|((repeat refine z_1 ?_);refine z_l ?_;(repeat first|exact z_0|assumption|refine z_1 ?_|refine z_r ?_);done)|((repeat refine z_1 ?_);refine z_r ?_;(repeat refine z_1 ?_);refine z_l ?_;(repeat first|exact z_0|assumption|refine z_1 ?_|refine z_r ?_);done)|((repeat first|exact z_0|assumption|refine z_1 ?_|refine z_l ?_);done)))) (up_ret ?_) (fun hs => up_ret ?_)))
  · refine xr_op rfl rfl (xv_move rfl ?_)
    refine xr_no rfl rfl rfl rfl ?_
    refine xr_no rfl rfl rfl rfl ?_
    refine xr_no rfl rfl rfl rfl ?_
    refine xr_op rfl rfl (xv_pick rfl rfl ?_)
    refine xr_op rfl rfl (xv_move rfl ?_)
    refine xr_no rfl rfl rfl rfl ?_
    refine xr_no rfl rfl rfl rfl ?_
    refine xr_no rfl rfl rfl rfl ?_
    refine xr_op rfl rfl (xv_pick rfl rfl ?_)
    refine xr_end rfl ?_
    refine th_n ?_
    refine xc_true rfl ?_
    refine xc_seq (xc_region ?_)
    refine xr_op rfl rfl (xv_calls rfl hb10 (awake_c (up_ret ?_)))
    refine xr_op rfl rfl (xv_assign rfl ?_)
    refine xr_end rfl ?_
    refine th_n ?_
    refine xc_ret ?_
    refine th_r ?_
    refine body_ret (h' := h) rfl (ro_tmp rfl ro_nil) (by (first|((repeat first|exact s_0|exact s_1|exact s_3|refine s_4 ?_|refine s_5 ?_|refine s_6 ?_|refine s_7 ?_);done)|((repeat first|exact s_0|exact s_1|exact s_3|refine s_4 ?_|refine s_5 ?_|refine s_6 ?_|refine s_8 ?_);done))) ?_
    exact H
  · refine xr_op rfl rfl (xv_move rfl ?_)
    refine xr_gd rfl rfl rfl (xv_move rfl ?_)
    refine xr_gd rfl rfl rfl (xv_len sl22 rfl ?_)
    refine xr_gd rfl rfl rfl (xv_gtr2 rfl rfl (fun q1 => ?_) (fun q1 => ?_))
    · refine xr_op rfl rfl (xv_pick rfl rfl ?_)
      refine xr_op rfl rfl (xv_move rfl ?_)
      refine xr_no rfl rfl rfl rfl ?_
      refine xr_no rfl rfl rfl rfl ?_
      refine xr_no rfl rfl rfl rfl ?_
      refine xr_op rfl rfl (xv_pick rfl rfl ?_)
      refine xr_end rfl ?_
      refine th_n ?_
      refine xc_true rfl ?_
      refine xc_seq (xc_region ?_)
      refine xr_op rfl rfl (xv_calls rfl hb10 (awake_c (up_ret ?_)))
      refine xr_op rfl rfl (xv_assign rfl ?_)
      refine xr_end rfl ?_
      refine th_n ?_
      refine xc_ret ?_
      refine th_r ?_
      refine body_ret (h' := h) rfl (ro_tmp rfl ro_nil) (by (first|((repeat first|exact s_0|exact s_1|exact s_3|refine s_4 ?_|refine s_5 ?_|refine s_6 ?_|refine s_7 ?_);done)|((repeat first|exact s_0|exact s_1|exact s_3|refine s_4 ?_|refine s_5 ?_|refine s_6 ?_|refine s_8 ?_);done))) ?_
      exact H
    · refine xr_op rfl rfl (xv_pick rfl rfl ?_)
      refine xr_op rfl rfl (xv_move rfl ?_)
      refine xr_gd rfl rfl rfl (xv_move rfl ?_)
      refine xr_gd rfl rfl rfl (xv_len sl34 rfl ?_)
      refine xr_gd rfl rfl rfl (xv_gtr2 rfl rfl (fun q2 => ?_) (fun q2 => ?_))
      · refine xr_op rfl rfl (xv_pick rfl rfl ?_)
        refine xr_end rfl ?_
        refine th_n ?_
        refine xc_true rfl ?_
        refine xc_seq (xc_region ?_)
        refine xr_op rfl rfl (xv_calls rfl hb10 (awake_c (up_ret ?_)))
        refine xr_op rfl rfl (xv_assign rfl ?_)
        refine xr_end rfl ?_
        refine th_n ?_
        refine xc_ret ?_
        refine th_r ?_
        refine body_ret (h' := h) rfl (ro_tmp rfl ro_nil) (by (first|((repeat first|exact s_0|exact s_1|exact s_3|refine s_4 ?_|refine s_5 ?_|refine s_6 ?_|refine s_7 ?_);done)|((repeat first|exact s_0|exact s_1|exact s_3|refine s_4 ?_|refine s_5 ?_|refine s_6 ?_|refine s_8 ?_);done))) ?_
        exact H
      · refine xr_op rfl rfl (xv_pick rfl rfl ?_)
        refine xr_end rfl ?_
        refine th_n ?_
        refine xc_false rfl ?_
        refine xc_skip ?_
        refine th_n ?_
        refine xc_seq (xc_region ?_)
        replace hp := hp
        have hmy : (b3, Obj.cells ⟨eYard y⟩ 26 (0, 0)) ∈ [(b3, Obj.cells ⟨eYard y⟩ 26 (0, 0))] := List.mem_cons_self
        refine xr_op rfl rfl (xv_loadA ty26 rfl rfl (by (first|((repeat first|exact z_0|assumption|refine z_1 ?_|refine z_r ?_);done)|((repeat refine z_1 ?_);refine z_l ?_;(repeat first|exact z_0|assumption|refine z_1 ?_|refine z_r ?_);done)|((repeat refine z_1 ?_);refine z_r ?_;(repeat refine z_1 ?_);refine z_l ?_;(repeat first|exact z_0|assumption|refine z_1 ?_|refine z_r ?_);done)|((repeat first|exact z_0|assumption|refine z_1 ?_|refine z_l ?_);done))) (by ((try apply evl_some rfl);(repeat (first|exact (rfl : _ = [])|apply evl_cons rfl (by (first|exact v_1|exact v_2|exact v_3|exact v_4|exact v_5|exact v_6|exact v_7|exact v_8|exact v_9|exact rfl))|exact rfl)))) (by rfl) ?_)
        refine xr_op rfl rfl (xv_move rfl ?_)
        refine xr_op rfl rfl (xv_calls rfl hb14 (LeftU_c (hv.sub (by intro z hz; (first|((repeat first|exact z_0|assumption|refine z_1 ?_|refine z_r ?_);done)|((repeat refine z_1 ?_);refine z_l ?_;(repeat first|exact z_0|assumption|refine z_1 ?_|refine z_r ?_);done)|((repeat refine z_1 ?_);refine z_r ?_;(repeat refine z_1 ?_);refine z_l ?_;(repeat first|exact z_0|assumption|refine z_1 ?_|refine z_r ?_);done)|((repeat first|exact z_0|assumption|refine z_1 ?_|refine z_l ?_);done)))) hs (hp.sub (by intro z hz; (first|((repeat first|exact z_0|assumption|refine z_1 ?_|refine z_r ?_);done)|((repeat refine z_1 ?_);refine z_l ?_;(repeat first|exact z_0|assumption|refine z_1 ?_|refine z_r ?_);done)|((repeat refine z_1 ?_);refine z_r ?_;(repeat refine z_1 ?_);refine z_l ?_;(repeat first|exact z_0|assumption|refine z_1 ?_|refine z_r ?_);done)|((repeat first|exact z_0|assumption|refine z_1 ?_|refine z_l ?_);done)))) (fun p1 d1 q1 s1 => up_ret ?_)))
        refine xr_op rfl rfl (xv_move rfl ?_)
        refine xr_op rfl rfl (xv_extract rfl rfl ?_)
        refine xr_op rfl rfl (xv_extract rfl rfl ?_)
        refine xr_op rfl rfl (xv_assign rfl ?_)
        refine xr_op rfl rfl (xv_assign rfl ?_)
        refine xr_end rfl ?_
        refine th_n ?_
        refine xc_seq (xc_region ?_)
        refine xr_op rfl rfl (xv_loadA ty26 rfl rfl (by (first|((repeat first|exact z_0|assumption|refine z_1 ?_|refine z_r ?_);done)|((repeat refine z_1 ?_);refine z_l ?_;(repeat first|exact z_0|assumption|refine z_1 ?_|refine z_r ?_);done)|((repeat refine z_1 ?_);refine z_r ?_;(repeat refine z_1 ?_);refine z_l ?_;(repeat first|exact z_0|assumption|refine z_1 ?_|refine z_r ?_);done)|((repeat first|exact z_0|assumption|refine z_1 ?_|refine z_l ?_);done))) (by ((try apply evl_some rfl);(repeat (first|exact (rfl : _ = [])|apply evl_cons rfl (by (first|exact v_1|exact v_2|exact v_3|exact v_4|exact v_5|exact v_6|exact v_7|exact v_8|exact v_9|exact rfl))|exact rfl)))) (by rfl) ?_)
        refine xr_op rfl rfl (xv_move rfl ?_)
        refine xr_op rfl rfl (xv_calls rfl hb15 (refLeftU_c (hv.sub (by intro z hz; (first|((repeat first|exact z_0|assumption|refine z_1 ?_|refine z_r ?_);done)|((repeat refine z_1 ?_);refine z_l ?_;(repeat first|exact z_0|assumption|refine z_1 ?_|refine z_r ?_);done)|((repeat refine z_1 ?_);refine z_r ?_;(repeat refine z_1 ?_);refine z_l ?_;(repeat first|exact z_0|assumption|refine z_1 ?_|refine z_r ?_);done)|((repeat first|exact z_0|assumption|refine z_1 ?_|refine z_l ?_);done)))) (hp.sub (by intro z hz; (first|((repeat first|exact z_0|assumption|refine z_1 ?_|refine z_r ?_);done)|((repeat refine z_1 ?_);refine z_l ?_;(repeat first|exact z_0|assumption|refine z_1 ?_|refine z_r ?_);done)|((repeat refine z_1 ?_);refine z_r ?_;(repeat refine z_1 ?_);refine z_l ?_;(repeat first|exact z_0|assumption|refine z_1 ?_|refine z_r ?_);done)|((repeat first|exact z_0|assumption|refine z_1 ?_|refine z_l ?_);done)))) (fun p2 d2 q2 s2 => up_ret ?_)))
        refine xr_op rfl rfl (xv_move rfl ?_)
        refine xr_op rfl rfl (xv_extract rfl rfl ?_)
        refine xr_op rfl rfl (xv_extract rfl rfl ?_)
        refine xr_op rfl rfl (xv_assign rfl ?_)
        refine xr_op rfl rfl (xv_assign rfl ?_)
        refine xr_end rfl ?_
        refine th_n ?_
        refine xc_seq (xc_region ?_)
        refine xr_op rfl rfl (xv_loadA ty26 rfl rfl (by (first|((repeat first|exact z_0|assumption|refine z_1 ?_|refine z_r ?_);done)|((repeat refine z_1 ?_);refine z_l ?_;(repeat first|exact z_0|assumption|refine z_1 ?_|refine z_r ?_);done)|((repeat refine z_1 ?_);refine z_r ?_;(repeat refine z_1 ?_);refine z_l ?_;(repeat first|exact z_0|assumption|refine z_1 ?_|refine z_r ?_);done)|((repeat first|exact z_0|assumption|refine z_1 ?_|refine z_l ?_);done))) (by ((try apply evl_some rfl);(repeat (first|exact (rfl : _ = [])|apply evl_cons rfl (by (first|exact v_1|exact v_2|exact v_3|exact v_4|exact v_5|exact v_6|exact v_7|exact v_8|exact v_9|exact rfl))|exact rfl)))) (by rfl) ?_)
        refine xr_op rfl rfl (xv_move rfl ?_)
        refine xr_op rfl rfl (xv_calls rfl hb16 (IncomeU_c (hv.sub (by intro z hz; (first|((repeat first|exact z_0|assumption|refine z_1 ?_|refine z_r ?_);done)|((repeat refine z_1 ?_);refine z_l ?_;(repeat first|exact z_0|assumption|refine z_1 ?_|refine z_r ?_);done)|((repeat refine z_1 ?_);refine z_r ?_;(repeat refine z_1 ?_);refine z_l ?_;(repeat first|exact z_0|assumption|refine z_1 ?_|refine z_r ?_);done)|((repeat first|exact z_0|assumption|refine z_1 ?_|refine z_l ?_);done)))) hs (hp.sub (by intro z hz; (first|((repeat first|exact z_0|assumption|refine z_1 ?_|refine z_r ?_);done)|((repeat refine z_1 ?_);refine z_l ?_;(repeat first|exact z_0|assumption|refine z_1 ?_|refine z_r ?_);done)|((repeat refine z_1 ?_);refine z_r ?_;(repeat refine z_1 ?_);refine z_l ?_;(repeat first|exact z_0|assumption|refine z_1 ?_|refine z_r ?_);done)|((repeat first|exact z_0|assumption|refine z_1 ?_|refine z_l ?_);done)))) (fun p3 d3 q3 s3 => up_ret ?_)))
        refine xr_op rfl rfl (xv_move rfl ?_)
        refine xr_op rfl rfl (xv_extract rfl rfl ?_)
        refine xr_op rfl rfl (xv_extract rfl rfl ?_)
        refine xr_op rfl rfl (xv_extract rfl rfl ?_)
        refine xr_op rfl rfl (xv_assign rfl ?_)
        refine xr_op rfl rfl (xv_assign rfl ?_)
        refine xr_op rfl rfl (xv_assign rfl ?_)
        refine xr_end rfl ?_
        refine th_n ?_
        refine xc_seq (xc_region ?_)
        refine xr_op rfl rfl (xv_loadA ty26 rfl rfl (by (first|((repeat first|exact z_0|assumption|refine z_1 ?_|refine z_r ?_);done)|((repeat refine z_1 ?_);refine z_l ?_;(repeat first|exact z_0|assumption|refine z_1 ?_|refine z_r ?_);done)|((repeat refine z_1 ?_);refine z_r ?_;(repeat refine z_1 ?_);refine z_l ?_;(repeat first|exact z_0|assumption|refine z_1 ?_|refine z_r ?_);done)|((repeat first|exact z_0|assumption|refine z_1 ?_|refine z_l ?_);done))) (by ((try apply evl_some rfl);(repeat (first|exact (rfl : _ = [])|apply evl_cons rfl (by (first|exact v_1|exact v_2|exact v_3|exact v_4|exact v_5|exact v_6|exact v_7|exact v_8|exact v_9|exact rfl))|exact rfl)))) (by rfl) ?_)
        refine xr_op rfl rfl (xv_move rfl ?_)
        refine xr_op rfl rfl (xv_calls rfl hb17 (refIncomeU_c (hv.sub (by intro z hz; (first|((repeat first|exact z_0|assumption|refine z_1 ?_|refine z_r ?_);done)|((repeat refine z_1 ?_);refine z_l ?_;(repeat first|exact z_0|assumption|refine z_1 ?_|refine z_r ?_);done)|((repeat refine z_1 ?_);refine z_r ?_;(repeat refine z_1 ?_);refine z_l ?_;(repeat first|exact z_0|assumption|refine z_1 ?_|refine z_r ?_);done)|((repeat first|exact z_0|assumption|refine z_1 ?_|refine z_l ?_);done)))) (hp.sub (by intro z hz; (first|((repeat first|exact z_0|assumption|refine z_1 ?_|refine z_r ?_);done)|((repeat refine z_1 ?_);refine z_l ?_;(repeat first|exact z_0|assumption|refine z_1 ?_|refine z_r ?_);done)|((repeat refine z_1 ?_);refine z_r ?_;(repeat refine z_1 ?_);refine z_l ?_;(repeat first|exact z_0|assumption|refine z_1 ?_|refine z_r ?_);done)|((repeat first|exact z_0|assumption|refine z_1 ?_|refine z_l ?_);done)))) (fun p4 d4 q4 s4 => up_ret ?_)))
        refine xr_op rfl rfl (xv_move rfl ?_)
        refine xr_op rfl rfl (xv_extract rfl rfl ?_)
        refine xr_op rfl rfl (xv_extract rfl rfl ?_)
        refine xr_op rfl rfl (xv_extract rfl rfl ?_)
        refine xr_op rfl rfl (xv_assign rfl ?_)
        refine xr_op rfl rfl (xv_assign rfl ?_)
        refine xr_op rfl rfl (xv_assign rfl ?_)
        refine xr_end rfl ?_
        refine th_n ?_
        refine xc_seq (xc_region ?_)
        refine xr_op rfl rfl (xv_move rfl ?_)
        refine xr_op rfl rfl (xv_calls rfl hb18 (CarriedU_c (hl.sub (by intro z hz; (first|((repeat first|exact z_0|assumption|refine z_1 ?_|refine z_r ?_);done)|((repeat refine z_1 ?_);refine z_l ?_;(repeat first|exact z_0|assumption|refine z_1 ?_|refine z_r ?_);done)|((repeat refine z_1 ?_);refine z_r ?_;(repeat refine z_1 ?_);refine z_l ?_;(repeat first|exact z_0|assumption|refine z_1 ?_|refine z_r ?_);done)|((repeat first|exact z_0|assumption|refine z_1 ?_|refine z_l ?_);done)))) (by (first | omega | (dsimp only at *; omega) | (simp at *; omega))) (fun p5 d5 q5 s5 => up_ret ?_)))
        refine xr_op rfl rfl (xv_move rfl ?_)
        refine xr_op rfl rfl (xv_extract rfl rfl ?_)
        refine xr_op rfl rfl (xv_extract rfl rfl ?_)
        refine xr_op rfl rfl (xv_extract rfl rfl ?_)
        refine xr_op rfl rfl (xv_alloc ty41 (fun b18 hb18 => ?_))
        refine xr_op rfl rfl (xv_assign rfl ?_)
        refine xr_op rfl rfl (xv_s ty41 rfl rfl (by (first|(apply u_3;(repeat first|exact u_0|assumption|apply u_1|apply u_2);done)|((repeat first|exact u_0|assumption|apply u_1|apply u_2);done)|(apply u_3;apply u_3;(repeat first|exact u_0|assumption|apply u_1|apply u_2);done)|((repeat first|exact u_0|assumption|apply u_3|apply u_1);done))) (by ((try apply evl_some rfl);(repeat (first|exact (rfl : _ = [])|apply evl_cons rfl (by (first|exact v_1|exact v_2|exact v_3|exact v_4|exact v_5|exact v_6|exact v_7|exact v_8|exact v_9|exact rfl))|exact rfl)))) (by rfl) (by rfl) (by rfl) (by ((try apply evl_some rfl);(repeat (first|exact (rfl : _ = [])|apply evl_cons rfl (by (first|exact v_1|exact v_2|exact v_3|exact v_4|exact v_5|exact v_6|exact v_7|exact v_8|exact v_9|exact rfl))|exact rfl)))) ?_)
        refine xr_op rfl rfl (xv_assign rfl ?_)
        refine xr_end rfl ?_
        refine th_n ?_
        refine xc_seq (xc_region ?_)
        refine xr_op rfl rfl (xv_move rfl ?_)
        refine xr_op rfl rfl (xv_calls rfl hb19 (refCarriedU_c (hl.sub (by intro z hz; (first|((repeat first|exact z_0|assumption|refine z_1 ?_|refine z_r ?_);done)|((repeat refine z_1 ?_);refine z_l ?_;(repeat first|exact z_0|assumption|refine z_1 ?_|refine z_r ?_);done)|((repeat refine z_1 ?_);refine z_r ?_;(repeat refine z_1 ?_);refine z_l ?_;(repeat first|exact z_0|assumption|refine z_1 ?_|refine z_r ?_);done)|((repeat first|exact z_0|assumption|refine z_1 ?_|refine z_l ?_);done)))) (by (first | omega | (dsimp only at *; omega) | (simp at *; omega))) (fun p6 d6 q6 s6 => up_ret ?_)))
        refine xr_op rfl rfl (xv_move rfl ?_)
        refine xr_op rfl rfl (xv_extract rfl rfl ?_)
        refine xr_op rfl rfl (xv_extract rfl rfl ?_)
        refine xr_op rfl rfl (xv_extract rfl rfl ?_)
        refine xr_op rfl rfl (xv_alloc ty41 (fun b21 hb21 => ?_))
        refine xr_op rfl rfl (xv_assign rfl ?_)
        refine xr_op rfl rfl (xv_s ty41 rfl rfl (by (first|(apply u_3;(repeat first|exact u_0|assumption|apply u_1|apply u_2);done)|((repeat first|exact u_0|assumption|apply u_1|apply u_2);done)|(apply u_3;apply u_3;(repeat first|exact u_0|assumption|apply u_1|apply u_2);done)|((repeat first|exact u_0|assumption|apply u_3|apply u_1);done))) (by ((try apply evl_some rfl);(repeat (first|exact (rfl : _ = [])|apply evl_cons rfl (by (first|exact v_1|exact v_2|exact v_3|exact v_4|exact v_5|exact v_6|exact v_7|exact v_8|exact v_9|exact rfl))|exact rfl)))) (by rfl) (by rfl) (by rfl) (by ((try apply evl_some rfl);(repeat (first|exact (rfl : _ = [])|apply evl_cons rfl (by (first|exact v_1|exact v_2|exact v_3|exact v_4|exact v_5|exact v_6|exact v_7|exact v_8|exact v_9|exact rfl))|exact rfl)))) ?_)
        refine xr_op rfl rfl (xv_assign rfl ?_)
        refine xr_end rfl ?_
        refine th_n ?_
        refine xc_seq (xc_region ?_)
        refine xr_op rfl rfl (xv_move rfl ?_)
        refine xr_op rfl rfl (xv_move rfl ?_)
        refine xr_op rfl rfl (xv_calls rfl hb20 (SpansT_c (s1.sub (by ((intro q0 hq0;(repeat first|(with_reducible exact hq0)|(with_reducible exact z_l hq0)|(with_reducible refine z_1 ?_)|(with_reducible refine z_r ?_)))))) (s2.sub (by ((intro q0 hq0;(repeat first|(with_reducible exact hq0)|(with_reducible exact z_l hq0)|(with_reducible refine z_1 ?_)|(with_reducible refine z_r ?_)))))) (by have := leftR_le (plan := plan) hs; omega) (up_ret ?_)))
        refine xr_op rfl rfl (xv_move rfl ?_)
        refine xr_gd rfl rfl rfl (xv_move rfl ?_)
        refine xr_gd rfl rfl rfl (xv_move rfl ?_)
        refine xr_gd rfl rfl rfl (xv_eqlT rfl rfl rfl ?_)
        refine xr_op rfl rfl (xv_pick rfl rfl ?_)
        refine xr_op rfl rfl (xv_move rfl ?_)
        refine xr_gd rfl rfl rfl (xv_move rfl ?_)
        refine xr_gd rfl rfl rfl (xv_move rfl ?_)
        refine xr_gd rfl rfl rfl (xv_eqlT rfl rfl rfl ?_)
        refine xr_op rfl rfl (xv_pick rfl rfl ?_)
        refine xr_op rfl rfl (xv_move rfl ?_)
        refine xr_gd rfl rfl rfl (xv_move rfl ?_)
        refine xr_gd rfl rfl rfl (xv_move rfl ?_)
        refine xr_gd rfl rfl rfl (xv_calls rfl hb13 (IntsT_c (s3.sub (by ((intro q0 hq0;(repeat first|(with_reducible exact hq0)|(with_reducible exact z_l hq0)|(with_reducible refine z_1 ?_)|(with_reducible refine z_r ?_)))))) (s4.sub (by ((intro q0 hq0;(repeat first|(with_reducible exact hq0)|(with_reducible exact z_l hq0)|(with_reducible refine z_1 ?_)|(with_reducible refine z_r ?_)))))) (by have := incR_le (plan := plan) hs; omega) (up_ret ?_)))
        refine xr_op rfl rfl (xv_pick rfl rfl ?_)
        refine xr_op rfl rfl (xv_move rfl ?_)
        refine xr_gd rfl rfl rfl (xv_move rfl ?_)
        refine xr_gd rfl rfl rfl (xv_move rfl ?_)
        refine xr_gd rfl rfl rfl (xv_eqlT rfl rfl rfl ?_)
        refine xr_op rfl rfl (xv_pick rfl rfl ?_)
        refine xr_op rfl rfl (xv_move rfl ?_)
        refine xr_gd rfl rfl rfl (xv_move rfl ?_)
        refine xr_gd rfl rfl rfl (xv_move rfl ?_)
        refine xr_gd rfl rfl rfl (xv_calls rfl hb20 (SpansT_c (s5.sub (by ((intro q0 hq0;(repeat first|(with_reducible exact hq0)|(with_reducible exact z_l hq0)|(with_reducible refine z_1 ?_)|(with_reducible refine z_r ?_)))))) (s6.sub (by ((intro q0 hq0;(repeat first|(with_reducible exact hq0)|(with_reducible exact z_l hq0)|(with_reducible refine z_1 ?_)|(with_reducible refine z_r ?_)))))) (by have := @carR_le l; omega) (up_ret ?_)))
        refine xr_op rfl rfl (xv_pick rfl rfl ?_)
        refine xr_op rfl rfl (xv_move rfl ?_)
        refine xr_gd rfl rfl rfl (xv_loadA ty41 rfl rfl (by (first|((repeat first|exact z_0|assumption|refine z_1 ?_|refine z_r ?_);done)|((repeat refine z_1 ?_);refine z_l ?_;(repeat first|exact z_0|assumption|refine z_1 ?_|refine z_r ?_);done)|((repeat refine z_1 ?_);refine z_r ?_;(repeat refine z_1 ?_);refine z_l ?_;(repeat first|exact z_0|assumption|refine z_1 ?_|refine z_r ?_);done)|((repeat first|exact z_0|assumption|refine z_1 ?_|refine z_l ?_);done))) (by ((try apply evl_some rfl);(repeat (first|exact (rfl : _ = [])|apply evl_cons rfl (by (first|exact v_1|exact v_2|exact v_3|exact v_4|exact v_5|exact v_6|exact v_7|exact v_8|exact v_9|exact rfl))|exact rfl)))) (by rfl) ?_)
        refine xr_gd rfl rfl rfl (xv_loadA ty41 rfl rfl (by (first|((repeat first|exact z_0|assumption|refine z_1 ?_|refine z_r ?_);done)|((repeat refine z_1 ?_);refine z_l ?_;(repeat first|exact z_0|assumption|refine z_1 ?_|refine z_r ?_);done)|((repeat refine z_1 ?_);refine z_r ?_;(repeat refine z_1 ?_);refine z_l ?_;(repeat first|exact z_0|assumption|refine z_1 ?_|refine z_r ?_);done)|((repeat first|exact z_0|assumption|refine z_1 ?_|refine z_l ?_);done))) (by ((try apply evl_some rfl);(repeat (first|exact (rfl : _ = [])|apply evl_cons rfl (by (first|exact v_1|exact v_2|exact v_3|exact v_4|exact v_5|exact v_6|exact v_7|exact v_8|exact v_9|exact rfl))|exact rfl)))) (by rfl) ?_)
        refine xr_gd rfl rfl rfl (xv_eqA (b := true) fq41 rfl eg41 rfl rfl rfl rfl (by ((repeat' first | assumption | exact numNil | refine numCons ?_ | refine numApp ?_ ?_); done)) (by ((repeat' first | assumption | exact numNil | refine numCons ?_ | refine numApp ?_ ?_); done)) (eqc_self (by ((repeat' first | assumption | exact numNil | refine numCons ?_ | refine numApp ?_ ?_); done))) ?_)
        refine xr_op rfl rfl (xv_pick rfl rfl ?_)
        refine xr_op rfl rfl (xv_move rfl ?_)
        refine xr_gd rfl rfl rfl (xv_move rfl ?_)
        refine xr_gd rfl rfl rfl (xv_move rfl ?_)
        refine xr_gd rfl rfl rfl (xv_eqlT rfl rfl rfl ?_)
        refine xr_op rfl rfl (xv_pick rfl rfl ?_)
        refine xr_op rfl rfl (xv_move rfl ?_)
        refine xr_gd rfl rfl rfl (xv_calls rfl hb10 (awake_c (up_ret ?_)))
        refine xr_op rfl rfl (xv_pick rfl rfl ?_)
        refine xr_op rfl rfl (xv_assign rfl ?_)
        refine xr_end rfl ?_
        refine th_n ?_
        refine xc_ret ?_
        refine body_ret (h' := h) rfl (ro_tmp rfl ro_nil) (by (first|((repeat first|exact s_0|exact s_1|exact s_3|refine s_4 ?_|refine s_5 ?_|refine s_6 ?_|refine s_7 ?_);done)|((repeat first|exact s_0|exact s_1|exact s_3|refine s_4 ?_|refine s_5 ?_|refine s_6 ?_|refine s_8 ?_);done))) ?_
        exact H

end Go.Proofs.Ytlailecnbdlknaa
