/-
  Walks.
-/
import Derived.Test.YtlailecnbdlknaaP18
namespace Go.Proofs.Ytlailecnbdlknaa
open Go Go.H
set_option maxRecDepth 100000
set_option maxHeartbeats 2000000
set_option linter.all false
theorem TarTrue_can {y : Yard} {a a2 : Option Addr} {c c2 : Nat} {plan by_ : List Int} {h : Hp} {R : Ending → Hp → Prop} {g0 : Goods} (hy : GoodYard y) (hpl : plan.length = y.stills.length) (hpo : PlanOk y plan) (hsome : afterG y.stills plan (newG y) = some g0) (hL : leftR y plan = (gl g0 y.stock.length, 0)) (hI : incR y plan = (incomeY y plan g0, (sellY y g0).sold, 0)) (hv : YardV h y) (hp : SlV h 1 eI a plan) (hby : SlV h 1 eH a2 by_) (hbv : ∀ x ∈ by_, 0 ≤ x ∧ x ≤ 65535) (H : R (.returned (.bool true)) h) :
    ACalls Try.prog 5 ⟨[.agg ⟨eYard y⟩, .slice a plan.length c, .slice a2 by_.length c2]⟩ h R := by
  refine calls_of_xc (N := 467) Try.func5 rfl (by rfl) ?_
  have hv0 := hv
  refine xc_seq (xc_region ?_)
  refine xr_op rfl rfl (xv_box rfl (fun b3 hb3 => ?_))
  refine xr_op rfl rfl (xv_assign rfl ?_)
  refine xr_end rfl ?_
  refine th_n ?_
  refine xc_seq ?_
  refine xc_seq (xc_region ?_)
  refine xr_op rfl rfl (xv_loadA ty26 rfl rfl (by (first|((repeat first|exact z_0|assumption|refine z_1 ?_|refine z_r ?_);done)|((repeat refine z_1 ?_);refine z_l ?_;(repeat first|exact z_0|assumption|refine z_1 ?_|refine z_r ?_);done)|((repeat refine z_1 ?_);refine z_r ?_;(repeat refine z_1 ?_);refine z_l ?_;(repeat first|exact z_0|assumption|refine z_1 ?_|refine z_r ?_);done)|((repeat first|exact z_0|assumption|refine z_1 ?_|refine z_l ?_);done))) (by ((try apply evl_some rfl);(repeat (first|exact (rfl : _ = [])|apply evl_cons rfl (by (first|exact v_1|exact v_2|exact v_3|exact v_4|exact v_5|exact v_6|exact v_7|exact v_8|exact v_9|exact rfl))|exact rfl)))) (by rfl) ?_)
  refine xr_op rfl rfl (xv_calls rfl hb9 (large_c (hv.sub (by intro z hz; (first|((repeat first|exact z_0|assumption|refine z_1 ?_|refine z_r ?_);done)|((repeat refine z_1 ?_);refine z_l ?_;(repeat first|exact z_0|assumption|refine z_1 ?_|refine z_r ?_);done)|((repeat refine z_1 ?_);refine z_r ?_;(repeat refine z_1 ?_);refine z_l ?_;(repeat first|exact z_0|assumption|refine z_1 ?_|refine z_r ?_);done)|((repeat first|exact z_0|assumption|refine z_1 ?_|refine z_l ?_);done)))) (up_ret ?_) (fun hs => up_ret ?_)))
  · refine xr_op rfl rfl (xv_move rfl ?_)
    refine xr_no rfl rfl rfl rfl ?_
    refine xr_no rfl rfl rfl rfl ?_
    refine xr_no rfl rfl rfl rfl ?_
    refine xr_op rfl rfl (xv_pick rfl rfl ?_)
    refine xr_op rfl rfl (xv_move rfl ?_)
    refine xr_no rfl rfl rfl rfl ?_
    refine xr_no rfl rfl rfl rfl ?_
    refine xr_no rfl rfl rfl rfl ?_
    refine xr_op rfl rfl (xv_pick rfl rfl ?_)
    refine xr_end rfl ?_
    refine th_n ?_
    refine xc_true rfl ?_
    refine xc_seq (xc_region ?_)
    refine xr_op rfl rfl (xv_calls rfl hb10 (awake_c (up_ret ?_)))
    refine xr_op rfl rfl (xv_assign rfl ?_)
    refine xr_end rfl ?_
    refine th_n ?_
    refine xc_ret ?_
    refine th_r ?_
    refine body_ret (h' := h) rfl (ro_tmp rfl ro_nil) (by (first|((repeat first|exact s_0|exact s_1|exact s_3|refine s_4 ?_|refine s_5 ?_|refine s_6 ?_|refine s_7 ?_);done)|((repeat first|exact s_0|exact s_1|exact s_3|refine s_4 ?_|refine s_5 ?_|refine s_6 ?_|refine s_8 ?_);done))) ?_
    exact H
  · refine xr_op rfl rfl (xv_move rfl ?_)
    refine xr_gd rfl rfl rfl (xv_move rfl ?_)
    refine xr_gd rfl rfl rfl (xv_len sl22 rfl ?_)
    refine xr_gd rfl rfl rfl (xv_gtr2 rfl rfl (fun q1 => ?_) (fun q1 => ?_))
    · refine xr_op rfl rfl (xv_pick rfl rfl ?_)
      refine xr_op rfl rfl (xv_move rfl ?_)
      refine xr_no rfl rfl rfl rfl ?_
      refine xr_no rfl rfl rfl rfl ?_
      refine xr_no rfl rfl rfl rfl ?_
      refine xr_op rfl rfl (xv_pick rfl rfl ?_)
      refine xr_end rfl ?_
      refine th_n ?_
      refine xc_true rfl ?_
      refine xc_seq (xc_region ?_)
      refine xr_op rfl rfl (xv_calls rfl hb10 (awake_c (up_ret ?_)))
      refine xr_op rfl rfl (xv_assign rfl ?_)
      refine xr_end rfl ?_
      refine th_n ?_
      refine xc_ret ?_
      refine th_r ?_
      refine body_ret (h' := h) rfl (ro_tmp rfl ro_nil) (by (first|((repeat first|exact s_0|exact s_1|exact s_3|refine s_4 ?_|refine s_5 ?_|refine s_6 ?_|refine s_7 ?_);done)|((repeat first|exact s_0|exact s_1|exact s_3|refine s_4 ?_|refine s_5 ?_|refine s_6 ?_|refine s_8 ?_);done))) ?_
      exact H
    · refine xr_op rfl rfl (xv_pick rfl rfl ?_)
      refine xr_op rfl rfl (xv_move rfl ?_)
      refine xr_gd rfl rfl rfl (xv_move rfl ?_)
      refine xr_gd rfl rfl rfl (xv_len sl46 rfl ?_)
      refine xr_gd rfl rfl rfl (xv_eql2 rfl rfl (fun q2 => ?_) (fun q2 => ?_))
      · refine xr_op rfl rfl (xv_pick rfl rfl ?_)
        refine xr_end rfl ?_
        refine th_n ?_
        refine xc_true rfl ?_
        refine xc_seq (xc_region ?_)
        refine xr_op rfl rfl (xv_calls rfl hb10 (awake_c (up_ret ?_)))
        refine xr_op rfl rfl (xv_assign rfl ?_)
        refine xr_end rfl ?_
        refine th_n ?_
        refine xc_ret ?_
        refine th_r ?_
        refine body_ret (h' := h) rfl (ro_tmp rfl ro_nil) (by (first|((repeat first|exact s_0|exact s_1|exact s_3|refine s_4 ?_|refine s_5 ?_|refine s_6 ?_|refine s_7 ?_);done)|((repeat first|exact s_0|exact s_1|exact s_3|refine s_4 ?_|refine s_5 ?_|refine s_6 ?_|refine s_8 ?_);done))) ?_
        exact H
      · refine xr_op rfl rfl (xv_pick rfl rfl ?_)
        refine xr_end rfl ?_
        refine th_n ?_
        refine xc_false rfl ?_
        refine xc_skip ?_
        refine th_n ?_
        refine xc_seq (xc_region ?_)
        refine xr_op rfl rfl (xv_loadA ty26 rfl rfl (by (first|((repeat first|exact z_0|assumption|refine z_1 ?_|refine z_r ?_);done)|((repeat refine z_1 ?_);refine z_l ?_;(repeat first|exact z_0|assumption|refine z_1 ?_|refine z_r ?_);done)|((repeat refine z_1 ?_);refine z_r ?_;(repeat refine z_1 ?_);refine z_l ?_;(repeat first|exact z_0|assumption|refine z_1 ?_|refine z_r ?_);done)|((repeat first|exact z_0|assumption|refine z_1 ?_|refine z_l ?_);done))) (by ((try apply evl_some rfl);(repeat (first|exact (rfl : _ = [])|apply evl_cons rfl (by (first|exact v_1|exact v_2|exact v_3|exact v_4|exact v_5|exact v_6|exact v_7|exact v_8|exact v_9|exact rfl))|exact rfl)))) (by rfl) ?_)
        refine xr_op rfl rfl (xv_move rfl ?_)
        refine xr_op rfl rfl (xv_calls rfl hb14 (LeftU_c (hv.sub (by intro z hz; (first|((repeat first|exact z_0|assumption|refine z_1 ?_|refine z_r ?_);done)|((repeat refine z_1 ?_);refine z_l ?_;(repeat first|exact z_0|assumption|refine z_1 ?_|refine z_r ?_);done)|((repeat refine z_1 ?_);refine z_r ?_;(repeat refine z_1 ?_);refine z_l ?_;(repeat first|exact z_0|assumption|refine z_1 ?_|refine z_r ?_);done)|((repeat first|exact z_0|assumption|refine z_1 ?_|refine z_l ?_);done)))) hs (hp.sub (by intro z hz; (first|((repeat first|exact z_0|assumption|refine z_1 ?_|refine z_r ?_);done)|((repeat refine z_1 ?_);refine z_l ?_;(repeat first|exact z_0|assumption|refine z_1 ?_|refine z_r ?_);done)|((repeat refine z_1 ?_);refine z_r ?_;(repeat refine z_1 ?_);refine z_l ?_;(repeat first|exact z_0|assumption|refine z_1 ?_|refine z_r ?_);done)|((repeat first|exact z_0|assumption|refine z_1 ?_|refine z_l ?_);done)))) (fun p1 d1 q1 s1 => up_ret ?_)))
        refine xr_op rfl rfl (xv_move rfl ?_)
        refine xr_op rfl rfl (xv_extract rfl rfl ?_)
        refine xr_op rfl rfl (xv_extract rfl rfl ?_)
        refine xr_op rfl rfl (xv_assign rfl ?_)
        refine xr_op rfl rfl (xv_assign rfl ?_)
        refine xr_end rfl ?_
        refine th_n ?_
        refine xc_seq (xc_region ?_)
        refine xr_op rfl rfl (xv_loadA ty26 rfl rfl (by (first|((repeat first|exact z_0|assumption|refine z_1 ?_|refine z_r ?_);done)|((repeat refine z_1 ?_);refine z_l ?_;(repeat first|exact z_0|assumption|refine z_1 ?_|refine z_r ?_);done)|((repeat refine z_1 ?_);refine z_r ?_;(repeat refine z_1 ?_);refine z_l ?_;(repeat first|exact z_0|assumption|refine z_1 ?_|refine z_r ?_);done)|((repeat first|exact z_0|assumption|refine z_1 ?_|refine z_l ?_);done))) (by ((try apply evl_some rfl);(repeat (first|exact (rfl : _ = [])|apply evl_cons rfl (by (first|exact v_1|exact v_2|exact v_3|exact v_4|exact v_5|exact v_6|exact v_7|exact v_8|exact v_9|exact rfl))|exact rfl)))) (by rfl) ?_)
        refine xr_op rfl rfl (xv_move rfl ?_)
        refine xr_op rfl rfl (xv_calls rfl hb16 (IncomeU_c (hv.sub (by intro z hz; (first|((repeat first|exact z_0|assumption|refine z_1 ?_|refine z_r ?_);done)|((repeat refine z_1 ?_);refine z_l ?_;(repeat first|exact z_0|assumption|refine z_1 ?_|refine z_r ?_);done)|((repeat refine z_1 ?_);refine z_r ?_;(repeat refine z_1 ?_);refine z_l ?_;(repeat first|exact z_0|assumption|refine z_1 ?_|refine z_r ?_);done)|((repeat first|exact z_0|assumption|refine z_1 ?_|refine z_l ?_);done)))) hs (hp.sub (by intro z hz; (first|((repeat first|exact z_0|assumption|refine z_1 ?_|refine z_r ?_);done)|((repeat refine z_1 ?_);refine z_l ?_;(repeat first|exact z_0|assumption|refine z_1 ?_|refine z_r ?_);done)|((repeat refine z_1 ?_);refine z_r ?_;(repeat refine z_1 ?_);refine z_l ?_;(repeat first|exact z_0|assumption|refine z_1 ?_|refine z_r ?_);done)|((repeat first|exact z_0|assumption|refine z_1 ?_|refine z_l ?_);done)))) (fun p2 d2 q2 s2 => up_ret ?_)))
        refine xr_op rfl rfl (xv_move rfl ?_)
        refine xr_op rfl rfl (xv_extract rfl rfl ?_)
        refine xr_op rfl rfl (xv_extract rfl rfl ?_)
        refine xr_op rfl rfl (xv_extract rfl rfl ?_)
        refine xr_op rfl rfl (xv_assign rfl ?_)
        refine xr_op rfl rfl (xv_assign rfl ?_)
        refine xr_op rfl rfl (xv_assign rfl ?_)
        refine xr_end rfl ?_
        refine th_n ?_
        refine xc_seq ?_
        refine xc_seq (xc_region ?_)
        rw [hL] at s1 ⊢
        rw [hI] at s2 ⊢
        dsimp only at s1 s2 ⊢
        refine xr_op rfl rfl (xv_move rfl ?_)
        refine xr_op rfl rfl (xv_move rfl ?_)
        refine xr_op rfl rfl (xv_neqF rfl rfl rfl ?_)
        refine xr_op rfl rfl (xv_move rfl ?_)
        refine xr_gd rfl rfl rfl (xv_move rfl ?_)
        refine xr_gd rfl rfl rfl (xv_neqF rfl rfl rfl ?_)
        refine xr_gd rfl rfl rfl (xv_move rfl ?_)
        refine xr_no rfl rfl rfl rfl ?_
        refine xr_no rfl rfl rfl rfl ?_
        refine xr_no rfl rfl rfl rfl ?_
        refine xr_no rfl rfl rfl rfl ?_
        refine xr_nu rfl rfl rfl ?_
        refine xr_nu rfl rfl rfl ?_
        refine xr_no rfl rfl rfl rfl ?_
        refine xr_no rfl rfl rfl rfl ?_
        refine xr_nu rfl rfl rfl ?_
        refine xr_nu rfl rfl rfl ?_
        refine xr_nu rfl rfl rfl ?_
        refine xr_no rfl rfl rfl rfl ?_
        refine xr_gd rfl rfl rfl (xv_pick rfl rfl ?_)
        refine xr_op rfl rfl (xv_pick rfl rfl ?_)
        refine xr_end rfl ?_
        refine th_n ?_
        refine xc_false rfl ?_
        refine xc_skip ?_
        refine th_n ?_
        refine xc_seq ?_
        refine xc_seq (xc_region ?_)
        refine xr_op rfl rfl (xv_move rfl ?_)
        refine xr_op rfl rfl (xv_neqF rfl rfl rfl ?_)
        refine xr_op rfl rfl (xv_move rfl ?_)
        refine xr_no rfl rfl rfl rfl ?_
        refine xr_no rfl rfl rfl rfl ?_
        refine xr_op rfl rfl (xv_pick rfl rfl ?_)
        refine xr_end rfl ?_
        refine th_n ?_
        refine xc_false rfl ?_
        refine xc_skip ?_
        refine th_n ?_
        refine xc_seq ?_
        refine xc_seq (xc_region ?_)
        have hn1 := hy.n1
        have hn6 := hy.n6
        have hs4 := hy.s4
        have hs6 := hy.s6
        have hby1 : 0 < by_.length := by (first | omega | (dsimp only at *; omega) | (simp at *; omega))
        have hplen := pays_len hpl
        refine xr_op rfl rfl (xv_loadA ty26 rfl rfl (by (first|((repeat first|exact z_0|assumption|refine z_1 ?_|refine z_r ?_);done)|((repeat refine z_1 ?_);refine z_l ?_;(repeat first|exact z_0|assumption|refine z_1 ?_|refine z_r ?_);done)|((repeat refine z_1 ?_);refine z_r ?_;(repeat refine z_1 ?_);refine z_l ?_;(repeat first|exact z_0|assumption|refine z_1 ?_|refine z_r ?_);done)|((repeat first|exact z_0|assumption|refine z_1 ?_|refine z_l ?_);done))) (by ((try apply evl_some rfl);(repeat (first|exact (rfl : _ = [])|apply evl_cons rfl (by (first|exact v_1|exact v_2|exact v_3|exact v_4|exact v_5|exact v_6|exact v_7|exact v_8|exact v_9|exact rfl))|exact rfl)))) (by rfl) ?_)
        refine xr_op rfl rfl (xv_calls rfl hb21 (YardsT_c (hv.sub (by intro z hz; (first|((repeat first|exact z_0|assumption|refine z_1 ?_|refine z_r ?_);done)|((repeat refine z_1 ?_);refine z_l ?_;(repeat first|exact z_0|assumption|refine z_1 ?_|refine z_r ?_);done)|((repeat refine z_1 ?_);refine z_r ?_;(repeat refine z_1 ?_);refine z_l ?_;(repeat first|exact z_0|assumption|refine z_1 ?_|refine z_r ?_);done)|((repeat first|exact z_0|assumption|refine z_1 ?_|refine z_l ?_);done)))) hy (up_ret ?_)))
        refine xr_op rfl rfl (xv_not rfl ?_)
        refine xr_op rfl rfl (xv_move rfl ?_)
        refine xr_gd rfl rfl rfl (xv_move rfl ?_)
        refine xr_gd rfl rfl rfl (xv_len sl22 rfl ?_)
        refine xr_gd rfl rfl rfl (xv_faddr fl26_1 rfl ?_)
        refine xr_gd rfl rfl rfl (xv_load1 ty23 rfl rfl (by (first|((repeat first|exact z_0|assumption|refine z_1 ?_|refine z_r ?_);done)|((repeat refine z_1 ?_);refine z_l ?_;(repeat first|exact z_0|assumption|refine z_1 ?_|refine z_r ?_);done)|((repeat refine z_1 ?_);refine z_r ?_;(repeat refine z_1 ?_);refine z_l ?_;(repeat first|exact z_0|assumption|refine z_1 ?_|refine z_r ?_);done)|((repeat first|exact z_0|assumption|refine z_1 ?_|refine z_l ?_);done))) (by rfl) ?_)
        refine xr_gd rfl rfl rfl (xv_len sl23 rfl ?_)
        refine xr_gd rfl rfl rfl (xv_neqF rfl rfl (by omega) ?_)
        refine xr_op rfl rfl (xv_pick rfl rfl ?_)
        refine xr_end rfl ?_
        refine th_n ?_
        refine xc_false rfl ?_
        refine xc_skip ?_
        refine th_n ?_
        refine xc_seq ?_
        refine xc_drawL (L := [(b3, fun o => o = .cells ⟨eYard y⟩ 26 (0, 0))]) [(0, .P), (1, .S), (2, .S), (4, .P), (5, .S), (6, .S), (0, .A), (3, .O), (4, .A), (7, .O), (8, .S), (9, .S)] [] _ mixed (by kernel_rfl) (by rw [List.append_nil]) ((holds1 (by (first|((repeat first|exact z_0|assumption|refine z_1 ?_|refine z_r ?_);done)|((repeat refine z_1 ?_);refine z_l ?_;(repeat first|exact z_0|assumption|refine z_1 ?_|refine z_r ?_);done)|((repeat refine z_1 ?_);refine z_r ?_;(repeat refine z_1 ?_);refine z_l ?_;(repeat first|exact z_0|assumption|refine z_1 ?_|refine z_r ?_);done)|((repeat first|exact z_0|assumption|refine z_1 ?_|refine z_l ?_);done))) rfl)) ?_
        refine js_P rfl rfl rfl (al_buildSlice sl22 ty3 rfl rfl rfl rfl rfl (by ((try apply evl_some rfl);(repeat (first|exact (rfl : _ = [])|apply evl_cons rfl (by (first|exact v_1|exact v_2|exact v_3|exact v_4|exact v_5|exact v_6|exact v_7|exact v_8|exact v_9|exact rfl))|exact rfl))))) ?_
        refine js_S rfl rfl (.inl rfl) (xv_faddr fl26_0 rfl ⟨rfl, rfl⟩) ?_
        refine js_I rfl rfl (.inl rfl) (fun hh hv => by obtain ⟨o, hm, rfl⟩ := hv b3 _ List.mem_cons_self; exact xv_load1 ty22 rfl rfl (List.mem_append_left _ hm) rfl ⟨rfl, rfl⟩) ?_
        refine js_P rfl rfl rfl (al_buildSlice sl22 ty3 rfl rfl rfl rfl rfl (by ((try apply evl_some rfl);(repeat (first|exact (rfl : _ = [])|apply evl_cons rfl (by (first|exact v_1|exact v_2|exact v_3|exact v_4|exact v_5|exact v_6|exact v_7|exact v_8|exact v_9|exact rfl))|exact rfl))))) ?_
        refine js_S rfl rfl (.inl rfl) (xv_faddr fl26_0 rfl ⟨rfl, rfl⟩) ?_
        refine js_I rfl rfl (.inl rfl) (fun hh hv => by obtain ⟨o, hm, rfl⟩ := hv b3 _ List.mem_cons_self; exact xv_load1 ty22 rfl rfl (List.mem_append_left _ hm) rfl ⟨rfl, rfl⟩) ?_
        refine js_A0 rfl rfl rfl rfl rfl trivial (fun b6 hb6 => ?_)
        refine js_OL0 rfl rfl (.inl rfl) (xv_copy (enc := eI) (xs := y.stock) sl22 ty3 rfl rfl rfl rfl (hv0.stock.sub (by ((intro q0 hq0;(repeat first|(with_reducible exact hq0)|(with_reducible exact z_l hq0)|(with_reducible refine z_1 ?_)|(with_reducible refine z_r ?_)))))) eI_len eI_1 (by simp only []; omega) (by omega) (fun VT hVT => ?_))
        refine ⟨(holds1 (by (first|((repeat first|exact z_0|assumption|refine z_1 ?_|refine z_r ?_);done)|((repeat refine z_1 ?_);refine z_l ?_;(repeat first|exact z_0|assumption|refine z_1 ?_|refine z_r ?_);done)|((repeat refine z_1 ?_);refine z_r ?_;(repeat refine z_1 ?_);refine z_l ?_;(repeat first|exact z_0|assumption|refine z_1 ?_|refine z_r ?_);done)|((repeat first|exact z_0|assumption|refine z_1 ?_|refine z_l ?_);done))) rfl), ?_⟩
        refine js_A0 rfl rfl rfl rfl rfl trivial (fun b7 hb7 => ?_)
        refine js_OL0 rfl rfl (.inl rfl) (xv_copy (enc := eI) (xs := y.stock) sl22 ty3 rfl rfl rfl rfl (hv0.stock.sub (by ((intro q0 hq0;(repeat first|(with_reducible exact hq0)|(with_reducible exact z_l hq0)|(with_reducible refine z_1 ?_)|(with_reducible refine z_r ?_)))))) eI_len eI_1 (by simp only []; omega) (by omega) (fun VL hVL => ?_))
        refine ⟨(holds1 (by (first|((repeat first|exact z_0|assumption|refine z_1 ?_|refine z_r ?_);done)|((repeat refine z_1 ?_);refine z_l ?_;(repeat first|exact z_0|assumption|refine z_1 ?_|refine z_r ?_);done)|((repeat refine z_1 ?_);refine z_r ?_;(repeat refine z_1 ?_);refine z_l ?_;(repeat first|exact z_0|assumption|refine z_1 ?_|refine z_r ?_);done)|((repeat first|exact z_0|assumption|refine z_1 ?_|refine z_l ?_);done))) rfl), ?_⟩
        refine js_S rfl rfl (.inl rfl) (xv_assign rfl ⟨rfl, rfl⟩) ?_
        refine js_S rfl rfl (.inl rfl) (xv_assign rfl ⟨rfl, rfl⟩) ?_
        refine j_end0 ?_
        refine th_n ?_
        refine xc_seq (xc_region ?_)
        obtain ⟨bT, cT, spT, rfl⟩ := Vec.at_pos hVT (by omega)
        obtain ⟨bL, cL, spL, rfl⟩ := Vec.at_pos hVL (by omega)
        simp only [hp_at, val_at, List.cons_append, List.nil_append]
        rw [show y.stock.flatMap eI = (ll (loOf (newG y)) y.stock.length).flatMap eI from congrArg (List.flatMap eI) (stock_ll y)]
        refine xr_op rfl rfl (xv_assign rfl ?_)
        refine xr_op rfl rfl (xv_assign rfl ?_)
        refine xr_op rfl rfl (xv_assign rfl ?_)
        refine xr_op rfl rfl (xv_assign rfl ?_)
        refine xr_end rfl ?_
        refine th_n ?_
        refine xc_seq ?_
        refine xc_seq (xc_region ?_)
        refine xr_op rfl rfl (xv_assign rfl ?_)
        refine xr_end rfl ?_
        refine th_n ?_
        refine xc_block ?_
        refine xc_loop (σ := S5) (fun w => w.k ≤ plan.length ∧ w.r ≤ 8 * w.k ∧ w.z ≤ 6 * w.r ∧ Bd w.r (loOf w.G) ∧ Bd w.r w.T ∧ Within w.G w.T ∧ Fe y plan w.k w.G w.sh ∧ (w.lk = true → w.sh = true)) (fun w => ((((((((((((((emp.put (some 1) (.slice a plan.length c)).put (some 2) (.slice a2 by_.length c2)).put (some 3) (.pointer (some ⟨b3, 0, none⟩))).put (some 7) (.slice p1 (gl g0 y.stock.length).length d1)).put (some 8) (I 0)).put (some 9) (I (incomeY y plan g0))).put (some 10) (.slice p2 (sellY y g0).sold.length d2)).put (some 12) (.slice (some ⟨bT, 0, none⟩) y.stock.length cT)).put (some 13) (.slice (some ⟨bL, 0, none⟩) y.stock.length cL)).put (some 14) (I w.z)).put (some 15) (.bool w.lk)).put (some 16) (.bool w.sh)).put (some 17) (I (-((pays y.stills plan).take w.k).sum))).put (some 18) (I w.k))) (fun w => ((bL, .cells ⟨(ll (loOf w.G) y.stock.length).flatMap eI ++ spL⟩ 3) :: (bT, .cells ⟨(ll w.T y.stock.length).flatMap eI ++ spT⟩ 3) :: (q2 ++ (q1 ++ (b3, .cells ⟨eYard y⟩ 26) :: h)))) (fun w => plan.length - w.k) (⟨0, newG y, loOf (newG y), false, false, 0, 0⟩ : S5) ⟨Nat.zero_le _, Nat.le_refl _, Nat.le_refl _, bd_new hy, bd_new hy, within_new, ⟨fun _ => ⟨rfl, GB.new hy⟩, fun hq => (Bool.false_ne_true hq).elim⟩, fun hq => (Bool.false_ne_true hq).elim⟩ (le_put (le_put (le_put (le_put (le_put (le_put (le_put (le_put (le_put (le_put (le_put (le_put (le_put (le_put (le_emp _) rfl) rfl) rfl) rfl) rfl) rfl) rfl) rfl) rfl) rfl) rfl) rfl) rfl) rfl) (by (first|((repeat first|exact s_0|exact s_1|exact s_3|refine s_4 ?_|refine s_5 ?_|refine s_6 ?_|refine s_7 ?_);done)|((repeat first|exact s_0|exact s_1|exact s_3|refine s_4 ?_|refine s_5 ?_|refine s_6 ?_|refine s_8 ?_);done))) ?_
        rintro ⟨k, G, T, lk, sh, z, r⟩ ⟨hk, hr, hz, hbL, hbT, hwi, hfe, hfl⟩
        dsimp only at hk hr hz hbL hbT hwi hfe hfl
        refine xc_seq ?_
        refine xc_seq (xc_region ?_)
        refine xr_op rfl rfl (xv_move rfl ?_)
        refine xr_op rfl rfl (xv_move rfl ?_)
        refine xr_op rfl rfl (xv_len sl22 rfl ?_)
        refine xr_op rfl rfl (xv_lss2 rfl rfl (fun q8 => ?_) (fun q8 => ?_))
        · refine xr_end rfl ?_
          refine th_n ?_
          refine xc_true rfl ?_
          refine xc_skip ?_
          refine th_n ?_
          refine xc_seq ?_
          refine xc_block ?_
          refine xc_seq (xc_region ?_)
          have hlto : k < y.stills.length := by (first | omega | (dsimp only at *; omega) | (simp at *; omega))
          obtain ⟨bo, oo, lo, to, fzo, hao, hmo, hxo⟩ := (hv.stills).at hlto
          obtain ⟨xo, hko⟩ : ∃ qq_, y.stills[k]? = some qq_ := ⟨_, List.getElem?_eq_getElem hlto⟩
          have hltp : k < plan.length := by (first | omega | (dsimp only at *; omega) | (simp at *; omega))
          obtain ⟨bp, op, lp, tp, fzp, hap, hmp, hxp⟩ := (hp).at hltp
          obtain ⟨xp, hkp⟩ : ∃ qq_, plan[k]? = some qq_ := ⟨_, List.getElem?_eq_getElem hltp⟩
          have hso := hy.stills k xo hko
          have hpb := hpo k xo xp hko hkp
          have hib := hy.inb hko
          have hmo := hso.2.2.2.2.1
          have hti := hso.1
          have htk := hso.2.1
          have hpay := hso.2.2.2.1
          have hin : xo.in_.toNat < y.stock.length := by omega
          have hol := hso.2.2.1
          have hps := sum_bd (xs := (pays y.stills plan).take k) (fun x hx => pays_bd hy hpo (List.mem_of_mem_take hx))
          rw [List.length_take, Nat.min_eq_left (by omega)] at hps
          refine xr_op rfl rfl (xv_faddr fl26_1 rfl ?_)
          refine xr_op rfl rfl (xv_load1 ty23 rfl rfl (by (first|((repeat first|exact z_0|assumption|refine z_1 ?_|refine z_r ?_);done)|((repeat refine z_1 ?_);refine z_l ?_;(repeat first|exact z_0|assumption|refine z_1 ?_|refine z_r ?_);done)|((repeat refine z_1 ?_);refine z_r ?_;(repeat refine z_1 ?_);refine z_l ?_;(repeat first|exact z_0|assumption|refine z_1 ?_|refine z_r ?_);done)|((repeat first|exact z_0|assumption|refine z_1 ?_|refine z_l ?_);done))) (by rfl) ?_)
          refine xr_op rfl rfl (xv_move rfl ?_)
          refine xr_op rfl rfl (xv_ia (sz := 5) (j := k) sl23 ty48 rfl (by rw [hao]; rfl) rfl (by (first | assumption | with_reducible exact Int.toNat_natCast _ | with_reducible rfl | rfl)) (by (first | omega | (dsimp only at *; omega) | (simp at *; omega))) (by (first | omega | (dsimp only at *; omega) | (simp at *; omega))) ?_)
          refine xr_op rfl rfl (xv_loadA ty48 rfl rfl (by (first|((repeat first|exact z_0|assumption|refine z_1 ?_|refine z_r ?_);done)|((repeat refine z_1 ?_);refine z_l ?_;(repeat first|exact z_0|assumption|refine z_1 ?_|refine z_r ?_);done)|((repeat refine z_1 ?_);refine z_r ?_;(repeat refine z_1 ?_);refine z_l ?_;(repeat first|exact z_0|assumption|refine z_1 ?_|refine z_r ?_);done)|((repeat first|exact z_0|assumption|refine z_1 ?_|refine z_l ?_);done))) (hxo (k) xo hko) rfl ?_)
          refine xr_op rfl rfl (xv_alloc ty48 (fun b19 hb19 => ?_))
          refine xr_op rfl rfl (xv_s ty48 rfl rfl (by (first|(apply u_3;(repeat first|exact u_0|assumption|apply u_1|apply u_2);done)|((repeat first|exact u_0|assumption|apply u_1|apply u_2);done)|(apply u_3;apply u_3;(repeat first|exact u_0|assumption|apply u_1|apply u_2);done)|((repeat first|exact u_0|assumption|apply u_3|apply u_1);done))) (by ((try apply evl_some rfl);(repeat (first|exact (rfl : _ = [])|apply evl_cons rfl (by (first|exact v_1|exact v_2|exact v_3|exact v_4|exact v_5|exact v_6|exact v_7|exact v_8|exact v_9|exact rfl))|exact rfl)))) (by rfl) (by rfl) (by rfl) (by ((try apply evl_some rfl);(repeat (first|exact (rfl : _ = [])|apply evl_cons rfl (by (first|exact v_1|exact v_2|exact v_3|exact v_4|exact v_5|exact v_6|exact v_7|exact v_8|exact v_9|exact rfl))|exact rfl)))) ?_)
          refine xr_end rfl ?_
          refine th_n ?_
          refine xc_seq (xc_region ?_)
          refine xr_op rfl rfl (xv_assign rfl ?_)
          refine xr_end rfl ?_
          refine th_n ?_
          refine xc_block ?_
          refine xc_loop (σ := S6) (fun w => w.n ≤ xp.toNat ∧ w.z ≤ 6 * (r + w.n) ∧ Bd (r + w.n) (loOf (workG xo w.n G)) ∧ Bd (r + w.n) w.T ∧ Within (workG xo w.n G) w.T ∧ Fi y plan k xo w.n G w.sh ∧ (w.lk = true → w.sh = true)) (fun w => ((((((((((((((((emp.put (some 1) (.slice a plan.length c)).put (some 2) (.slice a2 by_.length c2)).put (some 3) (.pointer (some ⟨b3, 0, none⟩))).put (some 7) (.slice p1 (gl g0 y.stock.length).length d1)).put (some 8) (I 0)).put (some 9) (I (incomeY y plan g0))).put (some 10) (.slice p2 (sellY y g0).sold.length d2)).put (some 12) (.slice (some ⟨bT, 0, none⟩) y.stock.length cT)).put (some 13) (.slice (some ⟨bL, 0, none⟩) y.stock.length cL)).put (some 14) (I w.z)).put (some 15) (.bool w.lk)).put (some 16) (.bool w.sh)).put (some 17) (I (-((pays y.stills plan).take k).sum + w.n * xo.pay))).put (some 18) (I k)).put (some 19) (.pointer (some ⟨b19, 0, none⟩))).put (some 20) (I w.n))) (fun w => ((b19, .cells ⟨eStill xo⟩ 48) :: (bL, .cells ⟨(ll (loOf (workG xo w.n G)) y.stock.length).flatMap eI ++ spL⟩ 3) :: (bT, .cells ⟨(ll w.T y.stock.length).flatMap eI ++ spT⟩ 3) :: (q2 ++ (q1 ++ (b3, .cells ⟨eYard y⟩ 26) :: h)))) (fun w => xp.toNat - w.n) (⟨0, T, lk, sh, z⟩ : S6) ⟨Nat.zero_le _, hz, by dsimp only; rw [work_zero]; exact hbL, hbT, by dsimp only; rw [work_zero]; exact hwi, hfe.start, hfl⟩ (le_put (le_put (le_put (le_put (le_put (le_put (le_put (le_put (le_put (le_put (le_put (le_put (le_put (le_put (le_put (le_put (le_emp _) rfl) rfl) rfl) rfl) rfl) rfl) rfl) rfl) rfl) rfl) rfl) rfl) (by dsimp only; rw [Int.natCast_zero, Int.zero_mul, Int.add_zero]; rfl)) rfl) rfl) rfl) (by dsimp only; rw [work_zero]; (first|((repeat first|exact s_0|exact s_1|exact s_3|refine s_4 ?_|refine s_5 ?_|refine s_6 ?_|refine s_7 ?_);done)|((repeat first|exact s_0|exact s_1|exact s_3|refine s_4 ?_|refine s_5 ?_|refine s_6 ?_|refine s_8 ?_);done))) ?_
          rintro ⟨n, T2, lk2, sh2, z2⟩ ⟨hnn2, hz2, hbL2, hbT2, hwi2, hfi, hfl2⟩
          dsimp only at hnn2 hz2 hbL2 hbT2 hwi2 hfi hfl2
          have hmn := mul_bd (a := (n : Int)) (b := xo.pay) (A := 8) (B := 1000000) (by omega) (by omega) hso.2.2.2.1.1 hso.2.2.2.1.2
          refine xc_seq ?_
          refine xc_seq (xc_region ?_)
          refine xr_op rfl rfl (xv_move rfl ?_)
          refine xr_op rfl rfl (xv_move rfl ?_)
          refine xr_op rfl rfl (xv_move rfl ?_)
          refine xr_op rfl rfl (xv_ia (sz := 1) (j := k) sl22 ty3 rfl (by rw [hap]; rfl) rfl (by (first | assumption | with_reducible exact Int.toNat_natCast _ | with_reducible rfl | rfl)) (by (first | omega | (dsimp only at *; omega) | (simp at *; omega))) (by (first | omega | (dsimp only at *; omega) | (simp at *; omega))) ?_)
          refine xr_op rfl rfl (xv_load1 ty3 rfl rfl (by (first|((repeat first|exact z_0|assumption|refine z_1 ?_|refine z_r ?_);done)|((repeat refine z_1 ?_);refine z_l ?_;(repeat first|exact z_0|assumption|refine z_1 ?_|refine z_r ?_);done)|((repeat refine z_1 ?_);refine z_r ?_;(repeat refine z_1 ?_);refine z_l ?_;(repeat first|exact z_0|assumption|refine z_1 ?_|refine z_r ?_);done)|((repeat first|exact z_0|assumption|refine z_1 ?_|refine z_l ?_);done))) (take_get (hxp (k) xp hkp) (j := 0) rfl) ?_)
          refine xr_op rfl rfl (xv_lss2 rfl rfl (fun q9 => ?_) (fun q9 => ?_))
          · refine xr_end rfl ?_
            refine th_n ?_
            refine xc_true rfl ?_
            refine xc_skip ?_
            refine th_n ?_
            refine xc_seq ?_
            refine xc_block ?_
            refine xc_join (σ := Bool × Bool) (fun f => Fi y plan k xo ((n + 1 : Nat) : Int) G f.2 ∧ (f.1 = true → f.2 = true)) (fun f => ((((((((((((((((emp.put (some 1) (.slice a plan.length c)).put (some 2) (.slice a2 by_.length c2)).put (some 3) (.pointer (some ⟨b3, 0, none⟩))).put (some 7) (.slice p1 (gl g0 y.stock.length).length d1)).put (some 8) (I 0)).put (some 9) (I (incomeY y plan g0))).put (some 10) (.slice p2 (sellY y g0).sold.length d2)).put (some 12) (.slice (some ⟨bT, 0, none⟩) y.stock.length cT)).put (some 13) (.slice (some ⟨bL, 0, none⟩) y.stock.length cL)).put (some 14) (I z2)).put (some 15) (.bool f.1)).put (some 16) (.bool f.2)).put (some 17) (I (-((pays y.stills plan).take k).sum + n * xo.pay))).put (some 18) (I k)).put (some 19) (.pointer (some ⟨b19, 0, none⟩))).put (some 20) (I n))) (fun f => ((b19, .cells ⟨eStill xo⟩ 48) :: (bL, .cells ⟨(ll (loOf (workG xo n G)) y.stock.length).flatMap eI ++ spL⟩ 3) :: (bT, .cells ⟨(ll T2 y.stock.length).flatMap eI ++ spT⟩ 3) :: (q2 ++ (q1 ++ (b3, .cells ⟨eYard y⟩ 26) :: h)))) ?_ ?_
            · cases lk2 <;> cases sh2
              · refine xc_draw0 [(0, .S), (1, .S), (2, .S), (3, .S), (4, .R), (5, .S), (6, .R), (7, .S), (8, .R), (9, .S), (10, .S), (11, .S), (12, .S), (13, .S), (14, .S), (15, .R), (16, .S), (17, .R), (18, .S), (19, .R), (20, .S), (21, .S), (22, .S), (23, .S)] mixed (by kernel_rfl) ?_
                have hst := hfi.step (T := T2) hso hib.1 hko hkp (by (first | omega | (dsimp only at *; omega) | (simp at *; omega))) hwi2 hfl2
                rw [show (n : Int) + 1 = ((n + 1 : Nat) : Int) by omega] at hst
                refine js_S rfl rfl (.inl rfl) (xv_move rfl ⟨rfl, rfl⟩) ?_
                refine js_S rfl rfl (.inl rfl) (xv_move rfl ⟨rfl, rfl⟩) ?_
                refine js_S rfl rfl (.inr ⟨_, _, rfl, rfl⟩) (xv_move rfl ⟨rfl, rfl⟩) ?_
                refine js_S rfl rfl (.inr ⟨_, _, rfl, rfl⟩) (xv_faddr fl48_0 rfl ⟨rfl, rfl⟩) ?_
                refine js_R0 rfl rfl (.inr ⟨_, _, rfl, rfl⟩) (xv_load1 ty3 rfl rfl (by (first|((repeat first|exact z_0|assumption|refine z_1 ?_|refine z_r ?_);done)|((repeat refine z_1 ?_);refine z_l ?_;(repeat first|exact z_0|assumption|refine z_1 ?_|refine z_r ?_);done)|((repeat refine z_1 ?_);refine z_r ?_;(repeat refine z_1 ?_);refine z_l ?_;(repeat first|exact z_0|assumption|refine z_1 ?_|refine z_r ?_);done)|((repeat first|exact z_0|assumption|refine z_1 ?_|refine z_l ?_);done))) (by rfl) ⟨rfl, rfl⟩) ?_
                refine js_S rfl rfl (.inr ⟨_, _, rfl, rfl⟩) (xv_ia (sz := 1) (j := xo.in_.toNat) sl22 ty3 rfl rfl rfl rfl (by (first | omega | (dsimp only at *; omega) | (simp at *; omega))) (by (first | omega | (dsimp only at *; omega) | (simp at *; omega))) ⟨rfl, rfl⟩) ?_
                refine js_R0 rfl rfl (.inr ⟨_, _, rfl, rfl⟩) (xv_load1 ty3 rfl rfl (by (first|((repeat first|exact z_0|assumption|refine z_1 ?_|refine z_r ?_);done)|((repeat refine z_1 ?_);refine z_l ?_;(repeat first|exact z_0|assumption|refine z_1 ?_|refine z_r ?_);done)|((repeat refine z_1 ?_);refine z_r ?_;(repeat refine z_1 ?_);refine z_l ?_;(repeat first|exact z_0|assumption|refine z_1 ?_|refine z_r ?_);done)|((repeat first|exact z_0|assumption|refine z_1 ?_|refine z_l ?_);done))) (li_get hin) ⟨rfl, rfl⟩) ?_
                refine js_S rfl rfl (.inr ⟨_, _, rfl, rfl⟩) (xv_faddr fl48_1 rfl ⟨rfl, rfl⟩) ?_
                refine js_R0 rfl rfl (.inr ⟨_, _, rfl, rfl⟩) (xv_load1 ty3 rfl rfl (by (first|((repeat first|exact z_0|assumption|refine z_1 ?_|refine z_r ?_);done)|((repeat refine z_1 ?_);refine z_l ?_;(repeat first|exact z_0|assumption|refine z_1 ?_|refine z_r ?_);done)|((repeat refine z_1 ?_);refine z_r ?_;(repeat refine z_1 ?_);refine z_l ?_;(repeat first|exact z_0|assumption|refine z_1 ?_|refine z_r ?_);done)|((repeat first|exact z_0|assumption|refine z_1 ?_|refine z_l ?_);done))) (by rfl) ⟨rfl, rfl⟩) ?_
                refine js_S rfl rfl (.inr ⟨_, _, rfl, rfl⟩) (xv_cmpK (c := decide (T2 xo.in_.toNat < xo.takes)) rfl rfl rfl ⟨rfl, rfl⟩) ?_
                refine js_S rfl rfl (.inl rfl) (xv_pick rfl rfl ⟨rfl, rfl⟩) ?_
                refine js_S rfl rfl (.inl rfl) (xv_move rfl ⟨rfl, rfl⟩) ?_
                refine js_S rfl rfl (.inl rfl) (xv_move rfl ⟨rfl, rfl⟩) ?_
                refine js_S rfl rfl (.inr ⟨_, _, rfl, rfl⟩) (xv_move rfl ⟨rfl, rfl⟩) ?_
                refine js_S rfl rfl (.inr ⟨_, _, rfl, rfl⟩) (xv_faddr fl48_0 rfl ⟨rfl, rfl⟩) ?_
                refine js_R0 rfl rfl (.inr ⟨_, _, rfl, rfl⟩) (xv_load1 ty3 rfl rfl (by (first|((repeat first|exact z_0|assumption|refine z_1 ?_|refine z_r ?_);done)|((repeat refine z_1 ?_);refine z_l ?_;(repeat first|exact z_0|assumption|refine z_1 ?_|refine z_r ?_);done)|((repeat refine z_1 ?_);refine z_r ?_;(repeat refine z_1 ?_);refine z_l ?_;(repeat first|exact z_0|assumption|refine z_1 ?_|refine z_r ?_);done)|((repeat first|exact z_0|assumption|refine z_1 ?_|refine z_l ?_);done))) (by rfl) ⟨rfl, rfl⟩) ?_
                refine js_S rfl rfl (.inr ⟨_, _, rfl, rfl⟩) (xv_ia (sz := 1) (j := xo.in_.toNat) sl22 ty3 rfl rfl rfl rfl (by (first | omega | (dsimp only at *; omega) | (simp at *; omega))) (by (first | omega | (dsimp only at *; omega) | (simp at *; omega))) ⟨rfl, rfl⟩) ?_
                refine js_R0 rfl rfl (.inr ⟨_, _, rfl, rfl⟩) (xv_load1 ty3 rfl rfl (by (first|((repeat first|exact z_0|assumption|refine z_1 ?_|refine z_r ?_);done)|((repeat refine z_1 ?_);refine z_l ?_;(repeat first|exact z_0|assumption|refine z_1 ?_|refine z_r ?_);done)|((repeat refine z_1 ?_);refine z_r ?_;(repeat refine z_1 ?_);refine z_l ?_;(repeat first|exact z_0|assumption|refine z_1 ?_|refine z_r ?_);done)|((repeat first|exact z_0|assumption|refine z_1 ?_|refine z_l ?_);done))) (li_get hin) ⟨rfl, rfl⟩) ?_
                refine js_S rfl rfl (.inr ⟨_, _, rfl, rfl⟩) (xv_faddr fl48_1 rfl ⟨rfl, rfl⟩) ?_
                refine js_R0 rfl rfl (.inr ⟨_, _, rfl, rfl⟩) (xv_load1 ty3 rfl rfl (by (first|((repeat first|exact z_0|assumption|refine z_1 ?_|refine z_r ?_);done)|((repeat refine z_1 ?_);refine z_l ?_;(repeat first|exact z_0|assumption|refine z_1 ?_|refine z_r ?_);done)|((repeat refine z_1 ?_);refine z_r ?_;(repeat refine z_1 ?_);refine z_l ?_;(repeat first|exact z_0|assumption|refine z_1 ?_|refine z_r ?_);done)|((repeat first|exact z_0|assumption|refine z_1 ?_|refine z_l ?_);done))) (by rfl) ⟨rfl, rfl⟩) ?_
                refine js_S rfl rfl (.inr ⟨_, _, rfl, rfl⟩) (xv_cmpK (c := decide (((workG xo n G) xo.in_.toNat).lo < xo.takes)) rfl rfl rfl ⟨rfl, rfl⟩) ?_
                refine js_S rfl rfl (.inl rfl) (xv_pick rfl rfl ⟨rfl, rfl⟩) ?_
                refine js_S rfl rfl (.inl rfl) (xv_assign rfl ⟨rfl, rfl⟩) ?_
                refine js_S rfl rfl (.inl rfl) (xv_assign rfl ⟨rfl, rfl⟩) ?_
                refine j_end0 ?_
                exact jn_n (((decide (T2 xo.in_.toNat < xo.takes)), (decide (((workG xo n G) xo.in_.toNat).lo < xo.takes))) : Bool × Bool) hst (le_put (le_put (le_put (le_put (le_put (le_put (le_put (le_put (le_put (le_put (le_put (le_put (le_put (le_put (le_put (le_put (le_emp _) rfl) rfl) rfl) rfl) rfl) rfl) rfl) rfl) rfl) rfl) rfl) rfl) rfl) rfl) rfl) rfl) (by (first|((repeat first|exact s_0|exact s_1|exact s_3|refine s_4 ?_|refine s_5 ?_|refine s_6 ?_|refine s_7 ?_);done)|((repeat first|exact s_0|exact s_1|exact s_3|refine s_4 ?_|refine s_5 ?_|refine s_6 ?_|refine s_8 ?_);done)))
              · refine xc_draw0 [(0, .S), (1, .S), (2, .S), (3, .S), (4, .R), (5, .S), (6, .R), (7, .S), (8, .R), (9, .S), (10, .S), (11, .S), (12, .S), (13, .S), (14, .S), (15, .R), (16, .S), (17, .R), (18, .S), (19, .R), (20, .S), (21, .S), (22, .S), (23, .S)] mixed (by kernel_rfl) ?_
                have hst := hfi.step (T := T2) hso hib.1 hko hkp (by (first | omega | (dsimp only at *; omega) | (simp at *; omega))) hwi2 hfl2
                rw [show (n : Int) + 1 = ((n + 1 : Nat) : Int) by omega] at hst
                refine js_S rfl rfl (.inl rfl) (xv_move rfl ⟨rfl, rfl⟩) ?_
                refine js_S rfl rfl (.inl rfl) (xv_move rfl ⟨rfl, rfl⟩) ?_
                refine js_S rfl rfl (.inr ⟨_, _, rfl, rfl⟩) (xv_move rfl ⟨rfl, rfl⟩) ?_
                refine js_S rfl rfl (.inr ⟨_, _, rfl, rfl⟩) (xv_faddr fl48_0 rfl ⟨rfl, rfl⟩) ?_
                refine js_R0 rfl rfl (.inr ⟨_, _, rfl, rfl⟩) (xv_load1 ty3 rfl rfl (by (first|((repeat first|exact z_0|assumption|refine z_1 ?_|refine z_r ?_);done)|((repeat refine z_1 ?_);refine z_l ?_;(repeat first|exact z_0|assumption|refine z_1 ?_|refine z_r ?_);done)|((repeat refine z_1 ?_);refine z_r ?_;(repeat refine z_1 ?_);refine z_l ?_;(repeat first|exact z_0|assumption|refine z_1 ?_|refine z_r ?_);done)|((repeat first|exact z_0|assumption|refine z_1 ?_|refine z_l ?_);done))) (by rfl) ⟨rfl, rfl⟩) ?_
                refine js_S rfl rfl (.inr ⟨_, _, rfl, rfl⟩) (xv_ia (sz := 1) (j := xo.in_.toNat) sl22 ty3 rfl rfl rfl rfl (by (first | omega | (dsimp only at *; omega) | (simp at *; omega))) (by (first | omega | (dsimp only at *; omega) | (simp at *; omega))) ⟨rfl, rfl⟩) ?_
                refine js_R0 rfl rfl (.inr ⟨_, _, rfl, rfl⟩) (xv_load1 ty3 rfl rfl (by (first|((repeat first|exact z_0|assumption|refine z_1 ?_|refine z_r ?_);done)|((repeat refine z_1 ?_);refine z_l ?_;(repeat first|exact z_0|assumption|refine z_1 ?_|refine z_r ?_);done)|((repeat refine z_1 ?_);refine z_r ?_;(repeat refine z_1 ?_);refine z_l ?_;(repeat first|exact z_0|assumption|refine z_1 ?_|refine z_r ?_);done)|((repeat first|exact z_0|assumption|refine z_1 ?_|refine z_l ?_);done))) (li_get hin) ⟨rfl, rfl⟩) ?_
                refine js_S rfl rfl (.inr ⟨_, _, rfl, rfl⟩) (xv_faddr fl48_1 rfl ⟨rfl, rfl⟩) ?_
                refine js_R0 rfl rfl (.inr ⟨_, _, rfl, rfl⟩) (xv_load1 ty3 rfl rfl (by (first|((repeat first|exact z_0|assumption|refine z_1 ?_|refine z_r ?_);done)|((repeat refine z_1 ?_);refine z_l ?_;(repeat first|exact z_0|assumption|refine z_1 ?_|refine z_r ?_);done)|((repeat refine z_1 ?_);refine z_r ?_;(repeat refine z_1 ?_);refine z_l ?_;(repeat first|exact z_0|assumption|refine z_1 ?_|refine z_r ?_);done)|((repeat first|exact z_0|assumption|refine z_1 ?_|refine z_l ?_);done))) (by rfl) ⟨rfl, rfl⟩) ?_
                refine js_S rfl rfl (.inr ⟨_, _, rfl, rfl⟩) (xv_cmpK (c := decide (T2 xo.in_.toNat < xo.takes)) rfl rfl rfl ⟨rfl, rfl⟩) ?_
                refine js_S rfl rfl (.inl rfl) (xv_pick rfl rfl ⟨rfl, rfl⟩) ?_
                refine js_S rfl rfl (.inl rfl) (xv_move rfl ⟨rfl, rfl⟩) ?_
                refine js_S rfl rfl (.inl rfl) (xv_move rfl ⟨rfl, rfl⟩) ?_
                refine js_Ss rfl rfl ⟨_, _, _, rfl, rfl, rfl⟩ ?_
                refine js_Ss rfl rfl ⟨_, _, _, rfl, rfl, rfl⟩ ?_
                refine js_Rs rfl rfl ⟨_, _, _, rfl, rfl, rfl⟩ ?_
                refine js_Ss rfl rfl ⟨_, _, _, rfl, rfl, rfl⟩ ?_
                refine js_Rs rfl rfl ⟨_, _, _, rfl, rfl, rfl⟩ ?_
                refine js_Ss rfl rfl ⟨_, _, _, rfl, rfl, rfl⟩ ?_
                refine js_Rs rfl rfl ⟨_, _, _, rfl, rfl, rfl⟩ ?_
                refine js_Ss rfl rfl ⟨_, _, _, rfl, rfl, rfl⟩ ?_
                refine js_S rfl rfl (.inl rfl) (xv_pick rfl rfl ⟨rfl, rfl⟩) ?_
                refine js_S rfl rfl (.inl rfl) (xv_assign rfl ⟨rfl, rfl⟩) ?_
                refine js_S rfl rfl (.inl rfl) (xv_assign rfl ⟨rfl, rfl⟩) ?_
                refine j_end0 ?_
                exact jn_n (((decide (T2 xo.in_.toNat < xo.takes)), true) : Bool × Bool) hst (le_put (le_put (le_put (le_put (le_put (le_put (le_put (le_put (le_put (le_put (le_put (le_put (le_put (le_put (le_put (le_put (le_emp _) rfl) rfl) rfl) rfl) rfl) rfl) rfl) rfl) rfl) rfl) rfl) rfl) rfl) rfl) rfl) rfl) (by (first|((repeat first|exact s_0|exact s_1|exact s_3|refine s_4 ?_|refine s_5 ?_|refine s_6 ?_|refine s_7 ?_);done)|((repeat first|exact s_0|exact s_1|exact s_3|refine s_4 ?_|refine s_5 ?_|refine s_6 ?_|refine s_8 ?_);done)))
              · refine xc_draw0 [(0, .S), (1, .S), (2, .S), (3, .S), (4, .R), (5, .S), (6, .R), (7, .S), (8, .R), (9, .S), (10, .S), (11, .S), (12, .S), (13, .S), (14, .S), (15, .R), (16, .S), (17, .R), (18, .S), (19, .R), (20, .S), (21, .S), (22, .S), (23, .S)] mixed (by kernel_rfl) ?_
                have hst := hfi.step (T := T2) hso hib.1 hko hkp (by (first | omega | (dsimp only at *; omega) | (simp at *; omega))) hwi2 hfl2
                rw [show (n : Int) + 1 = ((n + 1 : Nat) : Int) by omega] at hst
                refine js_S rfl rfl (.inl rfl) (xv_move rfl ⟨rfl, rfl⟩) ?_
                refine js_S rfl rfl (.inl rfl) (xv_move rfl ⟨rfl, rfl⟩) ?_
                refine js_Ss rfl rfl ⟨_, _, _, rfl, rfl, rfl⟩ ?_
                refine js_Ss rfl rfl ⟨_, _, _, rfl, rfl, rfl⟩ ?_
                refine js_Rs rfl rfl ⟨_, _, _, rfl, rfl, rfl⟩ ?_
                refine js_Ss rfl rfl ⟨_, _, _, rfl, rfl, rfl⟩ ?_
                refine js_Rs rfl rfl ⟨_, _, _, rfl, rfl, rfl⟩ ?_
                refine js_Ss rfl rfl ⟨_, _, _, rfl, rfl, rfl⟩ ?_
                refine js_Rs rfl rfl ⟨_, _, _, rfl, rfl, rfl⟩ ?_
                refine js_Ss rfl rfl ⟨_, _, _, rfl, rfl, rfl⟩ ?_
                refine js_S rfl rfl (.inl rfl) (xv_pick rfl rfl ⟨rfl, rfl⟩) ?_
                refine js_S rfl rfl (.inl rfl) (xv_move rfl ⟨rfl, rfl⟩) ?_
                refine js_S rfl rfl (.inl rfl) (xv_move rfl ⟨rfl, rfl⟩) ?_
                refine js_S rfl rfl (.inr ⟨_, _, rfl, rfl⟩) (xv_move rfl ⟨rfl, rfl⟩) ?_
                refine js_S rfl rfl (.inr ⟨_, _, rfl, rfl⟩) (xv_faddr fl48_0 rfl ⟨rfl, rfl⟩) ?_
                refine js_R0 rfl rfl (.inr ⟨_, _, rfl, rfl⟩) (xv_load1 ty3 rfl rfl (by (first|((repeat first|exact z_0|assumption|refine z_1 ?_|refine z_r ?_);done)|((repeat refine z_1 ?_);refine z_l ?_;(repeat first|exact z_0|assumption|refine z_1 ?_|refine z_r ?_);done)|((repeat refine z_1 ?_);refine z_r ?_;(repeat refine z_1 ?_);refine z_l ?_;(repeat first|exact z_0|assumption|refine z_1 ?_|refine z_r ?_);done)|((repeat first|exact z_0|assumption|refine z_1 ?_|refine z_l ?_);done))) (by rfl) ⟨rfl, rfl⟩) ?_
                refine js_S rfl rfl (.inr ⟨_, _, rfl, rfl⟩) (xv_ia (sz := 1) (j := xo.in_.toNat) sl22 ty3 rfl rfl rfl rfl (by (first | omega | (dsimp only at *; omega) | (simp at *; omega))) (by (first | omega | (dsimp only at *; omega) | (simp at *; omega))) ⟨rfl, rfl⟩) ?_
                refine js_R0 rfl rfl (.inr ⟨_, _, rfl, rfl⟩) (xv_load1 ty3 rfl rfl (by (first|((repeat first|exact z_0|assumption|refine z_1 ?_|refine z_r ?_);done)|((repeat refine z_1 ?_);refine z_l ?_;(repeat first|exact z_0|assumption|refine z_1 ?_|refine z_r ?_);done)|((repeat refine z_1 ?_);refine z_r ?_;(repeat refine z_1 ?_);refine z_l ?_;(repeat first|exact z_0|assumption|refine z_1 ?_|refine z_r ?_);done)|((repeat first|exact z_0|assumption|refine z_1 ?_|refine z_l ?_);done))) (li_get hin) ⟨rfl, rfl⟩) ?_
                refine js_S rfl rfl (.inr ⟨_, _, rfl, rfl⟩) (xv_faddr fl48_1 rfl ⟨rfl, rfl⟩) ?_
                refine js_R0 rfl rfl (.inr ⟨_, _, rfl, rfl⟩) (xv_load1 ty3 rfl rfl (by (first|((repeat first|exact z_0|assumption|refine z_1 ?_|refine z_r ?_);done)|((repeat refine z_1 ?_);refine z_l ?_;(repeat first|exact z_0|assumption|refine z_1 ?_|refine z_r ?_);done)|((repeat refine z_1 ?_);refine z_r ?_;(repeat refine z_1 ?_);refine z_l ?_;(repeat first|exact z_0|assumption|refine z_1 ?_|refine z_r ?_);done)|((repeat first|exact z_0|assumption|refine z_1 ?_|refine z_l ?_);done))) (by rfl) ⟨rfl, rfl⟩) ?_
                refine js_S rfl rfl (.inr ⟨_, _, rfl, rfl⟩) (xv_cmpK (c := decide (((workG xo n G) xo.in_.toNat).lo < xo.takes)) rfl rfl rfl ⟨rfl, rfl⟩) ?_
                refine js_S rfl rfl (.inl rfl) (xv_pick rfl rfl ⟨rfl, rfl⟩) ?_
                refine js_S rfl rfl (.inl rfl) (xv_assign rfl ⟨rfl, rfl⟩) ?_
                refine js_S rfl rfl (.inl rfl) (xv_assign rfl ⟨rfl, rfl⟩) ?_
                refine j_end0 ?_
                exact jn_n ((true, (decide (((workG xo n G) xo.in_.toNat).lo < xo.takes))) : Bool × Bool) hst (le_put (le_put (le_put (le_put (le_put (le_put (le_put (le_put (le_put (le_put (le_put (le_put (le_put (le_put (le_put (le_put (le_emp _) rfl) rfl) rfl) rfl) rfl) rfl) rfl) rfl) rfl) rfl) rfl) rfl) rfl) rfl) rfl) rfl) (by (first|((repeat first|exact s_0|exact s_1|exact s_3|refine s_4 ?_|refine s_5 ?_|refine s_6 ?_|refine s_7 ?_);done)|((repeat first|exact s_0|exact s_1|exact s_3|refine s_4 ?_|refine s_5 ?_|refine s_6 ?_|refine s_8 ?_);done)))
              · refine xc_draw0 [(0, .S), (1, .S), (2, .S), (3, .S), (4, .R), (5, .S), (6, .R), (7, .S), (8, .R), (9, .S), (10, .S), (11, .S), (12, .S), (13, .S), (14, .S), (15, .R), (16, .S), (17, .R), (18, .S), (19, .R), (20, .S), (21, .S), (22, .S), (23, .S)] mixed (by kernel_rfl) ?_
                have hst := hfi.step (T := T2) hso hib.1 hko hkp (by (first | omega | (dsimp only at *; omega) | (simp at *; omega))) hwi2 hfl2
                rw [show (n : Int) + 1 = ((n + 1 : Nat) : Int) by omega] at hst
                refine js_S rfl rfl (.inl rfl) (xv_move rfl ⟨rfl, rfl⟩) ?_
                refine js_S rfl rfl (.inl rfl) (xv_move rfl ⟨rfl, rfl⟩) ?_
                refine js_Ss rfl rfl ⟨_, _, _, rfl, rfl, rfl⟩ ?_
                refine js_Ss rfl rfl ⟨_, _, _, rfl, rfl, rfl⟩ ?_
                refine js_Rs rfl rfl ⟨_, _, _, rfl, rfl, rfl⟩ ?_
                refine js_Ss rfl rfl ⟨_, _, _, rfl, rfl, rfl⟩ ?_
                refine js_Rs rfl rfl ⟨_, _, _, rfl, rfl, rfl⟩ ?_
                refine js_Ss rfl rfl ⟨_, _, _, rfl, rfl, rfl⟩ ?_
                refine js_Rs rfl rfl ⟨_, _, _, rfl, rfl, rfl⟩ ?_
                refine js_Ss rfl rfl ⟨_, _, _, rfl, rfl, rfl⟩ ?_
                refine js_S rfl rfl (.inl rfl) (xv_pick rfl rfl ⟨rfl, rfl⟩) ?_
                refine js_S rfl rfl (.inl rfl) (xv_move rfl ⟨rfl, rfl⟩) ?_
                refine js_S rfl rfl (.inl rfl) (xv_move rfl ⟨rfl, rfl⟩) ?_
                refine js_Ss rfl rfl ⟨_, _, _, rfl, rfl, rfl⟩ ?_
                refine js_Ss rfl rfl ⟨_, _, _, rfl, rfl, rfl⟩ ?_
                refine js_Rs rfl rfl ⟨_, _, _, rfl, rfl, rfl⟩ ?_
                refine js_Ss rfl rfl ⟨_, _, _, rfl, rfl, rfl⟩ ?_
                refine js_Rs rfl rfl ⟨_, _, _, rfl, rfl, rfl⟩ ?_
                refine js_Ss rfl rfl ⟨_, _, _, rfl, rfl, rfl⟩ ?_
                refine js_Rs rfl rfl ⟨_, _, _, rfl, rfl, rfl⟩ ?_
                refine js_Ss rfl rfl ⟨_, _, _, rfl, rfl, rfl⟩ ?_
                refine js_S rfl rfl (.inl rfl) (xv_pick rfl rfl ⟨rfl, rfl⟩) ?_
                refine js_S rfl rfl (.inl rfl) (xv_assign rfl ⟨rfl, rfl⟩) ?_
                refine js_S rfl rfl (.inl rfl) (xv_assign rfl ⟨rfl, rfl⟩) ?_
                refine j_end0 ?_
                exact jn_n ((true, true) : Bool × Bool) hst (le_put (le_put (le_put (le_put (le_put (le_put (le_put (le_put (le_put (le_put (le_put (le_put (le_put (le_put (le_put (le_put (le_emp _) rfl) rfl) rfl) rfl) rfl) rfl) rfl) rfl) rfl) rfl) rfl) rfl) rfl) rfl) rfl) rfl) (by (first|((repeat first|exact s_0|exact s_1|exact s_3|refine s_4 ?_|refine s_5 ?_|refine s_6 ?_|refine s_7 ?_);done)|((repeat first|exact s_0|exact s_1|exact s_3|refine s_4 ?_|refine s_5 ?_|refine s_6 ?_|refine s_8 ?_);done)))
            · rintro ⟨f1, f2⟩ ⟨hfi2, hfl2⟩
              dsimp only at hfi2 hfl2
              refine xc_seq ?_
              refine xc_drawL (L := [(b19, fun o => o = .cells ⟨eStill xo⟩ 48 (0, 0))]) [(0, .S), (1, .S), (2, .R), (3, .S), (4, .S), (5, .S), (6, .S), (7, .S), (8, .R), (9, .S), (10, .R), (11, .S), (12, .R), (13, .S), (14, .S), (15, .S), (16, .R), (17, .S), (18, .R), (19, .S), (20, .S), (21, .S), (22, .S), (23, .O), (24, .S), (25, .O)] [] _ mixed (by kernel_rfl) (by rw [List.append_nil]) ((holds1 (by (first|((repeat first|exact z_0|assumption|refine z_1 ?_|refine z_r ?_);done)|((repeat refine z_1 ?_);refine z_l ?_;(repeat first|exact z_0|assumption|refine z_1 ?_|refine z_r ?_);done)|((repeat refine z_1 ?_);refine z_r ?_;(repeat refine z_1 ?_);refine z_l ?_;(repeat first|exact z_0|assumption|refine z_1 ?_|refine z_r ?_);done)|((repeat first|exact z_0|assumption|refine z_1 ?_|refine z_l ?_);done))) rfl)) ?_
              have hbTi := hbT2 xo.in_.toNat
              have hbLi := hbL2 xo.in_.toNat
              refine js_S rfl rfl (.inl rfl) (xv_move rfl ⟨rfl, rfl⟩) ?_
              refine js_S rfl rfl (.inl rfl) (xv_faddr fl48_0 rfl ⟨rfl, rfl⟩) ?_
              refine js_R0 rfl rfl (.inl rfl) (xv_load1 ty3 rfl rfl (by (first|((repeat first|exact z_0|assumption|refine z_1 ?_|refine z_r ?_);done)|((repeat refine z_1 ?_);refine z_l ?_;(repeat first|exact z_0|assumption|refine z_1 ?_|refine z_r ?_);done)|((repeat refine z_1 ?_);refine z_r ?_;(repeat refine z_1 ?_);refine z_l ?_;(repeat first|exact z_0|assumption|refine z_1 ?_|refine z_r ?_);done)|((repeat first|exact z_0|assumption|refine z_1 ?_|refine z_l ?_);done))) (by rfl) ⟨rfl, rfl⟩) ?_
              refine js_S rfl rfl (.inl rfl) (xv_move rfl ⟨rfl, rfl⟩) ?_
              refine js_S rfl rfl (.inl rfl) (xv_faddr fl48_0 rfl ⟨rfl, rfl⟩) ?_
              refine js_I rfl rfl (.inl rfl) (fun hh hv => by obtain ⟨o, hm, rfl⟩ := hv b19 _ List.mem_cons_self; exact xv_load1 ty3 rfl rfl (List.mem_append_left _ hm) rfl ⟨rfl, rfl⟩) ?_
              refine js_S rfl rfl (.inl rfl) (xv_move rfl ⟨rfl, rfl⟩) ?_
              refine js_S rfl rfl (.inl rfl) (xv_faddr fl48_0 rfl ⟨rfl, rfl⟩) ?_
              refine js_R0 rfl rfl (.inl rfl) (xv_load1 ty3 rfl rfl (by (first|((repeat first|exact z_0|assumption|refine z_1 ?_|refine z_r ?_);done)|((repeat refine z_1 ?_);refine z_l ?_;(repeat first|exact z_0|assumption|refine z_1 ?_|refine z_r ?_);done)|((repeat refine z_1 ?_);refine z_r ?_;(repeat refine z_1 ?_);refine z_l ?_;(repeat first|exact z_0|assumption|refine z_1 ?_|refine z_r ?_);done)|((repeat first|exact z_0|assumption|refine z_1 ?_|refine z_l ?_);done))) (by rfl) ⟨rfl, rfl⟩) ?_
              refine js_S rfl rfl (.inl rfl) (xv_ia (sz := 1) (j := xo.in_.toNat) sl22 ty3 rfl rfl rfl rfl (by (first | omega | (dsimp only at *; omega) | (simp at *; omega))) (by (first | omega | (dsimp only at *; omega) | (simp at *; omega))) ⟨rfl, rfl⟩) ?_
              refine js_R0 rfl rfl (.inl rfl) (xv_load1 ty3 rfl rfl (by (first|((repeat first|exact z_0|assumption|refine z_1 ?_|refine z_r ?_);done)|((repeat refine z_1 ?_);refine z_l ?_;(repeat first|exact z_0|assumption|refine z_1 ?_|refine z_r ?_);done)|((repeat refine z_1 ?_);refine z_r ?_;(repeat refine z_1 ?_);refine z_l ?_;(repeat first|exact z_0|assumption|refine z_1 ?_|refine z_r ?_);done)|((repeat first|exact z_0|assumption|refine z_1 ?_|refine z_l ?_);done))) (li_get hin) ⟨rfl, rfl⟩) ?_
              refine js_S rfl rfl (.inl rfl) (xv_faddr fl48_1 rfl ⟨rfl, rfl⟩) ?_
              refine js_R0 rfl rfl (.inl rfl) (xv_load1 ty3 rfl rfl (by (first|((repeat first|exact z_0|assumption|refine z_1 ?_|refine z_r ?_);done)|((repeat refine z_1 ?_);refine z_l ?_;(repeat first|exact z_0|assumption|refine z_1 ?_|refine z_r ?_);done)|((repeat refine z_1 ?_);refine z_r ?_;(repeat refine z_1 ?_);refine z_l ?_;(repeat first|exact z_0|assumption|refine z_1 ?_|refine z_r ?_);done)|((repeat first|exact z_0|assumption|refine z_1 ?_|refine z_l ?_);done))) (by rfl) ⟨rfl, rfl⟩) ?_
              refine js_S rfl rfl (.inl rfl) (xv_sub rfl rfl (wrap_i64 (by (first | omega | (dsimp only at *; omega) | (simp at *; omega))) (by (first | omega | (dsimp only at *; omega) | (simp at *; omega)))) ⟨rfl, rfl⟩) ?_
              refine js_S rfl rfl (.inl rfl) (xv_move rfl ⟨rfl, rfl⟩) ?_
              refine js_S rfl rfl (.inl rfl) (xv_faddr fl48_0 rfl ⟨rfl, rfl⟩) ?_
              refine js_R0 rfl rfl (.inl rfl) (xv_load1 ty3 rfl rfl (by (first|((repeat first|exact z_0|assumption|refine z_1 ?_|refine z_r ?_);done)|((repeat refine z_1 ?_);refine z_l ?_;(repeat first|exact z_0|assumption|refine z_1 ?_|refine z_r ?_);done)|((repeat refine z_1 ?_);refine z_r ?_;(repeat refine z_1 ?_);refine z_l ?_;(repeat first|exact z_0|assumption|refine z_1 ?_|refine z_r ?_);done)|((repeat first|exact z_0|assumption|refine z_1 ?_|refine z_l ?_);done))) (by rfl) ⟨rfl, rfl⟩) ?_
              refine js_S rfl rfl (.inl rfl) (xv_ia (sz := 1) (j := xo.in_.toNat) sl22 ty3 rfl rfl rfl rfl (by (first | omega | (dsimp only at *; omega) | (simp at *; omega))) (by (first | omega | (dsimp only at *; omega) | (simp at *; omega))) ⟨rfl, rfl⟩) ?_
              refine js_R0 rfl rfl (.inl rfl) (xv_load1 ty3 rfl rfl (by (first|((repeat first|exact z_0|assumption|refine z_1 ?_|refine z_r ?_);done)|((repeat refine z_1 ?_);refine z_l ?_;(repeat first|exact z_0|assumption|refine z_1 ?_|refine z_r ?_);done)|((repeat refine z_1 ?_);refine z_r ?_;(repeat refine z_1 ?_);refine z_l ?_;(repeat first|exact z_0|assumption|refine z_1 ?_|refine z_r ?_);done)|((repeat first|exact z_0|assumption|refine z_1 ?_|refine z_l ?_);done))) (li_get hin) ⟨rfl, rfl⟩) ?_
              refine js_S rfl rfl (.inl rfl) (xv_faddr fl48_1 rfl ⟨rfl, rfl⟩) ?_
              refine js_I rfl rfl (.inl rfl) (fun hh hv => by obtain ⟨o, hm, rfl⟩ := hv b19 _ List.mem_cons_self; exact xv_load1 ty3 rfl rfl (List.mem_append_left _ hm) rfl ⟨rfl, rfl⟩) ?_
              refine js_S rfl rfl (.inl rfl) (xv_sub rfl rfl (wrap_i64 (by (first | omega | (dsimp only at *; omega) | (simp at *; omega))) (by (first | omega | (dsimp only at *; omega) | (simp at *; omega)))) ⟨rfl, rfl⟩) ?_
              refine js_S rfl rfl (.inl rfl) (xv_ia (sz := 1) (j := xo.in_.toNat) sl22 ty3 rfl rfl rfl rfl (by (first | omega | (dsimp only at *; omega) | (simp at *; omega))) (by (first | omega | (dsimp only at *; omega) | (simp at *; omega))) ⟨rfl, rfl⟩) ?_
              refine js_OL0 rfl rfl (.inl rfl) (xv_s1 ty3 rfl rfl rfl (by (first|(apply u_3;(repeat first|exact u_0|assumption|apply u_1|apply u_2);done)|((repeat first|exact u_0|assumption|apply u_1|apply u_2);done)|(apply u_3;apply u_3;(repeat first|exact u_0|assumption|apply u_1|apply u_2);done)|((repeat first|exact u_0|assumption|apply u_3|apply u_1);done))) rfl (li_lt hin) (li_set hin) ?_)
              refine ⟨(holds1 (by (first|((repeat first|exact z_0|assumption|refine z_1 ?_|refine z_r ?_);done)|((repeat refine z_1 ?_);refine z_l ?_;(repeat first|exact z_0|assumption|refine z_1 ?_|refine z_r ?_);done)|((repeat refine z_1 ?_);refine z_r ?_;(repeat refine z_1 ?_);refine z_l ?_;(repeat first|exact z_0|assumption|refine z_1 ?_|refine z_r ?_);done)|((repeat first|exact z_0|assumption|refine z_1 ?_|refine z_l ?_);done))) rfl), ?_⟩
              refine js_S rfl rfl (.inl rfl) (xv_ia (sz := 1) (j := xo.in_.toNat) sl22 ty3 rfl rfl rfl rfl (by (first | omega | (dsimp only at *; omega) | (simp at *; omega))) (by (first | omega | (dsimp only at *; omega) | (simp at *; omega))) ⟨rfl, rfl⟩) ?_
              refine js_OL0 rfl rfl (.inl rfl) (xv_s1 ty3 rfl rfl rfl (by (first|(apply u_3;(repeat first|exact u_0|assumption|apply u_1|apply u_2);done)|((repeat first|exact u_0|assumption|apply u_1|apply u_2);done)|(apply u_3;apply u_3;(repeat first|exact u_0|assumption|apply u_1|apply u_2);done)|((repeat first|exact u_0|assumption|apply u_3|apply u_1);done))) rfl (li_lt hin) (li_set hin) ?_)
              refine ⟨(holds1 (by (first|((repeat first|exact z_0|assumption|refine z_1 ?_|refine z_r ?_);done)|((repeat refine z_1 ?_);refine z_l ?_;(repeat first|exact z_0|assumption|refine z_1 ?_|refine z_r ?_);done)|((repeat refine z_1 ?_);refine z_r ?_;(repeat refine z_1 ?_);refine z_l ?_;(repeat first|exact z_0|assumption|refine z_1 ?_|refine z_r ?_);done)|((repeat first|exact z_0|assumption|refine z_1 ?_|refine z_l ?_);done))) rfl), ?_⟩
              refine j_end0 ?_
              refine th_n ?_
              refine xc_seq ?_
              refine xc_seq (xc_region ?_)
              refine xr_op rfl rfl (xv_assign rfl ?_)
              refine xr_end rfl ?_
              refine th_n ?_
              refine xc_block ?_
              refine xc_loop (σ := S7) (fun w => w.j ≤ y.stock.length ∧ w.z ≤ 6 * (r + n) + w.j ∧ PB (r + n) w.j w.T ∧ PB (r + n) w.j (loOf (addG xo 1 (takeG xo 1 (workG xo n G)) w.j)) ∧ Within (addG xo 1 (takeG xo 1 (workG xo n G)) w.j) w.T) (fun w => (((((((((((((((((emp.put (some 1) (.slice a plan.length c)).put (some 2) (.slice a2 by_.length c2)).put (some 3) (.pointer (some ⟨b3, 0, none⟩))).put (some 7) (.slice p1 (gl g0 y.stock.length).length d1)).put (some 8) (I 0)).put (some 9) (I (incomeY y plan g0))).put (some 10) (.slice p2 (sellY y g0).sold.length d2)).put (some 12) (.slice (some ⟨bT, 0, none⟩) y.stock.length cT)).put (some 13) (.slice (some ⟨bL, 0, none⟩) y.stock.length cL)).put (some 14) (I w.z)).put (some 15) (.bool f1)).put (some 16) (.bool f2)).put (some 17) (I (-((pays y.stills plan).take k).sum + n * xo.pay))).put (some 18) (I k)).put (some 19) (.pointer (some ⟨b19, 0, none⟩))).put (some 20) (I n)).put (some 21) (I w.j))) (fun w => ((b19, .cells ⟨eStill xo⟩ 48) :: (bL, .cells ⟨(ll (loOf (addG xo 1 (takeG xo 1 (workG xo n G)) w.j)) y.stock.length).flatMap eI ++ spL⟩ 3) :: (bT, .cells ⟨(ll w.T y.stock.length).flatMap eI ++ spT⟩ 3) :: (q2 ++ (q1 ++ (b3, .cells ⟨eYard y⟩ 26) :: h)))) (fun w => y.stock.length - w.j) (⟨0, upd T2 xo.in_.toNat (T2 xo.in_.toNat - xo.takes), z2⟩ : S7) ⟨Nat.zero_le _, hz2, hbT2.pb (by omega) (by omega), by dsimp only; rw [addG_zero, lo_take]; exact hbL2.pb (by omega) (by omega), by dsimp only; rw [addG_zero]; exact hwi2.take⟩ (le_put (le_put (le_put (le_put (le_put (le_put (le_put (le_put (le_put (le_put (le_put (le_put (le_put (le_put (le_put (le_put (le_put (le_emp _) rfl) rfl) rfl) rfl) rfl) rfl) rfl) rfl) rfl) rfl) rfl) rfl) rfl) rfl) rfl) rfl) rfl) (by dsimp only; rw [addG_zero, lo_take]; (first|((repeat first|exact s_0|exact s_1|exact s_3|refine s_4 ?_|refine s_5 ?_|refine s_6 ?_|refine s_7 ?_);done)|((repeat first|exact s_0|exact s_1|exact s_3|refine s_4 ?_|refine s_5 ?_|refine s_6 ?_|refine s_8 ?_);done))) ?_
              rintro ⟨j, T4, z4⟩ ⟨hj, hz4, hpT, hpL, hwi4⟩
              dsimp only at hj hz4 hpT hpL hwi4
              refine xc_seq ?_
              refine xc_seq (xc_region ?_)
              refine xr_op rfl rfl (xv_move rfl ?_)
              refine xr_op rfl rfl (xv_move rfl ?_)
              refine xr_op rfl rfl (xv_len sl22 rfl ?_)
              refine xr_op rfl rfl (xv_lss2 rfl rfl (fun q10 => ?_) (fun q10 => ?_))
              · refine xr_end rfl ?_
                refine th_n ?_
                refine xc_true rfl ?_
                refine xc_skip ?_
                refine th_n ?_
                refine xc_seq ?_
                refine xc_block ?_
                refine xc_seq (xc_region ?_)
                have hlte : j < xo.out.length := by (first | omega | (dsimp only at *; omega) | (simp at *; omega))
                obtain ⟨be, oe, le, te, fze, hae, hme, hxe⟩ := (hv.out xo (List.mem_of_getElem? hko)).at hlte
                obtain ⟨xe, hke⟩ : ∃ qq_, xo.out[j]? = some qq_ := ⟨_, List.getElem?_eq_getElem hlte⟩
                obtain ⟨⟨⟨u1, u2⟩, u3, u4⟩, _⟩ := hso.2.2.2.2.2 j xe hke
                have hltu : (z4 % by_.length) < by_.length := by exact Nat.mod_lt _ hby1
                obtain ⟨bu, ou, lu, tu, fzu, hau, hmu, hxu⟩ := (hby).at hltu
                obtain ⟨xu, hku⟩ : ∃ qq_, by_[(z4 % by_.length)]? = some qq_ := ⟨_, List.getElem?_eq_getElem hltu⟩
                have hux := hbv xu (List.mem_of_getElem? hku)
                have hrm := tmod_bd (a := xu + (z4 : Int)) (d := xe.hi - xe.lo + 1) (by omega) (by omega)
                have hpTj := hpT j
                have hpLj := hpL j
                have hjN : j < y.stock.length := by (first | omega | (dsimp only at *; omega) | (simp at *; omega))
                refine xr_op rfl rfl (xv_faddr fl48_2 rfl ?_)
                refine xr_op rfl rfl (xv_load1 ty35 rfl rfl (by (first|((repeat first|exact z_0|assumption|refine z_1 ?_|refine z_r ?_);done)|((repeat refine z_1 ?_);refine z_l ?_;(repeat first|exact z_0|assumption|refine z_1 ?_|refine z_r ?_);done)|((repeat refine z_1 ?_);refine z_r ?_;(repeat refine z_1 ?_);refine z_l ?_;(repeat first|exact z_0|assumption|refine z_1 ?_|refine z_r ?_);done)|((repeat first|exact z_0|assumption|refine z_1 ?_|refine z_l ?_);done))) (by rfl) ?_)
                refine xr_op rfl rfl (xv_move rfl ?_)
                refine xr_op rfl rfl (xv_ia (sz := 2) (j := j) sl35 ty41 rfl (by rw [hae]; rfl) rfl (by (first | assumption | with_reducible exact Int.toNat_natCast _ | with_reducible rfl | rfl)) (by (first | omega | (dsimp only at *; omega) | (simp at *; omega))) (by (first | omega | (dsimp only at *; omega) | (simp at *; omega))) ?_)
                refine xr_op rfl rfl (xv_loadA ty41 rfl rfl (by (first|((repeat first|exact z_0|assumption|refine z_1 ?_|refine z_r ?_);done)|((repeat refine z_1 ?_);refine z_l ?_;(repeat first|exact z_0|assumption|refine z_1 ?_|refine z_r ?_);done)|((repeat refine z_1 ?_);refine z_r ?_;(repeat refine z_1 ?_);refine z_l ?_;(repeat first|exact z_0|assumption|refine z_1 ?_|refine z_r ?_);done)|((repeat first|exact z_0|assumption|refine z_1 ?_|refine z_l ?_);done))) (hxe (j) xe hke) rfl ?_)
                refine xr_op rfl rfl (xv_alloc ty41 (fun b22 hb22 => ?_))
                refine xr_op rfl rfl (xv_s ty41 rfl rfl (by (first|(apply u_3;(repeat first|exact u_0|assumption|apply u_1|apply u_2);done)|((repeat first|exact u_0|assumption|apply u_1|apply u_2);done)|(apply u_3;apply u_3;(repeat first|exact u_0|assumption|apply u_1|apply u_2);done)|((repeat first|exact u_0|assumption|apply u_3|apply u_1);done))) (by ((try apply evl_some rfl);(repeat (first|exact (rfl : _ = [])|apply evl_cons rfl (by (first|exact v_1|exact v_2|exact v_3|exact v_4|exact v_5|exact v_6|exact v_7|exact v_8|exact v_9|exact rfl))|exact rfl)))) (by rfl) (by rfl) (by rfl) (by ((try apply evl_some rfl);(repeat (first|exact (rfl : _ = [])|apply evl_cons rfl (by (first|exact v_1|exact v_2|exact v_3|exact v_4|exact v_5|exact v_6|exact v_7|exact v_8|exact v_9|exact rfl))|exact rfl)))) ?_)
                refine xr_end rfl ?_
                refine th_n ?_
                refine xc_seq ?_
                refine xc_drawL (L := [(b22, fun o => o = .cells ⟨eSpan xe⟩ 41 (0, 0))]) [(0, .S), (1, .S), (2, .S), (3, .S), (4, .S), (5, .S), (6, .S), (7, .R), (8, .S), (9, .R), (10, .S), (11, .S), (12, .S), (13, .S), (14, .S), (15, .S), (16, .S), (17, .R), (18, .S), (19, .S), (20, .S), (21, .S), (22, .R), (23, .S), (24, .R), (25, .S), (26, .S), (27, .S), (28, .S), (29, .S), (30, .S), (31, .S), (32, .R), (33, .S), (34, .S), (35, .S), (36, .S), (37, .O), (38, .S), (39, .O)] [] _ mixed (by kernel_rfl) (by rw [List.append_nil]) ((holds1 (by (first|((repeat first|exact z_0|assumption|refine z_1 ?_|refine z_r ?_);done)|((repeat refine z_1 ?_);refine z_l ?_;(repeat first|exact z_0|assumption|refine z_1 ?_|refine z_r ?_);done)|((repeat refine z_1 ?_);refine z_r ?_;(repeat refine z_1 ?_);refine z_l ?_;(repeat first|exact z_0|assumption|refine z_1 ?_|refine z_r ?_);done)|((repeat first|exact z_0|assumption|refine z_1 ?_|refine z_l ?_);done))) rfl)) ?_
                refine js_S rfl rfl (.inl rfl) (xv_move rfl ⟨rfl, rfl⟩) ?_
                refine js_S rfl rfl (.inl rfl) (xv_move rfl ⟨rfl, rfl⟩) ?_
                refine js_S rfl rfl (.inl rfl) (xv_move rfl ⟨rfl, rfl⟩) ?_
                refine js_S rfl rfl (.inl rfl) (xv_move rfl ⟨rfl, rfl⟩) ?_
                refine js_S rfl rfl (.inl rfl) (xv_move rfl ⟨rfl, rfl⟩) ?_
                refine js_S rfl rfl (.inl rfl) (xv_move rfl ⟨rfl, rfl⟩) ?_
                refine js_S rfl rfl (.inl rfl) (xv_ia (sz := 1) (j := j) sl22 ty3 rfl rfl rfl (by (first | assumption | with_reducible exact Int.toNat_natCast _ | with_reducible rfl | rfl)) (by (first | omega | (dsimp only at *; omega) | (simp at *; omega))) (by (first | omega | (dsimp only at *; omega) | (simp at *; omega))) ⟨rfl, rfl⟩) ?_
                refine js_R0 rfl rfl (.inl rfl) (xv_load1 ty3 rfl rfl (by (first|((repeat first|exact z_0|assumption|refine z_1 ?_|refine z_r ?_);done)|((repeat refine z_1 ?_);refine z_l ?_;(repeat first|exact z_0|assumption|refine z_1 ?_|refine z_r ?_);done)|((repeat refine z_1 ?_);refine z_r ?_;(repeat refine z_1 ?_);refine z_l ?_;(repeat first|exact z_0|assumption|refine z_1 ?_|refine z_r ?_);done)|((repeat first|exact z_0|assumption|refine z_1 ?_|refine z_l ?_);done))) (li_get hjN) ⟨rfl, rfl⟩) ?_
                refine js_S rfl rfl (.inl rfl) (xv_faddr fl41_0 rfl ⟨rfl, rfl⟩) ?_
                refine js_R0 rfl rfl (.inl rfl) (xv_load1 ty3 rfl rfl (by (first|((repeat first|exact z_0|assumption|refine z_1 ?_|refine z_r ?_);done)|((repeat refine z_1 ?_);refine z_l ?_;(repeat first|exact z_0|assumption|refine z_1 ?_|refine z_r ?_);done)|((repeat refine z_1 ?_);refine z_r ?_;(repeat refine z_1 ?_);refine z_l ?_;(repeat first|exact z_0|assumption|refine z_1 ?_|refine z_r ?_);done)|((repeat first|exact z_0|assumption|refine z_1 ?_|refine z_l ?_);done))) (by rfl) ⟨rfl, rfl⟩) ?_
                refine js_S rfl rfl (.inl rfl) (xv_add rfl rfl (wrap_i64 (by (first | omega | (dsimp only at *; omega) | (simp at *; omega))) (by (first | omega | (dsimp only at *; omega) | (simp at *; omega)))) ⟨rfl, rfl⟩) ?_
                refine js_S rfl rfl (.inl rfl) (xv_move rfl ⟨rfl, rfl⟩) ?_
                refine js_S rfl rfl (.inl rfl) (xv_move rfl ⟨rfl, rfl⟩) ?_
                refine js_S rfl rfl (.inl rfl) (xv_move rfl ⟨rfl, rfl⟩) ?_
                refine js_S rfl rfl (.inl rfl) (xv_len sl46 rfl ⟨rfl, rfl⟩) ?_
                refine js_S rfl rfl (.inl rfl) (xv_rem (c := ((z4 % by_.length : Nat) : Int)) rfl rfl (by omega) (tmod_nat rfl rfl) ⟨rfl, rfl⟩) ?_
                refine js_S rfl rfl (.inl rfl) (xv_ia (sz := 1) (j := (z4 % by_.length)) sl46 ty49 rfl (by rw [hau]; rfl) rfl (by (first | assumption | with_reducible exact Int.toNat_natCast _ | with_reducible rfl | rfl)) (by (first | omega | (dsimp only at *; omega) | (simp at *; omega))) (by (first | omega | (dsimp only at *; omega) | (simp at *; omega))) ⟨rfl, rfl⟩) ?_
                refine js_R0 rfl rfl (.inl rfl) (xv_load1 ty49 rfl rfl (by (first|((repeat first|exact z_0|assumption|refine z_1 ?_|refine z_r ?_);done)|((repeat refine z_1 ?_);refine z_l ?_;(repeat first|exact z_0|assumption|refine z_1 ?_|refine z_r ?_);done)|((repeat refine z_1 ?_);refine z_r ?_;(repeat refine z_1 ?_);refine z_l ?_;(repeat first|exact z_0|assumption|refine z_1 ?_|refine z_r ?_);done)|((repeat first|exact z_0|assumption|refine z_1 ?_|refine z_l ?_);done))) (take_get (hxu ((z4 % by_.length)) xu hku) (j := 0) rfl) ⟨rfl, rfl⟩) ?_
                refine js_S rfl rfl (.inl rfl) (xv_convI Try.underlying49 Try.underlying3 rfl (wrap_i64 (by (first | omega | (dsimp only at *; omega) | (simp at *; omega))) (by (first | omega | (dsimp only at *; omega) | (simp at *; omega)))) ⟨rfl, rfl⟩) ?_
                refine js_S rfl rfl (.inl rfl) (xv_move rfl ⟨rfl, rfl⟩) ?_
                refine js_S rfl rfl (.inl rfl) (xv_add rfl rfl (wrap_i64 (by (first | omega | (dsimp only at *; omega) | (simp at *; omega))) (by (first | omega | (dsimp only at *; omega) | (simp at *; omega)))) ⟨rfl, rfl⟩) ?_
                refine js_S rfl rfl (.inl rfl) (xv_faddr fl41_1 rfl ⟨rfl, rfl⟩) ?_
                refine js_R0 rfl rfl (.inl rfl) (xv_load1 ty3 rfl rfl (by (first|((repeat first|exact z_0|assumption|refine z_1 ?_|refine z_r ?_);done)|((repeat refine z_1 ?_);refine z_l ?_;(repeat first|exact z_0|assumption|refine z_1 ?_|refine z_r ?_);done)|((repeat refine z_1 ?_);refine z_r ?_;(repeat refine z_1 ?_);refine z_l ?_;(repeat first|exact z_0|assumption|refine z_1 ?_|refine z_r ?_);done)|((repeat first|exact z_0|assumption|refine z_1 ?_|refine z_l ?_);done))) (by rfl) ⟨rfl, rfl⟩) ?_
                refine js_S rfl rfl (.inl rfl) (xv_faddr fl41_0 rfl ⟨rfl, rfl⟩) ?_
                refine js_R0 rfl rfl (.inl rfl) (xv_load1 ty3 rfl rfl (by (first|((repeat first|exact z_0|assumption|refine z_1 ?_|refine z_r ?_);done)|((repeat refine z_1 ?_);refine z_l ?_;(repeat first|exact z_0|assumption|refine z_1 ?_|refine z_r ?_);done)|((repeat refine z_1 ?_);refine z_r ?_;(repeat refine z_1 ?_);refine z_l ?_;(repeat first|exact z_0|assumption|refine z_1 ?_|refine z_r ?_);done)|((repeat first|exact z_0|assumption|refine z_1 ?_|refine z_l ?_);done))) (by rfl) ⟨rfl, rfl⟩) ?_
                refine js_S rfl rfl (.inl rfl) (xv_sub rfl rfl (wrap_i64 (by (first | omega | (dsimp only at *; omega) | (simp at *; omega))) (by (first | omega | (dsimp only at *; omega) | (simp at *; omega)))) ⟨rfl, rfl⟩) ?_
                refine js_S rfl rfl (.inl rfl) (xv_add rfl rfl (wrap_i64 (by (first | omega | (dsimp only at *; omega) | (simp at *; omega))) (by (first | omega | (dsimp only at *; omega) | (simp at *; omega)))) ⟨rfl, rfl⟩) ?_
                refine js_S rfl rfl (.inl rfl) (xv_rem rfl rfl (by omega) rfl ⟨rfl, rfl⟩) ?_
                refine js_S rfl rfl (.inl rfl) (xv_add rfl rfl (wrap_i64 (by (first | omega | (dsimp only at *; omega) | (simp at *; omega))) (by (first | omega | (dsimp only at *; omega) | (simp at *; omega)))) ⟨rfl, rfl⟩) ?_
                refine js_S rfl rfl (.inl rfl) (xv_move rfl ⟨rfl, rfl⟩) ?_
                refine js_S rfl rfl (.inl rfl) (xv_move rfl ⟨rfl, rfl⟩) ?_
                refine js_S rfl rfl (.inl rfl) (xv_ia (sz := 1) (j := j) sl22 ty3 rfl rfl rfl (by (first | assumption | with_reducible exact Int.toNat_natCast _ | with_reducible rfl | rfl)) (by (first | omega | (dsimp only at *; omega) | (simp at *; omega))) (by (first | omega | (dsimp only at *; omega) | (simp at *; omega))) ⟨rfl, rfl⟩) ?_
                refine js_R0 rfl rfl (.inl rfl) (xv_load1 ty3 rfl rfl (by (first|((repeat first|exact z_0|assumption|refine z_1 ?_|refine z_r ?_);done)|((repeat refine z_1 ?_);refine z_l ?_;(repeat first|exact z_0|assumption|refine z_1 ?_|refine z_r ?_);done)|((repeat refine z_1 ?_);refine z_r ?_;(repeat refine z_1 ?_);refine z_l ?_;(repeat first|exact z_0|assumption|refine z_1 ?_|refine z_r ?_);done)|((repeat first|exact z_0|assumption|refine z_1 ?_|refine z_l ?_);done))) (li_get hjN) ⟨rfl, rfl⟩) ?_
                refine js_S rfl rfl (.inl rfl) (xv_faddr fl41_0 rfl ⟨rfl, rfl⟩) ?_
                refine js_I rfl rfl (.inl rfl) (fun hh hv => by obtain ⟨o, hm, rfl⟩ := hv b22 _ List.mem_cons_self; exact xv_load1 ty3 rfl rfl (List.mem_append_left _ hm) rfl ⟨rfl, rfl⟩) ?_
                refine js_S rfl rfl (.inl rfl) (xv_add rfl rfl (wrap_i64 (by (first | omega | (dsimp only at *; omega) | (simp at *; omega))) (by (first | omega | (dsimp only at *; omega) | (simp at *; omega)))) ⟨rfl, rfl⟩) ?_
                refine js_S rfl rfl (.inl rfl) (xv_ia (sz := 1) (j := j) sl22 ty3 rfl rfl rfl (by (first | assumption | with_reducible exact Int.toNat_natCast _ | with_reducible rfl | rfl)) (by (first | omega | (dsimp only at *; omega) | (simp at *; omega))) (by (first | omega | (dsimp only at *; omega) | (simp at *; omega))) ⟨rfl, rfl⟩) ?_
                refine js_OL0 rfl rfl (.inl rfl) (xv_s1 ty3 rfl rfl rfl (by (first|(apply u_3;(repeat first|exact u_0|assumption|apply u_1|apply u_2);done)|((repeat first|exact u_0|assumption|apply u_1|apply u_2);done)|(apply u_3;apply u_3;(repeat first|exact u_0|assumption|apply u_1|apply u_2);done)|((repeat first|exact u_0|assumption|apply u_3|apply u_1);done))) rfl (li_lt hjN) (li_set hjN) ?_)
                refine ⟨(holds1 (by (first|((repeat first|exact z_0|assumption|refine z_1 ?_|refine z_r ?_);done)|((repeat refine z_1 ?_);refine z_l ?_;(repeat first|exact z_0|assumption|refine z_1 ?_|refine z_r ?_);done)|((repeat refine z_1 ?_);refine z_r ?_;(repeat refine z_1 ?_);refine z_l ?_;(repeat first|exact z_0|assumption|refine z_1 ?_|refine z_r ?_);done)|((repeat first|exact z_0|assumption|refine z_1 ?_|refine z_l ?_);done))) rfl), ?_⟩
                refine js_S rfl rfl (.inl rfl) (xv_ia (sz := 1) (j := j) sl22 ty3 rfl rfl rfl (by (first | assumption | with_reducible exact Int.toNat_natCast _ | with_reducible rfl | rfl)) (by (first | omega | (dsimp only at *; omega) | (simp at *; omega))) (by (first | omega | (dsimp only at *; omega) | (simp at *; omega))) ⟨rfl, rfl⟩) ?_
                refine js_OL0 rfl rfl (.inl rfl) (xv_s1 ty3 rfl rfl rfl (by (first|(apply u_3;(repeat first|exact u_0|assumption|apply u_1|apply u_2);done)|((repeat first|exact u_0|assumption|apply u_1|apply u_2);done)|(apply u_3;apply u_3;(repeat first|exact u_0|assumption|apply u_1|apply u_2);done)|((repeat first|exact u_0|assumption|apply u_3|apply u_1);done))) rfl (li_lt hjN) (li_set hjN) ?_)
                refine ⟨(holds1 (by (first|((repeat first|exact z_0|assumption|refine z_1 ?_|refine z_r ?_);done)|((repeat refine z_1 ?_);refine z_l ?_;(repeat first|exact z_0|assumption|refine z_1 ?_|refine z_r ?_);done)|((repeat refine z_1 ?_);refine z_r ?_;(repeat refine z_1 ?_);refine z_l ?_;(repeat first|exact z_0|assumption|refine z_1 ?_|refine z_r ?_);done)|((repeat first|exact z_0|assumption|refine z_1 ?_|refine z_l ?_);done))) rfl), ?_⟩
                refine j_end0 ?_
                refine th_n ?_
                refine xc_region ?_
                refine xr_op rfl rfl (xv_move rfl ?_)
                refine xr_op rfl rfl (xv_add rfl rfl (wrap_i64 (by (first | omega | (dsimp only at *; omega) | (simp at *; omega))) (by (first | omega | (dsimp only at *; omega) | (simp at *; omega)))) ?_)
                refine xr_op rfl rfl (xv_assign rfl ?_)
                refine xr_end rfl ?_
                refine bk_n ?_
                refine th_n ?_
                refine xc_region ?_
                refine xr_op rfl rfl (xv_move rfl ?_)
                refine xr_op rfl rfl (xv_add rfl rfl (wrap_i64 (by (first | omega | (dsimp only at *; omega) | (simp at *; omega))) (by (first | omega | (dsimp only at *; omega) | (simp at *; omega)))) ?_)
                refine xr_op rfl rfl (xv_assign rfl ?_)
                refine xr_end rfl ?_
                have hta : T4 j + xe.lo + ((xu + (z4 : Int)).tmod (xe.hi - xe.lo + 1)) = T4 j + (xe.lo + ((xu + (z4 : Int)).tmod (xe.hi - xe.lo + 1))) := Int.add_assoc _ _ _
                exact rnd (⟨j + 1, upd T4 j (T4 j + (xe.lo + ((xu + (z4 : Int)).tmod (xe.hi - xe.lo + 1)))), z4 + 1⟩ : S7) ⟨by (first | omega | (dsimp only at *; omega) | (simp at *; omega)), by dsimp only; omega, hpT.step (by omega) (by omega), by dsimp only; rw [lo_add hke]; exact hpL.step (by omega) (by omega), hwi4.add hke (by omega) (by omega)⟩ (by (first | omega | (dsimp only at *; omega) | (simp at *; omega))) (le_put (le_put (le_put (le_put (le_put (le_put (le_put (le_put (le_put (le_put (le_put (le_put (le_put (le_put (le_put (le_put (le_put (le_emp _) rfl) rfl) rfl) rfl) rfl) rfl) rfl) rfl) rfl) rfl) rfl) rfl) rfl) rfl) rfl) rfl) rfl) (by dsimp only; rw [lo_add hke, ← hta]; (first|((repeat first|exact s_0|exact s_1|exact s_3|refine s_4 ?_|refine s_5 ?_|refine s_6 ?_|refine s_7 ?_);done)|((repeat first|exact s_0|exact s_1|exact s_3|refine s_4 ?_|refine s_5 ?_|refine s_6 ?_|refine s_8 ?_);done)))
              · refine xr_end rfl ?_
                refine th_n ?_
                refine xc_false rfl ?_
                refine xc_exit ?_
                refine th_x ?_
                refine th_x ?_
                refine bk_same ?_
                refine th_n ?_
                refine xc_region ?_
                refine xr_op rfl rfl (xv_move rfl ?_)
                refine xr_op rfl rfl (xv_faddr fl48_3 rfl ?_)
                refine xr_op rfl rfl (xv_load1 ty3 rfl rfl (by (first|((repeat first|exact z_0|assumption|refine z_1 ?_|refine z_r ?_);done)|((repeat refine z_1 ?_);refine z_l ?_;(repeat first|exact z_0|assumption|refine z_1 ?_|refine z_r ?_);done)|((repeat refine z_1 ?_);refine z_r ?_;(repeat refine z_1 ?_);refine z_l ?_;(repeat first|exact z_0|assumption|refine z_1 ?_|refine z_r ?_);done)|((repeat first|exact z_0|assumption|refine z_1 ?_|refine z_l ?_);done))) (by rfl) ?_)
                refine xr_op rfl rfl (xv_add rfl rfl (wrap_i64 (by (first | omega | (dsimp only at *; omega) | (simp at *; omega))) (by (first | omega | (dsimp only at *; omega) | (simp at *; omega)))) ?_)
                refine xr_op rfl rfl (xv_assign rfl ?_)
                refine xr_end rfl ?_
                refine bk_n ?_
                refine th_n ?_
                refine xc_region ?_
                refine xr_op rfl rfl (xv_move rfl ?_)
                refine xr_op rfl rfl (xv_add rfl rfl (wrap_i64 (by (first | omega | (dsimp only at *; omega) | (simp at *; omega))) (by (first | omega | (dsimp only at *; omega) | (simp at *; omega)))) ?_)
                refine xr_op rfl rfl (xv_assign rfl ?_)
                refine xr_end rfl ?_
                obtain rfl : j = y.stock.length := by (first | omega | (dsimp only at *; omega) | (simp at *; omega))
                have hw1 : addG xo 1 (takeG xo 1 (workG xo n G)) y.stock.length = workG xo ((n + 1 : Nat) : Int) G := by rw [show ((n + 1 : Nat) : Int) = (n : Int) + 1 by omega, work_succ]; unfold workG; rw [hso.2.2.1]
                have hpy : -((pays y.stills plan).take k).sum + ((n + 1 : Nat) : Int) * xo.pay = -((pays y.stills plan).take k).sum + (n : Int) * xo.pay + xo.pay := by rw [show ((n + 1 : Nat) : Int) = (n : Int) + 1 by omega, Int.add_mul, Int.one_mul]; omega
                exact rnd (⟨n + 1, T4, f1, f2, z4⟩ : S6) ⟨by (first | omega | (dsimp only at *; omega) | (simp at *; omega)), by dsimp only; omega, by dsimp only; rw [← hw1]; exact hpL.bd, hpT.bd, by dsimp only; rw [← hw1]; exact hwi4, hfi2, hfl2⟩ (by (first | omega | (dsimp only at *; omega) | (simp at *; omega))) (le_put (le_put (le_put (le_put (le_put (le_put (le_put (le_put (le_put (le_put (le_put (le_put (le_put (le_put (le_put (le_put (le_emp _) rfl) rfl) rfl) rfl) rfl) rfl) rfl) rfl) rfl) rfl) rfl) rfl) (by dsimp only; rw [hpy]; rfl)) rfl) rfl) rfl) (by dsimp only; rw [← hw1]; (first|((repeat first|exact s_0|exact s_1|exact s_3|refine s_4 ?_|refine s_5 ?_|refine s_6 ?_|refine s_7 ?_);done)|((repeat first|exact s_0|exact s_1|exact s_3|refine s_4 ?_|refine s_5 ?_|refine s_6 ?_|refine s_8 ?_);done)))
          · refine xr_end rfl ?_
            refine th_n ?_
            refine xc_false rfl ?_
            refine xc_exit ?_
            refine th_x ?_
            refine th_x ?_
            refine bk_same ?_
            refine bk_n ?_
            refine th_n ?_
            refine xc_region ?_
            refine xr_op rfl rfl (xv_move rfl ?_)
            refine xr_op rfl rfl (xv_add rfl rfl (wrap_i64 (by (first | omega | (dsimp only at *; omega) | (simp at *; omega))) (by (first | omega | (dsimp only at *; omega) | (simp at *; omega)))) ?_)
            refine xr_op rfl rfl (xv_assign rfl ?_)
            refine xr_end rfl ?_
            obtain rfl : n = xp.toNat := by (first | omega | (dsimp only at *; omega) | (simp at *; omega))
            have hxp : ((xp.toNat : Nat) : Int) = xp := by (first | omega | (dsimp only at *; omega) | (simp at *; omega))
            rw [hxp] at hbL2 hwi2 hfi
            have hpy : -((pays y.stills plan).take (k + 1)).sum = -((pays y.stills plan).take k).sum + ((xp.toNat : Nat) : Int) * xo.pay := by rw [pays_take hko hkp, List.sum_append, hxp]; simp only [List.sum_cons, List.sum_nil, Int.zero_sub, Int.neg_mul]; omega
            exact rnd (⟨k + 1, workG xo xp G, T2, lk2, sh2, z2, r + xp.toNat⟩ : S5) ⟨by (first | omega | (dsimp only at *; omega) | (simp at *; omega)), by dsimp only; omega, hz2, hbL2, hbT2, hwi2, hfi.done hso hpb.1 (by omega) hko hkp, hfl2⟩ (by (first | omega | (dsimp only at *; omega) | (simp at *; omega))) (le_put (le_put (le_put (le_put (le_put (le_put (le_put (le_put (le_put (le_put (le_put (le_put (le_put (le_put (le_emp _) rfl) rfl) rfl) rfl) rfl) rfl) rfl) rfl) rfl) rfl) rfl) rfl) (by dsimp only; rw [hpy]; rfl)) rfl) (by dsimp only; rw [hxp]; (first|((repeat first|exact s_0|exact s_1|exact s_3|refine s_4 ?_|refine s_5 ?_|refine s_6 ?_|refine s_7 ?_);done)|((repeat first|exact s_0|exact s_1|exact s_3|refine s_4 ?_|refine s_5 ?_|refine s_6 ?_|refine s_8 ?_);done)))
        · refine xr_end rfl ?_
          refine th_n ?_
          refine xc_false rfl ?_
          refine xc_exit ?_
          refine th_x ?_
          refine th_x ?_
          refine bk_same ?_
          refine th_n ?_
          refine xc_seq ?_
          refine xc_seq (xc_region ?_)
          obtain rfl : k = plan.length := by (first | omega | (dsimp only at *; omega) | (simp at *; omega))
          have hend : sh = false → afterG y.stills plan (newG y) = some G := fun hs => by rw [(hfe.1 hs).1, hpl, after_end]
          obtain rfl : sh = false := by
            cases sh with
            | false => rfl
            | true => have := hfe.2 rfl; rw [hsome] at this; cases this
          obtain rfl : lk = false := by
            cases lk with
            | false => rfl
            | true => exact absurd (hfl rfl) (by decide)
          obtain rfl : G = g0 := by have := hend rfl; rw [hsome] at this; exact (Option.some.inj this).symm
          have hgb := (hfe.1 rfl).2
          rw [hpl] at hgb
          obtain ⟨hSo, hinc⟩ := sold_y (plan := plan) hy hgb
          have hinc := hinc plan
          have hps := sum_bd (xs := (pays y.stills plan).take plan.length) (fun x hx => pays_bd hy hpo (List.mem_of_mem_take hx))
          rw [List.length_take, Nat.min_eq_left (by omega)] at hps
          have hps2 := sum_bd (xs := (pays y.stills plan)) (fun x hx => pays_bd hy hpo hx)
          rw [hplen] at hps2
          have hsbd : ∀ i : Nat, 0 ≤ sF (sellY y G).sold i ∧ sF (sellY y G).sold i ≤ 1048576 := fun i => sold_bd hy hSo i
          have hprb : ∀ m : Nat, m ≤ y.sales.length → ∀ i : Nat, i < m → 0 ≤ pr y.sales i ∧ pr y.sales i ≤ 1000000 := fun m hm i hi => price_bd hy (by omega)
          have hLf : ∀ d, 0 ≤ (afterS y (sellY y G).sold (loOf G) y.sales.length) d := fun d => by have := hSo.use d; have := hSo.nn d; unfold afterS; omega
          have hTf : ∀ d, 0 ≤ (afterS y (sellY y G).sold T y.sales.length) d := fun d => by have := hLf d; have := (hwi d).1; unfold afterS at *; simp only [loOf] at *; omega
          refine xr_op rfl rfl (xv_move rfl ?_)
          refine xr_op rfl rfl (xv_eqlF rfl rfl (by decide) ?_)
          refine xr_end rfl ?_
          refine th_n ?_
          refine xc_false rfl ?_
          refine xc_skip ?_
          refine th_n ?_
          refine xc_seq ?_
          refine xc_seq (xc_region ?_)
          refine xr_op rfl rfl (xv_move rfl ?_)
          refine xr_op rfl rfl (xv_move rfl ?_)
          refine xr_gd rfl rfl rfl (xv_move rfl ?_)
          refine xr_op rfl rfl (xv_pick rfl rfl ?_)
          refine xr_op rfl rfl (xv_move rfl ?_)
          refine xr_gd rfl rfl rfl (xv_move rfl ?_)
          refine xr_gd rfl rfl rfl (xv_len sl35 rfl ?_)
          refine xr_gd rfl rfl rfl (xv_move rfl ?_)
          refine xr_gd rfl rfl rfl (xv_len sl22 rfl ?_)
          refine xr_gd rfl rfl rfl (xv_neqF rfl rfl (by rw [gl_len]) ?_)
          refine xr_op rfl rfl (xv_pick rfl rfl ?_)
          refine xr_op rfl rfl (xv_move rfl ?_)
          refine xr_gd rfl rfl rfl (xv_move rfl ?_)
          refine xr_gd rfl rfl rfl (xv_len sl22 rfl ?_)
          refine xr_gd rfl rfl rfl (xv_faddr fl26_2 rfl ?_)
          refine xr_gd rfl rfl rfl (xv_load1 ty24 rfl rfl (by (first|((repeat first|exact z_0|assumption|refine z_1 ?_|refine z_r ?_);done)|((repeat refine z_1 ?_);refine z_l ?_;(repeat first|exact z_0|assumption|refine z_1 ?_|refine z_r ?_);done)|((repeat refine z_1 ?_);refine z_r ?_;(repeat refine z_1 ?_);refine z_l ?_;(repeat first|exact z_0|assumption|refine z_1 ?_|refine z_r ?_);done)|((repeat first|exact z_0|assumption|refine z_1 ?_|refine z_l ?_);done))) (by rfl) ?_)
          refine xr_gd rfl rfl rfl (xv_len sl24 rfl ?_)
          refine xr_gd rfl rfl rfl (xv_neqF rfl rfl (by rw [hSo.len]) ?_)
          refine xr_op rfl rfl (xv_pick rfl rfl ?_)
          refine xr_end rfl ?_
          refine th_n ?_
          refine xc_false rfl ?_
          refine xc_skip ?_
          refine th_n ?_
          refine xc_seq ?_
          refine xc_seq (xc_region ?_)
          refine xr_op rfl rfl (xv_assign rfl ?_)
          refine xr_end rfl ?_
          refine th_n ?_
          refine xc_block ?_
          have hgll := gl_len G y.stock.length
          have hSl := hSo.len
          refine xc_loop (σ := Nat) (fun j => j ≤ y.stock.length) (fun j => ((((((((emp.put (some 3) (.pointer (some ⟨b3, 0, none⟩))).put (some 9) (I (incomeY y plan G))).put (some 10) (.slice p2 (sellY y G).sold.length d2)).put (some 12) (.slice (some ⟨bT, 0, none⟩) y.stock.length cT)).put (some 13) (.slice (some ⟨bL, 0, none⟩) y.stock.length cL)).put (some 7) (.slice p1 (gl G y.stock.length).length d1)).put (some 17) (I (-((pays y.stills plan).take plan.length).sum))).put (some 23) (I j))) (fun j => ((bL, .cells ⟨(ll (loOf G) y.stock.length).flatMap eI ++ spL⟩ 3) :: (bT, .cells ⟨(ll T y.stock.length).flatMap eI ++ spT⟩ 3) :: (q2 ++ (q1 ++ (b3, .cells ⟨eYard y⟩ 26) :: h)))) (fun j => y.stock.length - j) 0 (Nat.zero_le _) (le_put (le_put (le_put (le_put (le_put (le_put (le_put (le_put (le_emp _) rfl) rfl) rfl) rfl) rfl) rfl) rfl) rfl) (by (first|((repeat first|exact s_0|exact s_1|exact s_3|refine s_4 ?_|refine s_5 ?_|refine s_6 ?_|refine s_7 ?_);done)|((repeat first|exact s_0|exact s_1|exact s_3|refine s_4 ?_|refine s_5 ?_|refine s_6 ?_|refine s_8 ?_);done))) ?_
          rintro j hj
          refine xc_seq ?_
          refine xc_seq (xc_region ?_)
          refine xr_op rfl rfl (xv_move rfl ?_)
          refine xr_op rfl rfl (xv_move rfl ?_)
          refine xr_op rfl rfl (xv_len sl35 rfl ?_)
          refine xr_op rfl rfl (xv_lss2 rfl rfl (fun q11 => ?_) (fun q11 => ?_))
          · refine xr_end rfl ?_
            refine th_n ?_
            refine xc_true rfl ?_
            refine xc_skip ?_
            refine th_n ?_
            refine xc_seq ?_
            refine xc_block ?_
            refine xc_seq ?_
            refine xc_draw0 [(0, .S), (1, .S), (2, .S), (3, .R), (4, .S), (5, .S), (6, .S), (7, .S), (8, .R), (9, .S), (10, .S), (11, .S), (12, .S), (13, .S), (14, .R), (15, .S), (16, .S), (17, .S), (18, .S), (19, .R), (20, .S), (21, .S), (22, .S), (23, .S), (24, .S), (25, .S), (26, .R), (27, .S), (28, .S), (29, .S), (30, .S), (31, .R), (32, .S), (33, .S)] mixed (by kernel_rfl) ?_
            have hlte : j < (gl G y.stock.length).length := by rw [gl_len]; (first | omega | (dsimp only at *; omega) | (simp at *; omega))
            obtain ⟨be, oe, le, te, fze, hae, hme, hxe⟩ := (s1).at hlte
            obtain ⟨xe, hke⟩ : ∃ qq_, (gl G y.stock.length)[j]? = some qq_ := ⟨_, List.getElem?_eq_getElem hlte⟩
            obtain rfl : xe = G j := (gl_get hke).2
            have hwj := hwi j
            have hjN : j < y.stock.length := by (first | omega | (dsimp only at *; omega) | (simp at *; omega))
            refine js_S rfl rfl (.inl rfl) (xv_move rfl ⟨rfl, rfl⟩) ?_
            refine js_S rfl rfl (.inl rfl) (xv_move rfl ⟨rfl, rfl⟩) ?_
            refine js_S rfl rfl (.inl rfl) (xv_ia (sz := 1) (j := j) sl22 ty3 rfl rfl rfl (by (first | assumption | with_reducible exact Int.toNat_natCast _ | with_reducible rfl | rfl)) (by (first | omega | (dsimp only at *; omega) | (simp at *; omega))) (by (first | omega | (dsimp only at *; omega) | (simp at *; omega))) ⟨rfl, rfl⟩) ?_
            refine js_R0 rfl rfl (.inl rfl) (xv_load1 ty3 rfl rfl (by (first|((repeat first|exact z_0|assumption|refine z_1 ?_|refine z_r ?_);done)|((repeat refine z_1 ?_);refine z_l ?_;(repeat first|exact z_0|assumption|refine z_1 ?_|refine z_r ?_);done)|((repeat refine z_1 ?_);refine z_r ?_;(repeat refine z_1 ?_);refine z_l ?_;(repeat first|exact z_0|assumption|refine z_1 ?_|refine z_r ?_);done)|((repeat first|exact z_0|assumption|refine z_1 ?_|refine z_l ?_);done))) (li_get hjN) ⟨rfl, rfl⟩) ?_
            refine js_S rfl rfl (.inl rfl) (xv_move rfl ⟨rfl, rfl⟩) ?_
            refine js_S rfl rfl (.inl rfl) (xv_move rfl ⟨rfl, rfl⟩) ?_
            refine js_S rfl rfl (.inl rfl) (xv_ia (sz := 2) (j := j) sl35 ty41 rfl (by rw [hae]; rfl) rfl (by (first | assumption | with_reducible exact Int.toNat_natCast _ | with_reducible rfl | rfl)) (by (first | omega | (dsimp only at *; omega) | (simp at *; omega))) (by (first | omega | (dsimp only at *; omega) | (simp at *; omega))) ⟨rfl, rfl⟩) ?_
            refine js_S rfl rfl (.inl rfl) (xv_faddr fl41_0 rfl ⟨rfl, rfl⟩) ?_
            refine js_R0 rfl rfl (.inl rfl) (xv_load1 ty3 rfl rfl (by (first|((repeat first|exact z_0|assumption|refine z_1 ?_|refine z_r ?_);done)|((repeat refine z_1 ?_);refine z_l ?_;(repeat first|exact z_0|assumption|refine z_1 ?_|refine z_r ?_);done)|((repeat refine z_1 ?_);refine z_r ?_;(repeat refine z_1 ?_);refine z_l ?_;(repeat first|exact z_0|assumption|refine z_1 ?_|refine z_r ?_);done)|((repeat first|exact z_0|assumption|refine z_1 ?_|refine z_l ?_);done))) (take_get (hxe (j) (G j) hke) (j := 0) rfl) ⟨rfl, rfl⟩) ?_
            refine js_S rfl rfl (.inl rfl) (xv_cmpK rfl rfl (cmpF rfl (by simp only [cmpP]; (first | omega | (dsimp only at *; omega) | (simp at *; omega)))) ⟨rfl, rfl⟩) ?_
            refine js_S rfl rfl (.inl rfl) (xv_move rfl ⟨rfl, rfl⟩) ?_
            refine js_S rfl rfl (.inr ⟨_, _, rfl, rfl⟩) (xv_move rfl ⟨rfl, rfl⟩) ?_
            refine js_S rfl rfl (.inr ⟨_, _, rfl, rfl⟩) (xv_move rfl ⟨rfl, rfl⟩) ?_
            refine js_S rfl rfl (.inr ⟨_, _, rfl, rfl⟩) (xv_ia (sz := 1) (j := j) sl22 ty3 rfl rfl rfl (by (first | assumption | with_reducible exact Int.toNat_natCast _ | with_reducible rfl | rfl)) (by (first | omega | (dsimp only at *; omega) | (simp at *; omega))) (by (first | omega | (dsimp only at *; omega) | (simp at *; omega))) ⟨rfl, rfl⟩) ?_
            refine js_R0 rfl rfl (.inr ⟨_, _, rfl, rfl⟩) (xv_load1 ty3 rfl rfl (by (first|((repeat first|exact z_0|assumption|refine z_1 ?_|refine z_r ?_);done)|((repeat refine z_1 ?_);refine z_l ?_;(repeat first|exact z_0|assumption|refine z_1 ?_|refine z_r ?_);done)|((repeat refine z_1 ?_);refine z_r ?_;(repeat refine z_1 ?_);refine z_l ?_;(repeat first|exact z_0|assumption|refine z_1 ?_|refine z_r ?_);done)|((repeat first|exact z_0|assumption|refine z_1 ?_|refine z_l ?_);done))) (li_get hjN) ⟨rfl, rfl⟩) ?_
            refine js_S rfl rfl (.inr ⟨_, _, rfl, rfl⟩) (xv_move rfl ⟨rfl, rfl⟩) ?_
            refine js_S rfl rfl (.inr ⟨_, _, rfl, rfl⟩) (xv_move rfl ⟨rfl, rfl⟩) ?_
            refine js_S rfl rfl (.inr ⟨_, _, rfl, rfl⟩) (xv_ia (sz := 2) (j := j) sl35 ty41 rfl (by rw [hae]; rfl) rfl (by (first | assumption | with_reducible exact Int.toNat_natCast _ | with_reducible rfl | rfl)) (by (first | omega | (dsimp only at *; omega) | (simp at *; omega))) (by (first | omega | (dsimp only at *; omega) | (simp at *; omega))) ⟨rfl, rfl⟩) ?_
            refine js_S rfl rfl (.inr ⟨_, _, rfl, rfl⟩) (xv_faddr fl41_1 rfl ⟨rfl, rfl⟩) ?_
            refine js_R0 rfl rfl (.inr ⟨_, _, rfl, rfl⟩) (xv_load1 ty3 rfl rfl (by (first|((repeat first|exact z_0|assumption|refine z_1 ?_|refine z_r ?_);done)|((repeat refine z_1 ?_);refine z_l ?_;(repeat first|exact z_0|assumption|refine z_1 ?_|refine z_r ?_);done)|((repeat refine z_1 ?_);refine z_r ?_;(repeat refine z_1 ?_);refine z_l ?_;(repeat first|exact z_0|assumption|refine z_1 ?_|refine z_r ?_);done)|((repeat first|exact z_0|assumption|refine z_1 ?_|refine z_l ?_);done))) (take_get (hxe (j) (G j) hke) (j := 1) rfl) ⟨rfl, rfl⟩) ?_
            refine js_S rfl rfl (.inr ⟨_, _, rfl, rfl⟩) (xv_cmpK rfl rfl (cmpF rfl (by simp only [cmpP]; (first | omega | (dsimp only at *; omega) | (simp at *; omega)))) ⟨rfl, rfl⟩) ?_
            refine js_S rfl rfl (.inl rfl) (xv_pick rfl rfl ⟨rfl, rfl⟩) ?_
            refine js_S rfl rfl (.inl rfl) (xv_move rfl ⟨rfl, rfl⟩) ?_
            refine js_S rfl rfl (.inr ⟨_, _, rfl, rfl⟩) (xv_move rfl ⟨rfl, rfl⟩) ?_
            refine js_S rfl rfl (.inr ⟨_, _, rfl, rfl⟩) (xv_move rfl ⟨rfl, rfl⟩) ?_
            refine js_S rfl rfl (.inr ⟨_, _, rfl, rfl⟩) (xv_ia (sz := 1) (j := j) sl22 ty3 rfl rfl rfl (by (first | assumption | with_reducible exact Int.toNat_natCast _ | with_reducible rfl | rfl)) (by (first | omega | (dsimp only at *; omega) | (simp at *; omega))) (by (first | omega | (dsimp only at *; omega) | (simp at *; omega))) ⟨rfl, rfl⟩) ?_
            refine js_R0 rfl rfl (.inr ⟨_, _, rfl, rfl⟩) (xv_load1 ty3 rfl rfl (by (first|((repeat first|exact z_0|assumption|refine z_1 ?_|refine z_r ?_);done)|((repeat refine z_1 ?_);refine z_l ?_;(repeat first|exact z_0|assumption|refine z_1 ?_|refine z_r ?_);done)|((repeat refine z_1 ?_);refine z_r ?_;(repeat refine z_1 ?_);refine z_l ?_;(repeat first|exact z_0|assumption|refine z_1 ?_|refine z_r ?_);done)|((repeat first|exact z_0|assumption|refine z_1 ?_|refine z_l ?_);done))) (li_get hjN) ⟨rfl, rfl⟩) ?_
            refine js_S rfl rfl (.inr ⟨_, _, rfl, rfl⟩) (xv_move rfl ⟨rfl, rfl⟩) ?_
            refine js_S rfl rfl (.inr ⟨_, _, rfl, rfl⟩) (xv_move rfl ⟨rfl, rfl⟩) ?_
            refine js_S rfl rfl (.inr ⟨_, _, rfl, rfl⟩) (xv_ia (sz := 2) (j := j) sl35 ty41 rfl (by rw [hae]; rfl) rfl (by (first | assumption | with_reducible exact Int.toNat_natCast _ | with_reducible rfl | rfl)) (by (first | omega | (dsimp only at *; omega) | (simp at *; omega))) (by (first | omega | (dsimp only at *; omega) | (simp at *; omega))) ⟨rfl, rfl⟩) ?_
            refine js_S rfl rfl (.inr ⟨_, _, rfl, rfl⟩) (xv_faddr fl41_0 rfl ⟨rfl, rfl⟩) ?_
            refine js_R0 rfl rfl (.inr ⟨_, _, rfl, rfl⟩) (xv_load1 ty3 rfl rfl (by (first|((repeat first|exact z_0|assumption|refine z_1 ?_|refine z_r ?_);done)|((repeat refine z_1 ?_);refine z_l ?_;(repeat first|exact z_0|assumption|refine z_1 ?_|refine z_r ?_);done)|((repeat refine z_1 ?_);refine z_r ?_;(repeat refine z_1 ?_);refine z_l ?_;(repeat first|exact z_0|assumption|refine z_1 ?_|refine z_r ?_);done)|((repeat first|exact z_0|assumption|refine z_1 ?_|refine z_l ?_);done))) (take_get (hxe (j) (G j) hke) (j := 0) rfl) ⟨rfl, rfl⟩) ?_
            refine js_S rfl rfl (.inr ⟨_, _, rfl, rfl⟩) (xv_neqF rfl rfl rfl ⟨rfl, rfl⟩) ?_
            refine js_S rfl rfl (.inl rfl) (xv_pick rfl rfl ⟨rfl, rfl⟩) ?_
            refine j_end0 ?_
            refine th_n ?_
            refine xc_false rfl ?_
            refine xc_skip ?_
            refine bk_n ?_
            refine th_n ?_
            refine xc_region ?_
            refine xr_op rfl rfl (xv_move rfl ?_)
            refine xr_op rfl rfl (xv_add rfl rfl (wrap_i64 (by (first | omega | (dsimp only at *; omega) | (simp at *; omega))) (by (first | omega | (dsimp only at *; omega) | (simp at *; omega)))) ?_)
            refine xr_op rfl rfl (xv_assign rfl ?_)
            refine xr_end rfl ?_
            exact rnd (j + 1) (by (first | omega | (dsimp only at *; omega) | (simp at *; omega))) (by (first | omega | (dsimp only at *; omega) | (simp at *; omega))) (le_put (le_put (le_put (le_put (le_put (le_put (le_put (le_put (le_emp _) rfl) rfl) rfl) rfl) rfl) rfl) rfl) rfl) (by (first|((repeat first|exact s_0|exact s_1|exact s_3|refine s_4 ?_|refine s_5 ?_|refine s_6 ?_|refine s_7 ?_);done)|((repeat first|exact s_0|exact s_1|exact s_3|refine s_4 ?_|refine s_5 ?_|refine s_6 ?_|refine s_8 ?_);done)))
          · refine xr_end rfl ?_
            refine th_n ?_
            refine xc_false rfl ?_
            refine xc_exit ?_
            refine th_x ?_
            refine th_x ?_
            refine bk_same ?_
            refine th_n ?_
            refine xc_seq (xc_region ?_)
            obtain rfl : j = y.stock.length := by (first | omega | (dsimp only at *; omega) | (simp at *; omega))
            refine xr_op rfl rfl (xv_move rfl ?_)
            refine xr_op rfl rfl (xv_neg rfl (wrap_i64 (by (first | omega | (dsimp only at *; omega) | (simp at *; omega))) (by (first | omega | (dsimp only at *; omega) | (simp at *; omega)))) ?_)
            refine xr_op rfl rfl (xv_assign rfl ?_)
            refine xr_end rfl ?_
            refine th_n ?_
            refine xc_seq ?_
            refine xc_seq (xc_region ?_)
            refine xr_op rfl rfl (xv_assign rfl ?_)
            refine xr_end rfl ?_
            refine th_n ?_
            refine xc_block ?_
            have hpy0 : ((pays y.stills plan).sum + valF y.sales (sF (sellY y G).sold) (nums 0)) = 0 - -((pays y.stills plan).take plan.length).sum := by rw [List.take_of_length_le (by omega)]; simp [nums, valF]
            refine xc_loop (σ := Nat) (fun m => m ≤ y.sales.length) (fun m => (((((((emp.put (some 3) (.pointer (some ⟨b3, 0, none⟩))).put (some 9) (I (incomeY y plan G))).put (some 10) (.slice p2 (sellY y G).sold.length d2)).put (some 12) (.slice (some ⟨bT, 0, none⟩) y.stock.length cT)).put (some 13) (.slice (some ⟨bL, 0, none⟩) y.stock.length cL)).put (some 24) (I ((pays y.stills plan).sum + valF y.sales (sF (sellY y G).sold) (nums m)))).put (some 25) (I m))) (fun m => ((bL, .cells ⟨(ll (afterS y (sellY y G).sold (loOf G) m) y.stock.length).flatMap eI ++ spL⟩ 3) :: (bT, .cells ⟨(ll (afterS y (sellY y G).sold T m) y.stock.length).flatMap eI ++ spT⟩ 3) :: (q2 ++ (q1 ++ (b3, .cells ⟨eYard y⟩ 26) :: h)))) (fun m => y.sales.length - m) 0 (Nat.zero_le _) (le_put (le_put (le_put (le_put (le_put (le_put (le_put (le_emp _) rfl) rfl) rfl) rfl) rfl) (by rw [hpy0]; rfl)) rfl) (by rw [afterS_zero, afterS_zero]; (first|((repeat first|exact s_0|exact s_1|exact s_3|refine s_4 ?_|refine s_5 ?_|refine s_6 ?_|refine s_7 ?_);done)|((repeat first|exact s_0|exact s_1|exact s_3|refine s_4 ?_|refine s_5 ?_|refine s_6 ?_|refine s_8 ?_);done))) ?_
            rintro m hm
            refine xc_seq ?_
            refine xc_seq (xc_region ?_)
            refine xr_op rfl rfl (xv_move rfl ?_)
            refine xr_op rfl rfl (xv_move rfl ?_)
            refine xr_op rfl rfl (xv_len sl22 rfl ?_)
            refine xr_op rfl rfl (xv_lss2 rfl rfl (fun q12 => ?_) (fun q12 => ?_))
            · refine xr_end rfl ?_
              refine th_n ?_
              refine xc_true rfl ?_
              refine xc_skip ?_
              refine th_n ?_
              refine xc_seq ?_
              refine xc_block ?_
              refine xc_seq (xc_region ?_)
              have hlts : m < y.sales.length := by (first | omega | (dsimp only at *; omega) | (simp at *; omega))
              obtain ⟨bs, os, ls, ts, fzs, has, hms, hxs⟩ := (hv.sales).at hlts
              obtain ⟨xs, hks⟩ : ∃ qq_, y.sales[m]? = some qq_ := ⟨_, List.getElem?_eq_getElem hlts⟩
              have hltt : m < (sellY y G).sold.length := by rw [hSo.len]; (first | omega | (dsimp only at *; omega) | (simp at *; omega))
              obtain ⟨bt, ot, lt, tt, fzt, hat, hmt, hxt⟩ := (s2).at hltt
              obtain ⟨xt, hkt⟩ : ∃ qq_, (sellY y G).sold[m]? = some qq_ := ⟨_, List.getElem?_eq_getElem hltt⟩
              obtain ⟨⟨sg1, sg2⟩, ⟨sm1, sm2⟩, sp1, sp2⟩ := hy.sales xs (List.mem_of_getElem? hks)
              have hsb := hSo.bd m xs xt hks hkt
              have hgN : xs.good.toNat < y.stock.length := by omega
              have hmu := mul_bd hsb.1 (show xt ≤ 1048576 by omega) sp1 sp2
              have huf := useF_bd (y := y) (P := 0) (d := xs.good.toNat) hsbd m
              have hvf := valF_bd (y := y) hsbd m (hprb m hm)
              have hwg := hwi xs.good.toNat
              have hgg := hgb xs.good.toNat
              have hm6 : (m : Int) ≤ 6 := by omega
              have hT5 : (afterS y (sellY y G).sold T m) xs.good.toNat = T xs.good.toNat - useF y.sales (sF (sellY y G).sold) (nums m) xs.good.toNat := rfl
              have hL5 : (afterS y (sellY y G).sold (loOf G) m) xs.good.toNat = (G xs.good.toNat).lo - useF y.sales (sF (sellY y G).sold) (nums m) xs.good.toNat := rfl
              refine xr_op rfl rfl (xv_faddr fl26_2 rfl ?_)
              refine xr_op rfl rfl (xv_load1 ty24 rfl rfl (by (first|((repeat first|exact z_0|assumption|refine z_1 ?_|refine z_r ?_);done)|((repeat refine z_1 ?_);refine z_l ?_;(repeat first|exact z_0|assumption|refine z_1 ?_|refine z_r ?_);done)|((repeat refine z_1 ?_);refine z_r ?_;(repeat refine z_1 ?_);refine z_l ?_;(repeat first|exact z_0|assumption|refine z_1 ?_|refine z_r ?_);done)|((repeat first|exact z_0|assumption|refine z_1 ?_|refine z_l ?_);done))) (by rfl) ?_)
              refine xr_op rfl rfl (xv_move rfl ?_)
              refine xr_op rfl rfl (xv_ia (sz := 3) (j := m) sl24 ty51 rfl (by rw [has]; rfl) rfl (by (first | assumption | with_reducible exact Int.toNat_natCast _ | with_reducible rfl | rfl)) (by (first | omega | (dsimp only at *; omega) | (simp at *; omega))) (by (first | omega | (dsimp only at *; omega) | (simp at *; omega))) ?_)
              refine xr_op rfl rfl (xv_loadA ty51 rfl rfl (by (first|((repeat first|exact z_0|assumption|refine z_1 ?_|refine z_r ?_);done)|((repeat refine z_1 ?_);refine z_l ?_;(repeat first|exact z_0|assumption|refine z_1 ?_|refine z_r ?_);done)|((repeat refine z_1 ?_);refine z_r ?_;(repeat refine z_1 ?_);refine z_l ?_;(repeat first|exact z_0|assumption|refine z_1 ?_|refine z_r ?_);done)|((repeat first|exact z_0|assumption|refine z_1 ?_|refine z_l ?_);done))) (hxs (m) xs hks) rfl ?_)
              refine xr_op rfl rfl (xv_alloc ty51 (fun b26 hb26 => ?_))
              refine xr_op rfl rfl (xv_s ty51 rfl rfl (by (first|(apply u_3;(repeat first|exact u_0|assumption|apply u_1|apply u_2);done)|((repeat first|exact u_0|assumption|apply u_1|apply u_2);done)|(apply u_3;apply u_3;(repeat first|exact u_0|assumption|apply u_1|apply u_2);done)|((repeat first|exact u_0|assumption|apply u_3|apply u_1);done))) (by ((try apply evl_some rfl);(repeat (first|exact (rfl : _ = [])|apply evl_cons rfl (by (first|exact v_1|exact v_2|exact v_3|exact v_4|exact v_5|exact v_6|exact v_7|exact v_8|exact v_9|exact rfl))|exact rfl)))) (by rfl) (by rfl) (by rfl) (by ((try apply evl_some rfl);(repeat (first|exact (rfl : _ = [])|apply evl_cons rfl (by (first|exact v_1|exact v_2|exact v_3|exact v_4|exact v_5|exact v_6|exact v_7|exact v_8|exact v_9|exact rfl))|exact rfl)))) ?_)
              refine xr_end rfl ?_
              refine th_n ?_
              refine xc_seq ?_
              refine xc_seq ?_
              refine xc_draw0 [(0, .S), (1, .S), (2, .S), (3, .R), (4, .S), (5, .S), (6, .S), (7, .S), (8, .S), (9, .R), (10, .S), (11, .R), (12, .S), (13, .S)] mixed (by kernel_rfl) ?_
              refine js_S rfl rfl (.inl rfl) (xv_move rfl ⟨rfl, rfl⟩) ?_
              refine js_S rfl rfl (.inl rfl) (xv_move rfl ⟨rfl, rfl⟩) ?_
              refine js_S rfl rfl (.inl rfl) (xv_ia (sz := 1) (j := m) sl22 ty3 rfl (by rw [hat]; rfl) rfl (by (first | assumption | with_reducible exact Int.toNat_natCast _ | with_reducible rfl | rfl)) (by (first | omega | (dsimp only at *; omega) | (simp at *; omega))) (by (first | omega | (dsimp only at *; omega) | (simp at *; omega))) ⟨rfl, rfl⟩) ?_
              refine js_R0 rfl rfl (.inl rfl) (xv_load1 ty3 rfl rfl (by (first|((repeat first|exact z_0|assumption|refine z_1 ?_|refine z_r ?_);done)|((repeat refine z_1 ?_);refine z_l ?_;(repeat first|exact z_0|assumption|refine z_1 ?_|refine z_r ?_);done)|((repeat refine z_1 ?_);refine z_r ?_;(repeat refine z_1 ?_);refine z_l ?_;(repeat first|exact z_0|assumption|refine z_1 ?_|refine z_r ?_);done)|((repeat first|exact z_0|assumption|refine z_1 ?_|refine z_l ?_);done))) (take_get (hxt (m) xt hkt) (j := 0) rfl) ⟨rfl, rfl⟩) ?_
              refine js_S rfl rfl (.inl rfl) (xv_cmpK rfl rfl (cmpF rfl (by simp only [cmpP]; (first | omega | (dsimp only at *; omega) | (simp at *; omega)))) ⟨rfl, rfl⟩) ?_
              refine js_S rfl rfl (.inl rfl) (xv_move rfl ⟨rfl, rfl⟩) ?_
              refine js_S rfl rfl (.inr ⟨_, _, rfl, rfl⟩) (xv_move rfl ⟨rfl, rfl⟩) ?_
              refine js_S rfl rfl (.inr ⟨_, _, rfl, rfl⟩) (xv_move rfl ⟨rfl, rfl⟩) ?_
              refine js_S rfl rfl (.inr ⟨_, _, rfl, rfl⟩) (xv_ia (sz := 1) (j := m) sl22 ty3 rfl (by rw [hat]; rfl) rfl (by (first | assumption | with_reducible exact Int.toNat_natCast _ | with_reducible rfl | rfl)) (by (first | omega | (dsimp only at *; omega) | (simp at *; omega))) (by (first | omega | (dsimp only at *; omega) | (simp at *; omega))) ⟨rfl, rfl⟩) ?_
              refine js_R0 rfl rfl (.inr ⟨_, _, rfl, rfl⟩) (xv_load1 ty3 rfl rfl (by (first|((repeat first|exact z_0|assumption|refine z_1 ?_|refine z_r ?_);done)|((repeat refine z_1 ?_);refine z_l ?_;(repeat first|exact z_0|assumption|refine z_1 ?_|refine z_r ?_);done)|((repeat refine z_1 ?_);refine z_r ?_;(repeat refine z_1 ?_);refine z_l ?_;(repeat first|exact z_0|assumption|refine z_1 ?_|refine z_r ?_);done)|((repeat first|exact z_0|assumption|refine z_1 ?_|refine z_l ?_);done))) (take_get (hxt (m) xt hkt) (j := 0) rfl) ⟨rfl, rfl⟩) ?_
              refine js_S rfl rfl (.inr ⟨_, _, rfl, rfl⟩) (xv_faddr fl51_1 rfl ⟨rfl, rfl⟩) ?_
              refine js_R0 rfl rfl (.inr ⟨_, _, rfl, rfl⟩) (xv_load1 ty3 rfl rfl (by (first|((repeat first|exact z_0|assumption|refine z_1 ?_|refine z_r ?_);done)|((repeat refine z_1 ?_);refine z_l ?_;(repeat first|exact z_0|assumption|refine z_1 ?_|refine z_r ?_);done)|((repeat refine z_1 ?_);refine z_r ?_;(repeat refine z_1 ?_);refine z_l ?_;(repeat first|exact z_0|assumption|refine z_1 ?_|refine z_r ?_);done)|((repeat first|exact z_0|assumption|refine z_1 ?_|refine z_l ?_);done))) (by rfl) ⟨rfl, rfl⟩) ?_
              refine js_S rfl rfl (.inr ⟨_, _, rfl, rfl⟩) (xv_cmpK rfl rfl (cmpF rfl (by simp only [cmpP]; (first | omega | (dsimp only at *; omega) | (simp at *; omega)))) ⟨rfl, rfl⟩) ?_
              refine js_S rfl rfl (.inl rfl) (xv_pick rfl rfl ⟨rfl, rfl⟩) ?_
              refine j_end0 ?_
              refine th_n ?_
              refine xc_false rfl ?_
              refine xc_skip ?_
              refine th_n ?_
              refine xc_seq ?_
              refine xc_drawL (L := [(b26, fun o => o = .cells ⟨eSale xs⟩ 51 (0, 0))]) [(0, .S), (1, .S), (2, .R), (3, .S), (4, .S), (5, .S), (6, .S), (7, .S), (8, .R), (9, .S), (10, .R), (11, .S), (12, .S), (13, .S), (14, .R), (15, .S), (16, .S), (17, .S), (18, .R), (19, .S), (20, .R), (21, .S), (22, .S), (23, .S), (24, .R), (25, .S), (26, .S), (27, .O), (28, .S), (29, .O)] [] _ mixed (by kernel_rfl) (by rw [List.append_nil]) ((holds1 (by (first|((repeat first|exact z_0|assumption|refine z_1 ?_|refine z_r ?_);done)|((repeat refine z_1 ?_);refine z_l ?_;(repeat first|exact z_0|assumption|refine z_1 ?_|refine z_r ?_);done)|((repeat refine z_1 ?_);refine z_r ?_;(repeat refine z_1 ?_);refine z_l ?_;(repeat first|exact z_0|assumption|refine z_1 ?_|refine z_r ?_);done)|((repeat first|exact z_0|assumption|refine z_1 ?_|refine z_l ?_);done))) rfl)) ?_
              refine js_S rfl rfl (.inl rfl) (xv_move rfl ⟨rfl, rfl⟩) ?_
              refine js_S rfl rfl (.inl rfl) (xv_faddr fl51_0 rfl ⟨rfl, rfl⟩) ?_
              refine js_R0 rfl rfl (.inl rfl) (xv_load1 ty3 rfl rfl (by (first|((repeat first|exact z_0|assumption|refine z_1 ?_|refine z_r ?_);done)|((repeat refine z_1 ?_);refine z_l ?_;(repeat first|exact z_0|assumption|refine z_1 ?_|refine z_r ?_);done)|((repeat refine z_1 ?_);refine z_r ?_;(repeat refine z_1 ?_);refine z_l ?_;(repeat first|exact z_0|assumption|refine z_1 ?_|refine z_r ?_);done)|((repeat first|exact z_0|assumption|refine z_1 ?_|refine z_l ?_);done))) (by rfl) ⟨rfl, rfl⟩) ?_
              refine js_S rfl rfl (.inl rfl) (xv_move rfl ⟨rfl, rfl⟩) ?_
              refine js_S rfl rfl (.inl rfl) (xv_faddr fl51_0 rfl ⟨rfl, rfl⟩) ?_
              refine js_I rfl rfl (.inl rfl) (fun hh hv => by obtain ⟨o, hm, rfl⟩ := hv b26 _ List.mem_cons_self; exact xv_load1 ty3 rfl rfl (List.mem_append_left _ hm) rfl ⟨rfl, rfl⟩) ?_
              refine js_S rfl rfl (.inl rfl) (xv_move rfl ⟨rfl, rfl⟩) ?_
              refine js_S rfl rfl (.inl rfl) (xv_faddr fl51_0 rfl ⟨rfl, rfl⟩) ?_
              refine js_R0 rfl rfl (.inl rfl) (xv_load1 ty3 rfl rfl (by (first|((repeat first|exact z_0|assumption|refine z_1 ?_|refine z_r ?_);done)|((repeat refine z_1 ?_);refine z_l ?_;(repeat first|exact z_0|assumption|refine z_1 ?_|refine z_r ?_);done)|((repeat refine z_1 ?_);refine z_r ?_;(repeat refine z_1 ?_);refine z_l ?_;(repeat first|exact z_0|assumption|refine z_1 ?_|refine z_r ?_);done)|((repeat first|exact z_0|assumption|refine z_1 ?_|refine z_l ?_);done))) (by rfl) ⟨rfl, rfl⟩) ?_
              refine js_S rfl rfl (.inl rfl) (xv_ia (sz := 1) (j := xs.good.toNat) sl22 ty3 rfl rfl rfl rfl (by (first | omega | (dsimp only at *; omega) | (simp at *; omega))) (by (first | omega | (dsimp only at *; omega) | (simp at *; omega))) ⟨rfl, rfl⟩) ?_
              refine js_R0 rfl rfl (.inl rfl) (xv_load1 ty3 rfl rfl (by (first|((repeat first|exact z_0|assumption|refine z_1 ?_|refine z_r ?_);done)|((repeat refine z_1 ?_);refine z_l ?_;(repeat first|exact z_0|assumption|refine z_1 ?_|refine z_r ?_);done)|((repeat refine z_1 ?_);refine z_r ?_;(repeat refine z_1 ?_);refine z_l ?_;(repeat first|exact z_0|assumption|refine z_1 ?_|refine z_r ?_);done)|((repeat first|exact z_0|assumption|refine z_1 ?_|refine z_l ?_);done))) (li_get hgN) ⟨rfl, rfl⟩) ?_
              refine js_S rfl rfl (.inl rfl) (xv_move rfl ⟨rfl, rfl⟩) ?_
              refine js_S rfl rfl (.inl rfl) (xv_move rfl ⟨rfl, rfl⟩) ?_
              refine js_S rfl rfl (.inl rfl) (xv_ia (sz := 1) (j := m) sl22 ty3 rfl (by rw [hat]; rfl) rfl (by (first | assumption | with_reducible exact Int.toNat_natCast _ | with_reducible rfl | rfl)) (by (first | omega | (dsimp only at *; omega) | (simp at *; omega))) (by (first | omega | (dsimp only at *; omega) | (simp at *; omega))) ⟨rfl, rfl⟩) ?_
              refine js_R0 rfl rfl (.inl rfl) (xv_load1 ty3 rfl rfl (by (first|((repeat first|exact z_0|assumption|refine z_1 ?_|refine z_r ?_);done)|((repeat refine z_1 ?_);refine z_l ?_;(repeat first|exact z_0|assumption|refine z_1 ?_|refine z_r ?_);done)|((repeat refine z_1 ?_);refine z_r ?_;(repeat refine z_1 ?_);refine z_l ?_;(repeat first|exact z_0|assumption|refine z_1 ?_|refine z_r ?_);done)|((repeat first|exact z_0|assumption|refine z_1 ?_|refine z_l ?_);done))) (take_get (hxt (m) xt hkt) (j := 0) rfl) ⟨rfl, rfl⟩) ?_
              refine js_S rfl rfl (.inl rfl) (xv_sub rfl rfl (wrap_i64 (by (first | omega | (dsimp only at *; omega) | (simp at *; omega))) (by (first | omega | (dsimp only at *; omega) | (simp at *; omega)))) ⟨rfl, rfl⟩) ?_
              refine js_S rfl rfl (.inl rfl) (xv_move rfl ⟨rfl, rfl⟩) ?_
              refine js_S rfl rfl (.inl rfl) (xv_faddr fl51_0 rfl ⟨rfl, rfl⟩) ?_
              refine js_R0 rfl rfl (.inl rfl) (xv_load1 ty3 rfl rfl (by (first|((repeat first|exact z_0|assumption|refine z_1 ?_|refine z_r ?_);done)|((repeat refine z_1 ?_);refine z_l ?_;(repeat first|exact z_0|assumption|refine z_1 ?_|refine z_r ?_);done)|((repeat refine z_1 ?_);refine z_r ?_;(repeat refine z_1 ?_);refine z_l ?_;(repeat first|exact z_0|assumption|refine z_1 ?_|refine z_r ?_);done)|((repeat first|exact z_0|assumption|refine z_1 ?_|refine z_l ?_);done))) (by rfl) ⟨rfl, rfl⟩) ?_
              refine js_S rfl rfl (.inl rfl) (xv_ia (sz := 1) (j := xs.good.toNat) sl22 ty3 rfl rfl rfl rfl (by (first | omega | (dsimp only at *; omega) | (simp at *; omega))) (by (first | omega | (dsimp only at *; omega) | (simp at *; omega))) ⟨rfl, rfl⟩) ?_
              refine js_R0 rfl rfl (.inl rfl) (xv_load1 ty3 rfl rfl (by (first|((repeat first|exact z_0|assumption|refine z_1 ?_|refine z_r ?_);done)|((repeat refine z_1 ?_);refine z_l ?_;(repeat first|exact z_0|assumption|refine z_1 ?_|refine z_r ?_);done)|((repeat refine z_1 ?_);refine z_r ?_;(repeat refine z_1 ?_);refine z_l ?_;(repeat first|exact z_0|assumption|refine z_1 ?_|refine z_r ?_);done)|((repeat first|exact z_0|assumption|refine z_1 ?_|refine z_l ?_);done))) (li_get hgN) ⟨rfl, rfl⟩) ?_
              refine js_S rfl rfl (.inl rfl) (xv_move rfl ⟨rfl, rfl⟩) ?_
              refine js_S rfl rfl (.inl rfl) (xv_move rfl ⟨rfl, rfl⟩) ?_
              refine js_S rfl rfl (.inl rfl) (xv_ia (sz := 1) (j := m) sl22 ty3 rfl (by rw [hat]; rfl) rfl (by (first | assumption | with_reducible exact Int.toNat_natCast _ | with_reducible rfl | rfl)) (by (first | omega | (dsimp only at *; omega) | (simp at *; omega))) (by (first | omega | (dsimp only at *; omega) | (simp at *; omega))) ⟨rfl, rfl⟩) ?_
              refine js_R0 rfl rfl (.inl rfl) (xv_load1 ty3 rfl rfl (by (first|((repeat first|exact z_0|assumption|refine z_1 ?_|refine z_r ?_);done)|((repeat refine z_1 ?_);refine z_l ?_;(repeat first|exact z_0|assumption|refine z_1 ?_|refine z_r ?_);done)|((repeat refine z_1 ?_);refine z_r ?_;(repeat refine z_1 ?_);refine z_l ?_;(repeat first|exact z_0|assumption|refine z_1 ?_|refine z_r ?_);done)|((repeat first|exact z_0|assumption|refine z_1 ?_|refine z_l ?_);done))) (take_get (hxt (m) xt hkt) (j := 0) rfl) ⟨rfl, rfl⟩) ?_
              refine js_S rfl rfl (.inl rfl) (xv_sub rfl rfl (wrap_i64 (by (first | omega | (dsimp only at *; omega) | (simp at *; omega))) (by (first | omega | (dsimp only at *; omega) | (simp at *; omega)))) ⟨rfl, rfl⟩) ?_
              refine js_S rfl rfl (.inl rfl) (xv_ia (sz := 1) (j := xs.good.toNat) sl22 ty3 rfl rfl rfl rfl (by (first | omega | (dsimp only at *; omega) | (simp at *; omega))) (by (first | omega | (dsimp only at *; omega) | (simp at *; omega))) ⟨rfl, rfl⟩) ?_
              refine js_OL0 rfl rfl (.inl rfl) (xv_s1 ty3 rfl rfl rfl (by (first|(apply u_3;(repeat first|exact u_0|assumption|apply u_1|apply u_2);done)|((repeat first|exact u_0|assumption|apply u_1|apply u_2);done)|(apply u_3;apply u_3;(repeat first|exact u_0|assumption|apply u_1|apply u_2);done)|((repeat first|exact u_0|assumption|apply u_3|apply u_1);done))) rfl (li_lt hgN) (li_set hgN) ?_)
              refine ⟨(holds1 (by (first|((repeat first|exact z_0|assumption|refine z_1 ?_|refine z_r ?_);done)|((repeat refine z_1 ?_);refine z_l ?_;(repeat first|exact z_0|assumption|refine z_1 ?_|refine z_r ?_);done)|((repeat refine z_1 ?_);refine z_r ?_;(repeat refine z_1 ?_);refine z_l ?_;(repeat first|exact z_0|assumption|refine z_1 ?_|refine z_r ?_);done)|((repeat first|exact z_0|assumption|refine z_1 ?_|refine z_l ?_);done))) rfl), ?_⟩
              refine js_S rfl rfl (.inl rfl) (xv_ia (sz := 1) (j := xs.good.toNat) sl22 ty3 rfl rfl rfl rfl (by (first | omega | (dsimp only at *; omega) | (simp at *; omega))) (by (first | omega | (dsimp only at *; omega) | (simp at *; omega))) ⟨rfl, rfl⟩) ?_
              refine js_OL0 rfl rfl (.inl rfl) (xv_s1 ty3 rfl rfl rfl (by (first|(apply u_3;(repeat first|exact u_0|assumption|apply u_1|apply u_2);done)|((repeat first|exact u_0|assumption|apply u_1|apply u_2);done)|(apply u_3;apply u_3;(repeat first|exact u_0|assumption|apply u_1|apply u_2);done)|((repeat first|exact u_0|assumption|apply u_3|apply u_1);done))) rfl (li_lt hgN) (li_set hgN) ?_)
              refine ⟨(holds1 (by (first|((repeat first|exact z_0|assumption|refine z_1 ?_|refine z_r ?_);done)|((repeat refine z_1 ?_);refine z_l ?_;(repeat first|exact z_0|assumption|refine z_1 ?_|refine z_r ?_);done)|((repeat refine z_1 ?_);refine z_r ?_;(repeat refine z_1 ?_);refine z_l ?_;(repeat first|exact z_0|assumption|refine z_1 ?_|refine z_r ?_);done)|((repeat first|exact z_0|assumption|refine z_1 ?_|refine z_l ?_);done))) rfl), ?_⟩
              refine j_end0 ?_
              refine th_n ?_
              refine xc_draw0 [(0, .S), (1, .S), (2, .S), (3, .S), (4, .R), (5, .S), (6, .R), (7, .S), (8, .S), (9, .S)] mixed (by kernel_rfl) ?_
              refine js_S rfl rfl (.inl rfl) (xv_move rfl ⟨rfl, rfl⟩) ?_
              refine js_S rfl rfl (.inl rfl) (xv_move rfl ⟨rfl, rfl⟩) ?_
              refine js_S rfl rfl (.inl rfl) (xv_move rfl ⟨rfl, rfl⟩) ?_
              refine js_S rfl rfl (.inl rfl) (xv_ia (sz := 1) (j := m) sl22 ty3 rfl (by rw [hat]; rfl) rfl (by (first | assumption | with_reducible exact Int.toNat_natCast _ | with_reducible rfl | rfl)) (by (first | omega | (dsimp only at *; omega) | (simp at *; omega))) (by (first | omega | (dsimp only at *; omega) | (simp at *; omega))) ⟨rfl, rfl⟩) ?_
              refine js_R0 rfl rfl (.inl rfl) (xv_load1 ty3 rfl rfl (by (first|((repeat first|exact z_0|assumption|refine z_1 ?_|refine z_r ?_);done)|((repeat refine z_1 ?_);refine z_l ?_;(repeat first|exact z_0|assumption|refine z_1 ?_|refine z_r ?_);done)|((repeat refine z_1 ?_);refine z_r ?_;(repeat refine z_1 ?_);refine z_l ?_;(repeat first|exact z_0|assumption|refine z_1 ?_|refine z_r ?_);done)|((repeat first|exact z_0|assumption|refine z_1 ?_|refine z_l ?_);done))) (take_get (hxt (m) xt hkt) (j := 0) rfl) ⟨rfl, rfl⟩) ?_
              refine js_S rfl rfl (.inl rfl) (xv_faddr fl51_2 rfl ⟨rfl, rfl⟩) ?_
              refine js_R0 rfl rfl (.inl rfl) (xv_load1 ty3 rfl rfl (by (first|((repeat first|exact z_0|assumption|refine z_1 ?_|refine z_r ?_);done)|((repeat refine z_1 ?_);refine z_l ?_;(repeat first|exact z_0|assumption|refine z_1 ?_|refine z_r ?_);done)|((repeat refine z_1 ?_);refine z_r ?_;(repeat refine z_1 ?_);refine z_l ?_;(repeat first|exact z_0|assumption|refine z_1 ?_|refine z_r ?_);done)|((repeat first|exact z_0|assumption|refine z_1 ?_|refine z_l ?_);done))) (by rfl) ⟨rfl, rfl⟩) ?_
              refine js_S rfl rfl (.inl rfl) (xv_mul rfl rfl (wrap_i64 (by (first | omega | (dsimp only at *; omega) | (simp at *; omega))) (by (first | omega | (dsimp only at *; omega) | (simp at *; omega)))) ⟨rfl, rfl⟩) ?_
              refine js_S rfl rfl (.inl rfl) (xv_add rfl rfl (wrap_i64 (by (first | omega | (dsimp only at *; omega) | (simp at *; omega))) (by (first | omega | (dsimp only at *; omega) | (simp at *; omega)))) ⟨rfl, rfl⟩) ?_
              refine js_S rfl rfl (.inl rfl) (xv_assign rfl ⟨rfl, rfl⟩) ?_
              refine j_end0 ?_
              refine bk_n ?_
              refine th_n ?_
              refine xc_region ?_
              refine xr_op rfl rfl (xv_move rfl ?_)
              refine xr_op rfl rfl (xv_add rfl rfl (wrap_i64 (by (first | omega | (dsimp only at *; omega) | (simp at *; omega))) (by (first | omega | (dsimp only at *; omega) | (simp at *; omega)))) ?_)
              refine xr_op rfl rfl (xv_assign rfl ?_)
              refine xr_end rfl ?_
              have hvs : ((pays y.stills plan).sum + valF y.sales (sF (sellY y G).sold) (nums (m + 1))) = ((pays y.stills plan).sum + valF y.sales (sF (sellY y G).sold) (nums m)) + xt * xs.price := by rw [nums_succ, valF_append]; simp only [valF, sF_at hkt, pr, Int.toNat_natCast, sale_at hks]; omega
              exact rnd (m + 1) (by (first | omega | (dsimp only at *; omega) | (simp at *; omega))) (by (first | omega | (dsimp only at *; omega) | (simp at *; omega))) (le_put (le_put (le_put (le_put (le_put (le_put (le_put (le_emp _) rfl) rfl) rfl) rfl) rfl) (by rw [hvs]; rfl)) rfl) (by rw [← afterS_succ (L := T) hks hkt, ← afterS_succ (L := loOf G) hks hkt]; (first|((repeat first|exact s_0|exact s_1|exact s_3|refine s_4 ?_|refine s_5 ?_|refine s_6 ?_|refine s_7 ?_);done)|((repeat first|exact s_0|exact s_1|exact s_3|refine s_4 ?_|refine s_5 ?_|refine s_6 ?_|refine s_8 ?_);done)))
            · refine xr_end rfl ?_
              refine th_n ?_
              refine xc_false rfl ?_
              refine xc_exit ?_
              refine th_x ?_
              refine th_x ?_
              refine bk_same ?_
              refine th_n ?_
              refine xc_seq ?_
              refine xc_seq (xc_region ?_)
              obtain rfl : m = y.sales.length := by (first | omega | (dsimp only at *; omega) | (simp at *; omega))
              refine xr_op rfl rfl (xv_assign rfl ?_)
              refine xr_end rfl ?_
              refine th_n ?_
              refine xc_block ?_
              refine xc_loop (σ := Nat) (fun j => j ≤ y.stock.length) (fun j => (((((((emp.put (some 3) (.pointer (some ⟨b3, 0, none⟩))).put (some 9) (I (incomeY y plan G))).put (some 10) (.slice p2 (sellY y G).sold.length d2)).put (some 12) (.slice (some ⟨bT, 0, none⟩) y.stock.length cT)).put (some 13) (.slice (some ⟨bL, 0, none⟩) y.stock.length cL)).put (some 24) (I ((pays y.stills plan).sum + valF y.sales (sF (sellY y G).sold) (nums y.sales.length)))).put (some 27) (I j))) (fun j => ((bL, .cells ⟨(ll (afterS y (sellY y G).sold (loOf G) y.sales.length) y.stock.length).flatMap eI ++ spL⟩ 3) :: (bT, .cells ⟨(ll (afterS y (sellY y G).sold T y.sales.length) y.stock.length).flatMap eI ++ spT⟩ 3) :: (q2 ++ (q1 ++ (b3, .cells ⟨eYard y⟩ 26) :: h)))) (fun j => y.stock.length - j) 0 (Nat.zero_le _) (le_put (le_put (le_put (le_put (le_put (le_put (le_put (le_emp _) rfl) rfl) rfl) rfl) rfl) rfl) rfl) (by (first|((repeat first|exact s_0|exact s_1|exact s_3|refine s_4 ?_|refine s_5 ?_|refine s_6 ?_|refine s_7 ?_);done)|((repeat first|exact s_0|exact s_1|exact s_3|refine s_4 ?_|refine s_5 ?_|refine s_6 ?_|refine s_8 ?_);done))) ?_
              rintro j hj
              refine xc_seq ?_
              refine xc_seq (xc_region ?_)
              refine xr_op rfl rfl (xv_move rfl ?_)
              refine xr_op rfl rfl (xv_move rfl ?_)
              refine xr_op rfl rfl (xv_len sl22 rfl ?_)
              refine xr_op rfl rfl (xv_lss2 rfl rfl (fun q13 => ?_) (fun q13 => ?_))
              · refine xr_end rfl ?_
                refine th_n ?_
                refine xc_true rfl ?_
                refine xc_skip ?_
                refine th_n ?_
                refine xc_seq ?_
                refine xc_block ?_
                refine xc_seq (xc_region ?_)
                have hTj := hTf j
                have hLj := hLf j
                have hjN : j < y.stock.length := by (first | omega | (dsimp only at *; omega) | (simp at *; omega))
                refine xr_op rfl rfl (xv_move rfl ?_)
                refine xr_op rfl rfl (xv_move rfl ?_)
                refine xr_op rfl rfl (xv_ia (sz := 1) (j := j) sl22 ty3 rfl rfl rfl (by (first | assumption | with_reducible exact Int.toNat_natCast _ | with_reducible rfl | rfl)) (by (first | omega | (dsimp only at *; omega) | (simp at *; omega))) (by (first | omega | (dsimp only at *; omega) | (simp at *; omega))) ?_)
                refine xr_op rfl rfl (xv_load1 ty3 rfl rfl (by (first|((repeat first|exact z_0|assumption|refine z_1 ?_|refine z_r ?_);done)|((repeat refine z_1 ?_);refine z_l ?_;(repeat first|exact z_0|assumption|refine z_1 ?_|refine z_r ?_);done)|((repeat refine z_1 ?_);refine z_r ?_;(repeat refine z_1 ?_);refine z_l ?_;(repeat first|exact z_0|assumption|refine z_1 ?_|refine z_r ?_);done)|((repeat first|exact z_0|assumption|refine z_1 ?_|refine z_l ?_);done))) (li_get hjN) ?_)
                refine xr_op rfl rfl (xv_cmpK rfl rfl (cmpF rfl (by simp only [cmpP]; (first | omega | (dsimp only at *; omega) | (simp at *; omega)))) ?_)
                refine xr_op rfl rfl (xv_move rfl ?_)
                refine xr_gd rfl rfl rfl (xv_move rfl ?_)
                refine xr_gd rfl rfl rfl (xv_move rfl ?_)
                refine xr_gd rfl rfl rfl (xv_ia (sz := 1) (j := j) sl22 ty3 rfl rfl rfl (by (first | assumption | with_reducible exact Int.toNat_natCast _ | with_reducible rfl | rfl)) (by (first | omega | (dsimp only at *; omega) | (simp at *; omega))) (by (first | omega | (dsimp only at *; omega) | (simp at *; omega))) ?_)
                refine xr_gd rfl rfl rfl (xv_load1 ty3 rfl rfl (by (first|((repeat first|exact z_0|assumption|refine z_1 ?_|refine z_r ?_);done)|((repeat refine z_1 ?_);refine z_l ?_;(repeat first|exact z_0|assumption|refine z_1 ?_|refine z_r ?_);done)|((repeat refine z_1 ?_);refine z_r ?_;(repeat refine z_1 ?_);refine z_l ?_;(repeat first|exact z_0|assumption|refine z_1 ?_|refine z_r ?_);done)|((repeat first|exact z_0|assumption|refine z_1 ?_|refine z_l ?_);done))) (li_get hjN) ?_)
                refine xr_gd rfl rfl rfl (xv_cmpK rfl rfl (cmpF rfl (by simp only [cmpP]; (first | omega | (dsimp only at *; omega) | (simp at *; omega)))) ?_)
                refine xr_op rfl rfl (xv_pick rfl rfl ?_)
                refine xr_end rfl ?_
                refine th_n ?_
                refine xc_false rfl ?_
                refine xc_skip ?_
                refine bk_n ?_
                refine th_n ?_
                refine xc_region ?_
                refine xr_op rfl rfl (xv_move rfl ?_)
                refine xr_op rfl rfl (xv_add rfl rfl (wrap_i64 (by (first | omega | (dsimp only at *; omega) | (simp at *; omega))) (by (first | omega | (dsimp only at *; omega) | (simp at *; omega)))) ?_)
                refine xr_op rfl rfl (xv_assign rfl ?_)
                refine xr_end rfl ?_
                exact rnd (j + 1) (by (first | omega | (dsimp only at *; omega) | (simp at *; omega))) (by (first | omega | (dsimp only at *; omega) | (simp at *; omega))) (le_put (le_put (le_put (le_put (le_put (le_put (le_put (le_emp _) rfl) rfl) rfl) rfl) rfl) rfl) rfl) (by (first|((repeat first|exact s_0|exact s_1|exact s_3|refine s_4 ?_|refine s_5 ?_|refine s_6 ?_|refine s_7 ?_);done)|((repeat first|exact s_0|exact s_1|exact s_3|refine s_4 ?_|refine s_5 ?_|refine s_6 ?_|refine s_8 ?_);done)))
              · refine xr_end rfl ?_
                refine th_n ?_
                refine xc_false rfl ?_
                refine xc_exit ?_
                refine th_x ?_
                refine th_x ?_
                refine bk_same ?_
                refine th_n ?_
                refine xc_seq ?_
                refine xc_seq (xc_region ?_)
                refine xr_op rfl rfl (xv_assign rfl ?_)
                refine xr_end rfl ?_
                refine th_n ?_
                refine xc_block ?_
                refine xc_loop (σ := Nat) (fun i => i ≤ y.sales.length) (fun i => (((((((emp.put (some 3) (.pointer (some ⟨b3, 0, none⟩))).put (some 9) (I (incomeY y plan G))).put (some 10) (.slice p2 (sellY y G).sold.length d2)).put (some 12) (.slice (some ⟨bT, 0, none⟩) y.stock.length cT)).put (some 13) (.slice (some ⟨bL, 0, none⟩) y.stock.length cL)).put (some 24) (I ((pays y.stills plan).sum + valF y.sales (sF (sellY y G).sold) (nums y.sales.length)))).put (some 28) (I i))) (fun i => ((bL, .cells ⟨(ll (afterS y (sellY y G).sold (loOf G) y.sales.length) y.stock.length).flatMap eI ++ spL⟩ 3) :: (bT, .cells ⟨(ll (afterS y (sellY y G).sold T y.sales.length) y.stock.length).flatMap eI ++ spT⟩ 3) :: (q2 ++ (q1 ++ (b3, .cells ⟨eYard y⟩ 26) :: h)))) (fun i => y.sales.length - i) 0 (Nat.zero_le _) (le_put (le_put (le_put (le_put (le_put (le_put (le_put (le_emp _) rfl) rfl) rfl) rfl) rfl) rfl) rfl) (by (first|((repeat first|exact s_0|exact s_1|exact s_3|refine s_4 ?_|refine s_5 ?_|refine s_6 ?_|refine s_7 ?_);done)|((repeat first|exact s_0|exact s_1|exact s_3|refine s_4 ?_|refine s_5 ?_|refine s_6 ?_|refine s_8 ?_);done))) ?_
                rintro i hi
                refine xc_seq ?_
                refine xc_seq (xc_region ?_)
                refine xr_op rfl rfl (xv_move rfl ?_)
                refine xr_op rfl rfl (xv_move rfl ?_)
                refine xr_op rfl rfl (xv_len sl22 rfl ?_)
                refine xr_op rfl rfl (xv_lss2 rfl rfl (fun q14 => ?_) (fun q14 => ?_))
                · refine xr_end rfl ?_
                  refine th_n ?_
                  refine xc_true rfl ?_
                  refine xc_skip ?_
                  refine th_n ?_
                  refine xc_seq ?_
                  refine xc_block ?_
                  refine xc_seq ?_
                  refine xc_seq ?_
                  refine xc_draw0 [(0, .S), (1, .S), (2, .S), (3, .R), (4, .S), (5, .R), (6, .S), (7, .S), (8, .S), (9, .R), (10, .O), (11, .S), (12, .S), (13, .S), (14, .R), (15, .S), (16, .S), (17, .S), (18, .R), (19, .S), (20, .R), (21, .S), (22, .S)] mixed (by kernel_rfl) ?_
                  have hltt : i < (sellY y G).sold.length := by rw [hSo.len]; (first | omega | (dsimp only at *; omega) | (simp at *; omega))
                  obtain ⟨bt, ot, lt, tt, fzt, hat, hmt, hxt⟩ := (s2).at hltt
                  obtain ⟨xt, hkt⟩ : ∃ qq_, (sellY y G).sold[i]? = some qq_ := ⟨_, List.getElem?_eq_getElem hltt⟩
                  have hlts : i < y.sales.length := by (first | omega | (dsimp only at *; omega) | (simp at *; omega))
                  obtain ⟨bs, os, ls, ts, fzs, has, hms, hxs⟩ := (hv.sales).at hlts
                  obtain ⟨xs, hks⟩ : ∃ qq_, y.sales[i]? = some qq_ := ⟨_, List.getElem?_eq_getElem hlts⟩
                  obtain ⟨⟨sg1, sg2⟩, ⟨sm1, sm2⟩, sp1, sp2⟩ := hy.sales xs (List.mem_of_getElem? hks)
                  have hgN : xs.good.toNat < y.stock.length := by omega
                  have hlf := hSo.left i xs xt hks hkt
                  have hus := hSo.use xs.good.toNat
                  have hL5 : (afterS y (sellY y G).sold (loOf G) y.sales.length) xs.good.toNat = loOf G xs.good.toNat - useF y.sales (sF (sellY y G).sold) (nums y.sales.length) xs.good.toNat := rfl
                  refine js_S rfl rfl (.inl rfl) (xv_move rfl ⟨rfl, rfl⟩) ?_
                  refine js_S rfl rfl (.inl rfl) (xv_move rfl ⟨rfl, rfl⟩) ?_
                  refine js_S rfl rfl (.inl rfl) (xv_ia (sz := 1) (j := i) sl22 ty3 rfl (by rw [hat]; rfl) rfl (by (first | assumption | with_reducible exact Int.toNat_natCast _ | with_reducible rfl | rfl)) (by (first | omega | (dsimp only at *; omega) | (simp at *; omega))) (by (first | omega | (dsimp only at *; omega) | (simp at *; omega))) ⟨rfl, rfl⟩) ?_
                  refine js_R0 rfl rfl (.inl rfl) (xv_load1 ty3 rfl rfl (by (first|((repeat first|exact z_0|assumption|refine z_1 ?_|refine z_r ?_);done)|((repeat refine z_1 ?_);refine z_l ?_;(repeat first|exact z_0|assumption|refine z_1 ?_|refine z_r ?_);done)|((repeat refine z_1 ?_);refine z_r ?_;(repeat refine z_1 ?_);refine z_l ?_;(repeat first|exact z_0|assumption|refine z_1 ?_|refine z_r ?_);done)|((repeat first|exact z_0|assumption|refine z_1 ?_|refine z_l ?_);done))) (take_get (hxt (i) xt hkt) (j := 0) rfl) ⟨rfl, rfl⟩) ?_
                  refine js_S rfl rfl (.inl rfl) (xv_faddr fl26_2 rfl ⟨rfl, rfl⟩) ?_
                  refine js_R0 rfl rfl (.inl rfl) (xv_load1 ty24 rfl rfl (by (first|((repeat first|exact z_0|assumption|refine z_1 ?_|refine z_r ?_);done)|((repeat refine z_1 ?_);refine z_l ?_;(repeat first|exact z_0|assumption|refine z_1 ?_|refine z_r ?_);done)|((repeat refine z_1 ?_);refine z_r ?_;(repeat refine z_1 ?_);refine z_l ?_;(repeat first|exact z_0|assumption|refine z_1 ?_|refine z_r ?_);done)|((repeat first|exact z_0|assumption|refine z_1 ?_|refine z_l ?_);done))) (by rfl) ⟨rfl, rfl⟩) ?_
                  refine js_S rfl rfl (.inl rfl) (xv_move rfl ⟨rfl, rfl⟩) ?_
                  refine js_S rfl rfl (.inl rfl) (xv_ia (sz := 3) (j := i) sl24 ty51 rfl (by rw [has]; rfl) rfl (by (first | assumption | with_reducible exact Int.toNat_natCast _ | with_reducible rfl | rfl)) (by (first | omega | (dsimp only at *; omega) | (simp at *; omega))) (by (first | omega | (dsimp only at *; omega) | (simp at *; omega))) ⟨rfl, rfl⟩) ?_
                  refine js_S rfl rfl (.inl rfl) (xv_faddr fl51_1 rfl ⟨rfl, rfl⟩) ?_
                  refine js_R0 rfl rfl (.inl rfl) (xv_load1 ty3 rfl rfl (by (first|((repeat first|exact z_0|assumption|refine z_1 ?_|refine z_r ?_);done)|((repeat refine z_1 ?_);refine z_l ?_;(repeat first|exact z_0|assumption|refine z_1 ?_|refine z_r ?_);done)|((repeat refine z_1 ?_);refine z_r ?_;(repeat refine z_1 ?_);refine z_l ?_;(repeat first|exact z_0|assumption|refine z_1 ?_|refine z_r ?_);done)|((repeat first|exact z_0|assumption|refine z_1 ?_|refine z_l ?_);done))) (take_get (hxs (i) xs hks) (j := 1) rfl) ⟨rfl, rfl⟩) ?_
                  refine js_O0 rfl rfl (.inl rfl) (xv_lss2 rfl rfl (fun hq => ?_) (fun hq => ?_))
                  · refine js_S rfl rfl (.inl rfl) (xv_move rfl ⟨rfl, rfl⟩) ?_
                    refine js_S rfl rfl (.inr ⟨_, _, rfl, rfl⟩) (xv_move rfl ⟨rfl, rfl⟩) ?_
                    refine js_S rfl rfl (.inr ⟨_, _, rfl, rfl⟩) (xv_faddr fl26_2 rfl ⟨rfl, rfl⟩) ?_
                    refine js_R0 rfl rfl (.inr ⟨_, _, rfl, rfl⟩) (xv_load1 ty24 rfl rfl (by (first|((repeat first|exact z_0|assumption|refine z_1 ?_|refine z_r ?_);done)|((repeat refine z_1 ?_);refine z_l ?_;(repeat first|exact z_0|assumption|refine z_1 ?_|refine z_r ?_);done)|((repeat refine z_1 ?_);refine z_r ?_;(repeat refine z_1 ?_);refine z_l ?_;(repeat first|exact z_0|assumption|refine z_1 ?_|refine z_r ?_);done)|((repeat first|exact z_0|assumption|refine z_1 ?_|refine z_l ?_);done))) (by rfl) ⟨rfl, rfl⟩) ?_
                    refine js_S rfl rfl (.inr ⟨_, _, rfl, rfl⟩) (xv_move rfl ⟨rfl, rfl⟩) ?_
                    refine js_S rfl rfl (.inr ⟨_, _, rfl, rfl⟩) (xv_ia (sz := 3) (j := i) sl24 ty51 rfl (by rw [has]; rfl) rfl (by (first | assumption | with_reducible exact Int.toNat_natCast _ | with_reducible rfl | rfl)) (by (first | omega | (dsimp only at *; omega) | (simp at *; omega))) (by (first | omega | (dsimp only at *; omega) | (simp at *; omega))) ⟨rfl, rfl⟩) ?_
                    refine js_S rfl rfl (.inr ⟨_, _, rfl, rfl⟩) (xv_faddr fl51_0 rfl ⟨rfl, rfl⟩) ?_
                    refine js_R0 rfl rfl (.inr ⟨_, _, rfl, rfl⟩) (xv_load1 ty3 rfl rfl (by (first|((repeat first|exact z_0|assumption|refine z_1 ?_|refine z_r ?_);done)|((repeat refine z_1 ?_);refine z_l ?_;(repeat first|exact z_0|assumption|refine z_1 ?_|refine z_r ?_);done)|((repeat refine z_1 ?_);refine z_r ?_;(repeat refine z_1 ?_);refine z_l ?_;(repeat first|exact z_0|assumption|refine z_1 ?_|refine z_r ?_);done)|((repeat first|exact z_0|assumption|refine z_1 ?_|refine z_l ?_);done))) (take_get (hxs (i) xs hks) (j := 0) rfl) ⟨rfl, rfl⟩) ?_
                    refine js_S rfl rfl (.inr ⟨_, _, rfl, rfl⟩) (xv_ia (sz := 1) (j := xs.good.toNat) sl22 ty3 rfl rfl rfl rfl (by (first | omega | (dsimp only at *; omega) | (simp at *; omega))) (by (first | omega | (dsimp only at *; omega) | (simp at *; omega))) ⟨rfl, rfl⟩) ?_
                    refine js_R0 rfl rfl (.inr ⟨_, _, rfl, rfl⟩) (xv_load1 ty3 rfl rfl (by (first|((repeat first|exact z_0|assumption|refine z_1 ?_|refine z_r ?_);done)|((repeat refine z_1 ?_);refine z_l ?_;(repeat first|exact z_0|assumption|refine z_1 ?_|refine z_r ?_);done)|((repeat refine z_1 ?_);refine z_r ?_;(repeat refine z_1 ?_);refine z_l ?_;(repeat first|exact z_0|assumption|refine z_1 ?_|refine z_r ?_);done)|((repeat first|exact z_0|assumption|refine z_1 ?_|refine z_l ?_);done))) (li_get hgN) ⟨rfl, rfl⟩) ?_
                    refine js_S rfl rfl (.inr ⟨_, _, rfl, rfl⟩) (xv_cmpK rfl rfl (cmpF rfl (by simp only [cmpP]; have := hlf (by (first | omega | (dsimp only at *; omega) | (simp at *; omega))); (first | omega | (dsimp only at *; omega) | (simp at *; omega)))) ⟨rfl, rfl⟩) ?_
                    refine js_S rfl rfl (.inl rfl) (xv_pick rfl rfl ⟨rfl, rfl⟩) ?_
                    refine j_end0 ?_
                    refine th_n ?_
                    refine xc_false rfl ?_
                    refine xc_skip ?_
                    refine th_n ?_
                    refine xc_seq (xc_region ?_)
                    refine xr_op rfl rfl (xv_assign rfl ?_)
                    refine xr_end rfl ?_
                    refine th_n ?_
                    refine xc_block ?_
                    refine xc_loop (σ := Nat) (fun m => m ≤ y.sales.length) (fun m => ((((((((emp.put (some 3) (.pointer (some ⟨b3, 0, none⟩))).put (some 9) (I (incomeY y plan G))).put (some 10) (.slice p2 (sellY y G).sold.length d2)).put (some 12) (.slice (some ⟨bT, 0, none⟩) y.stock.length cT)).put (some 13) (.slice (some ⟨bL, 0, none⟩) y.stock.length cL)).put (some 24) (I ((pays y.stills plan).sum + valF y.sales (sF (sellY y G).sold) (nums y.sales.length)))).put (some 28) (I i)).put (some 29) (I m))) (fun m => ((bL, .cells ⟨(ll (afterS y (sellY y G).sold (loOf G) y.sales.length) y.stock.length).flatMap eI ++ spL⟩ 3) :: (bT, .cells ⟨(ll (afterS y (sellY y G).sold T y.sales.length) y.stock.length).flatMap eI ++ spT⟩ 3) :: (q2 ++ (q1 ++ (b3, .cells ⟨eYard y⟩ 26) :: h)))) (fun m => y.sales.length - m) 0 (Nat.zero_le _) (le_put (le_put (le_put (le_put (le_put (le_put (le_put (le_put (le_emp _) rfl) rfl) rfl) rfl) rfl) rfl) rfl) rfl) (by (first|((repeat first|exact s_0|exact s_1|exact s_3|refine s_4 ?_|refine s_5 ?_|refine s_6 ?_|refine s_7 ?_);done)|((repeat first|exact s_0|exact s_1|exact s_3|refine s_4 ?_|refine s_5 ?_|refine s_6 ?_|refine s_8 ?_);done))) ?_
                    rintro m hm
                    refine xc_seq ?_
                    refine xc_seq (xc_region ?_)
                    refine xr_op rfl rfl (xv_move rfl ?_)
                    refine xr_op rfl rfl (xv_move rfl ?_)
                    refine xr_op rfl rfl (xv_len sl22 rfl ?_)
                    refine xr_op rfl rfl (xv_lss2 rfl rfl (fun q15 => ?_) (fun q15 => ?_))
                    · refine xr_end rfl ?_
                      refine th_n ?_
                      refine xc_true rfl ?_
                      refine xc_skip ?_
                      refine th_n ?_
                      refine xc_seq ?_
                      refine xc_block ?_
                      refine xc_seq ?_
                      refine xc_draw0 [(0, .S), (1, .R), (2, .S), (3, .S), (4, .S), (5, .R), (6, .S), (7, .R), (8, .S), (9, .S), (10, .S), (11, .R), (12, .O), (13, .S), (14, .S), (15, .R), (16, .S), (17, .S), (18, .S), (19, .R), (20, .S), (21, .R), (22, .S), (23, .S), (24, .S), (25, .R), (26, .O), (27, .S), (28, .S), (29, .S), (30, .S), (31, .S), (32, .R), (33, .S), (34, .R), (35, .S), (36, .S), (37, .S), (38, .R), (39, .O), (40, .S), (41, .S), (42, .S), (43, .S), (44, .S), (45, .R), (46, .S), (47, .S)] mixed (by kernel_rfl) ?_
                      have hltu : m < (sellY y G).sold.length := by rw [hSo.len]; (first | omega | (dsimp only at *; omega) | (simp at *; omega))
                      obtain ⟨bu, ou, lu, tu, fzu, hau, hmu, hxu⟩ := (s2).at hltu
                      obtain ⟨xu, hku⟩ : ∃ qq_, (sellY y G).sold[m]? = some qq_ := ⟨_, List.getElem?_eq_getElem hltu⟩
                      have hltv : m < y.sales.length := by (first | omega | (dsimp only at *; omega) | (simp at *; omega))
                      obtain ⟨bv, ov, lv, tv, fzv, hav, hmv, hxv⟩ := (hv.sales).at hltv
                      obtain ⟨xv, hkv⟩ : ∃ qq_, y.sales[m]? = some qq_ := ⟨_, List.getElem?_eq_getElem hltv⟩
                      have hpair := hSo.pair i m xs xv xt xu hks hkv hkt hku
                      refine js_S rfl rfl (.inl rfl) (xv_faddr fl26_2 rfl ⟨rfl, rfl⟩) ?_
                      refine js_R0 rfl rfl (.inl rfl) (xv_load1 ty24 rfl rfl (by (first|((repeat first|exact z_0|assumption|refine z_1 ?_|refine z_r ?_);done)|((repeat refine z_1 ?_);refine z_l ?_;(repeat first|exact z_0|assumption|refine z_1 ?_|refine z_r ?_);done)|((repeat refine z_1 ?_);refine z_r ?_;(repeat refine z_1 ?_);refine z_l ?_;(repeat first|exact z_0|assumption|refine z_1 ?_|refine z_r ?_);done)|((repeat first|exact z_0|assumption|refine z_1 ?_|refine z_l ?_);done))) (by rfl) ⟨rfl, rfl⟩) ?_
                      refine js_S rfl rfl (.inl rfl) (xv_move rfl ⟨rfl, rfl⟩) ?_
                      refine js_S rfl rfl (.inl rfl) (xv_ia (sz := 3) (j := i) sl24 ty51 rfl (by rw [has]; rfl) rfl (by (first | assumption | with_reducible exact Int.toNat_natCast _ | with_reducible rfl | rfl)) (by (first | omega | (dsimp only at *; omega) | (simp at *; omega))) (by (first | omega | (dsimp only at *; omega) | (simp at *; omega))) ⟨rfl, rfl⟩) ?_
                      refine js_S rfl rfl (.inl rfl) (xv_faddr fl51_0 rfl ⟨rfl, rfl⟩) ?_
                      refine js_R0 rfl rfl (.inl rfl) (xv_load1 ty3 rfl rfl (by (first|((repeat first|exact z_0|assumption|refine z_1 ?_|refine z_r ?_);done)|((repeat refine z_1 ?_);refine z_l ?_;(repeat first|exact z_0|assumption|refine z_1 ?_|refine z_r ?_);done)|((repeat refine z_1 ?_);refine z_r ?_;(repeat refine z_1 ?_);refine z_l ?_;(repeat first|exact z_0|assumption|refine z_1 ?_|refine z_r ?_);done)|((repeat first|exact z_0|assumption|refine z_1 ?_|refine z_l ?_);done))) (take_get (hxs (i) xs hks) (j := 0) rfl) ⟨rfl, rfl⟩) ?_
                      refine js_S rfl rfl (.inl rfl) (xv_faddr fl26_2 rfl ⟨rfl, rfl⟩) ?_
                      refine js_R0 rfl rfl (.inl rfl) (xv_load1 ty24 rfl rfl (by (first|((repeat first|exact z_0|assumption|refine z_1 ?_|refine z_r ?_);done)|((repeat refine z_1 ?_);refine z_l ?_;(repeat first|exact z_0|assumption|refine z_1 ?_|refine z_r ?_);done)|((repeat refine z_1 ?_);refine z_r ?_;(repeat refine z_1 ?_);refine z_l ?_;(repeat first|exact z_0|assumption|refine z_1 ?_|refine z_r ?_);done)|((repeat first|exact z_0|assumption|refine z_1 ?_|refine z_l ?_);done))) (by rfl) ⟨rfl, rfl⟩) ?_
                      refine js_S rfl rfl (.inl rfl) (xv_move rfl ⟨rfl, rfl⟩) ?_
                      refine js_S rfl rfl (.inl rfl) (xv_ia (sz := 3) (j := m) sl24 ty51 rfl (by rw [hav]; rfl) rfl (by (first | assumption | with_reducible exact Int.toNat_natCast _ | with_reducible rfl | rfl)) (by (first | omega | (dsimp only at *; omega) | (simp at *; omega))) (by (first | omega | (dsimp only at *; omega) | (simp at *; omega))) ⟨rfl, rfl⟩) ?_
                      refine js_S rfl rfl (.inl rfl) (xv_faddr fl51_0 rfl ⟨rfl, rfl⟩) ?_
                      refine js_R0 rfl rfl (.inl rfl) (xv_load1 ty3 rfl rfl (by (first|((repeat first|exact z_0|assumption|refine z_1 ?_|refine z_r ?_);done)|((repeat refine z_1 ?_);refine z_l ?_;(repeat first|exact z_0|assumption|refine z_1 ?_|refine z_r ?_);done)|((repeat refine z_1 ?_);refine z_r ?_;(repeat refine z_1 ?_);refine z_l ?_;(repeat first|exact z_0|assumption|refine z_1 ?_|refine z_r ?_);done)|((repeat first|exact z_0|assumption|refine z_1 ?_|refine z_l ?_);done))) (take_get (hxv (m) xv hkv) (j := 0) rfl) ⟨rfl, rfl⟩) ?_
                      refine js_O0 rfl rfl (.inl rfl) (xv_eql2 rfl rfl (fun hq => ?_) (fun hq => ?_))
                      · refine js_S rfl rfl (.inl rfl) (xv_move rfl ⟨rfl, rfl⟩) ?_
                        refine js_S rfl rfl (.inr ⟨_, _, rfl, rfl⟩) (xv_faddr fl26_2 rfl ⟨rfl, rfl⟩) ?_
                        refine js_R0 rfl rfl (.inr ⟨_, _, rfl, rfl⟩) (xv_load1 ty24 rfl rfl (by (first|((repeat first|exact z_0|assumption|refine z_1 ?_|refine z_r ?_);done)|((repeat refine z_1 ?_);refine z_l ?_;(repeat first|exact z_0|assumption|refine z_1 ?_|refine z_r ?_);done)|((repeat refine z_1 ?_);refine z_r ?_;(repeat refine z_1 ?_);refine z_l ?_;(repeat first|exact z_0|assumption|refine z_1 ?_|refine z_r ?_);done)|((repeat first|exact z_0|assumption|refine z_1 ?_|refine z_l ?_);done))) (by rfl) ⟨rfl, rfl⟩) ?_
                        refine js_S rfl rfl (.inr ⟨_, _, rfl, rfl⟩) (xv_move rfl ⟨rfl, rfl⟩) ?_
                        refine js_S rfl rfl (.inr ⟨_, _, rfl, rfl⟩) (xv_ia (sz := 3) (j := i) sl24 ty51 rfl (by rw [has]; rfl) rfl (by (first | assumption | with_reducible exact Int.toNat_natCast _ | with_reducible rfl | rfl)) (by (first | omega | (dsimp only at *; omega) | (simp at *; omega))) (by (first | omega | (dsimp only at *; omega) | (simp at *; omega))) ⟨rfl, rfl⟩) ?_
                        refine js_S rfl rfl (.inr ⟨_, _, rfl, rfl⟩) (xv_faddr fl51_2 rfl ⟨rfl, rfl⟩) ?_
                        refine js_R0 rfl rfl (.inr ⟨_, _, rfl, rfl⟩) (xv_load1 ty3 rfl rfl (by (first|((repeat first|exact z_0|assumption|refine z_1 ?_|refine z_r ?_);done)|((repeat refine z_1 ?_);refine z_l ?_;(repeat first|exact z_0|assumption|refine z_1 ?_|refine z_r ?_);done)|((repeat refine z_1 ?_);refine z_r ?_;(repeat refine z_1 ?_);refine z_l ?_;(repeat first|exact z_0|assumption|refine z_1 ?_|refine z_r ?_);done)|((repeat first|exact z_0|assumption|refine z_1 ?_|refine z_l ?_);done))) (take_get (hxs (i) xs hks) (j := 2) rfl) ⟨rfl, rfl⟩) ?_
                        refine js_S rfl rfl (.inr ⟨_, _, rfl, rfl⟩) (xv_faddr fl26_2 rfl ⟨rfl, rfl⟩) ?_
                        refine js_R0 rfl rfl (.inr ⟨_, _, rfl, rfl⟩) (xv_load1 ty24 rfl rfl (by (first|((repeat first|exact z_0|assumption|refine z_1 ?_|refine z_r ?_);done)|((repeat refine z_1 ?_);refine z_l ?_;(repeat first|exact z_0|assumption|refine z_1 ?_|refine z_r ?_);done)|((repeat refine z_1 ?_);refine z_r ?_;(repeat refine z_1 ?_);refine z_l ?_;(repeat first|exact z_0|assumption|refine z_1 ?_|refine z_r ?_);done)|((repeat first|exact z_0|assumption|refine z_1 ?_|refine z_l ?_);done))) (by rfl) ⟨rfl, rfl⟩) ?_
                        refine js_S rfl rfl (.inr ⟨_, _, rfl, rfl⟩) (xv_move rfl ⟨rfl, rfl⟩) ?_
                        refine js_S rfl rfl (.inr ⟨_, _, rfl, rfl⟩) (xv_ia (sz := 3) (j := m) sl24 ty51 rfl (by rw [hav]; rfl) rfl (by (first | assumption | with_reducible exact Int.toNat_natCast _ | with_reducible rfl | rfl)) (by (first | omega | (dsimp only at *; omega) | (simp at *; omega))) (by (first | omega | (dsimp only at *; omega) | (simp at *; omega))) ⟨rfl, rfl⟩) ?_
                        refine js_S rfl rfl (.inr ⟨_, _, rfl, rfl⟩) (xv_faddr fl51_2 rfl ⟨rfl, rfl⟩) ?_
                        refine js_R0 rfl rfl (.inr ⟨_, _, rfl, rfl⟩) (xv_load1 ty3 rfl rfl (by (first|((repeat first|exact z_0|assumption|refine z_1 ?_|refine z_r ?_);done)|((repeat refine z_1 ?_);refine z_l ?_;(repeat first|exact z_0|assumption|refine z_1 ?_|refine z_r ?_);done)|((repeat refine z_1 ?_);refine z_r ?_;(repeat refine z_1 ?_);refine z_l ?_;(repeat first|exact z_0|assumption|refine z_1 ?_|refine z_r ?_);done)|((repeat first|exact z_0|assumption|refine z_1 ?_|refine z_l ?_);done))) (take_get (hxv (m) xv hkv) (j := 2) rfl) ⟨rfl, rfl⟩) ?_
                        refine js_O0 rfl rfl (.inr ⟨_, _, rfl, rfl⟩) (xv_gtr2 rfl rfl (fun hq => ?_) (fun hq => ?_))
                        · refine js_S rfl rfl (.inl rfl) (xv_pick rfl rfl ⟨rfl, rfl⟩) ?_
                          refine js_S rfl rfl (.inl rfl) (xv_move rfl ⟨rfl, rfl⟩) ?_
                          refine js_S rfl rfl (.inr ⟨_, _, rfl, rfl⟩) (xv_move rfl ⟨rfl, rfl⟩) ?_
                          refine js_S rfl rfl (.inr ⟨_, _, rfl, rfl⟩) (xv_move rfl ⟨rfl, rfl⟩) ?_
                          refine js_S rfl rfl (.inr ⟨_, _, rfl, rfl⟩) (xv_ia (sz := 1) (j := i) sl22 ty3 rfl (by rw [hat]; rfl) rfl (by (first | assumption | with_reducible exact Int.toNat_natCast _ | with_reducible rfl | rfl)) (by (first | omega | (dsimp only at *; omega) | (simp at *; omega))) (by (first | omega | (dsimp only at *; omega) | (simp at *; omega))) ⟨rfl, rfl⟩) ?_
                          refine js_R0 rfl rfl (.inr ⟨_, _, rfl, rfl⟩) (xv_load1 ty3 rfl rfl (by (first|((repeat first|exact z_0|assumption|refine z_1 ?_|refine z_r ?_);done)|((repeat refine z_1 ?_);refine z_l ?_;(repeat first|exact z_0|assumption|refine z_1 ?_|refine z_r ?_);done)|((repeat refine z_1 ?_);refine z_r ?_;(repeat refine z_1 ?_);refine z_l ?_;(repeat first|exact z_0|assumption|refine z_1 ?_|refine z_r ?_);done)|((repeat first|exact z_0|assumption|refine z_1 ?_|refine z_l ?_);done))) (take_get (hxt (i) xt hkt) (j := 0) rfl) ⟨rfl, rfl⟩) ?_
                          refine js_S rfl rfl (.inr ⟨_, _, rfl, rfl⟩) (xv_faddr fl26_2 rfl ⟨rfl, rfl⟩) ?_
                          refine js_R0 rfl rfl (.inr ⟨_, _, rfl, rfl⟩) (xv_load1 ty24 rfl rfl (by (first|((repeat first|exact z_0|assumption|refine z_1 ?_|refine z_r ?_);done)|((repeat refine z_1 ?_);refine z_l ?_;(repeat first|exact z_0|assumption|refine z_1 ?_|refine z_r ?_);done)|((repeat refine z_1 ?_);refine z_r ?_;(repeat refine z_1 ?_);refine z_l ?_;(repeat first|exact z_0|assumption|refine z_1 ?_|refine z_r ?_);done)|((repeat first|exact z_0|assumption|refine z_1 ?_|refine z_l ?_);done))) (by rfl) ⟨rfl, rfl⟩) ?_
                          refine js_S rfl rfl (.inr ⟨_, _, rfl, rfl⟩) (xv_move rfl ⟨rfl, rfl⟩) ?_
                          refine js_S rfl rfl (.inr ⟨_, _, rfl, rfl⟩) (xv_ia (sz := 3) (j := i) sl24 ty51 rfl (by rw [has]; rfl) rfl (by (first | assumption | with_reducible exact Int.toNat_natCast _ | with_reducible rfl | rfl)) (by (first | omega | (dsimp only at *; omega) | (simp at *; omega))) (by (first | omega | (dsimp only at *; omega) | (simp at *; omega))) ⟨rfl, rfl⟩) ?_
                          refine js_S rfl rfl (.inr ⟨_, _, rfl, rfl⟩) (xv_faddr fl51_1 rfl ⟨rfl, rfl⟩) ?_
                          refine js_R0 rfl rfl (.inr ⟨_, _, rfl, rfl⟩) (xv_load1 ty3 rfl rfl (by (first|((repeat first|exact z_0|assumption|refine z_1 ?_|refine z_r ?_);done)|((repeat refine z_1 ?_);refine z_l ?_;(repeat first|exact z_0|assumption|refine z_1 ?_|refine z_r ?_);done)|((repeat refine z_1 ?_);refine z_r ?_;(repeat refine z_1 ?_);refine z_l ?_;(repeat first|exact z_0|assumption|refine z_1 ?_|refine z_r ?_);done)|((repeat first|exact z_0|assumption|refine z_1 ?_|refine z_l ?_);done))) (take_get (hxs (i) xs hks) (j := 1) rfl) ⟨rfl, rfl⟩) ?_
                          refine js_O0 rfl rfl (.inr ⟨_, _, rfl, rfl⟩) (xv_lss2 rfl rfl (fun hq => ?_) (fun hq => ?_))
                          · refine js_S rfl rfl (.inl rfl) (xv_pick rfl rfl ⟨rfl, rfl⟩) ?_
                            refine js_S rfl rfl (.inl rfl) (xv_move rfl ⟨rfl, rfl⟩) ?_
                            refine js_S rfl rfl (.inr ⟨_, _, rfl, rfl⟩) (xv_move rfl ⟨rfl, rfl⟩) ?_
                            refine js_S rfl rfl (.inr ⟨_, _, rfl, rfl⟩) (xv_move rfl ⟨rfl, rfl⟩) ?_
                            refine js_S rfl rfl (.inr ⟨_, _, rfl, rfl⟩) (xv_ia (sz := 1) (j := m) sl22 ty3 rfl (by rw [hau]; rfl) rfl (by (first | assumption | with_reducible exact Int.toNat_natCast _ | with_reducible rfl | rfl)) (by (first | omega | (dsimp only at *; omega) | (simp at *; omega))) (by (first | omega | (dsimp only at *; omega) | (simp at *; omega))) ⟨rfl, rfl⟩) ?_
                            refine js_R0 rfl rfl (.inr ⟨_, _, rfl, rfl⟩) (xv_load1 ty3 rfl rfl (by (first|((repeat first|exact z_0|assumption|refine z_1 ?_|refine z_r ?_);done)|((repeat refine z_1 ?_);refine z_l ?_;(repeat first|exact z_0|assumption|refine z_1 ?_|refine z_r ?_);done)|((repeat refine z_1 ?_);refine z_r ?_;(repeat refine z_1 ?_);refine z_l ?_;(repeat first|exact z_0|assumption|refine z_1 ?_|refine z_r ?_);done)|((repeat first|exact z_0|assumption|refine z_1 ?_|refine z_l ?_);done))) (take_get (hxu (m) xu hku) (j := 0) rfl) ⟨rfl, rfl⟩) ?_
                            refine js_S rfl rfl (.inr ⟨_, _, rfl, rfl⟩) (xv_cmpK rfl rfl (cmpF rfl (by simp only [cmpP]; have := hpair (by (first | omega | (dsimp only at *; omega) | (simp at *; omega))) (by (first | omega | (dsimp only at *; omega) | (simp at *; omega))) (by (first | omega | (dsimp only at *; omega) | (simp at *; omega))); (first | omega | (dsimp only at *; omega) | (simp at *; omega)))) ⟨rfl, rfl⟩) ?_
                            refine js_S rfl rfl (.inl rfl) (xv_pick rfl rfl ⟨rfl, rfl⟩) ?_
                            refine j_end0 ?_
                            refine th_n ?_
                            refine xc_false rfl ?_
                            refine xc_skip ?_
                            refine bk_n ?_
                            refine th_n ?_
                            refine xc_region ?_
                            refine xr_op rfl rfl (xv_move rfl ?_)
                            refine xr_op rfl rfl (xv_add rfl rfl (wrap_i64 (by (first | omega | (dsimp only at *; omega) | (simp at *; omega))) (by (first | omega | (dsimp only at *; omega) | (simp at *; omega)))) ?_)
                            refine xr_op rfl rfl (xv_assign rfl ?_)
                            refine xr_end rfl ?_
                            exact rnd (m + 1) (by (first | omega | (dsimp only at *; omega) | (simp at *; omega))) (by (first | omega | (dsimp only at *; omega) | (simp at *; omega))) (le_put (le_put (le_put (le_put (le_put (le_put (le_put (le_put (le_emp _) rfl) rfl) rfl) rfl) rfl) rfl) rfl) rfl) (by (first|((repeat first|exact s_0|exact s_1|exact s_3|refine s_4 ?_|refine s_5 ?_|refine s_6 ?_|refine s_7 ?_);done)|((repeat first|exact s_0|exact s_1|exact s_3|refine s_4 ?_|refine s_5 ?_|refine s_6 ?_|refine s_8 ?_);done)))
                          · refine js_S rfl rfl (.inl rfl) (xv_pick rfl rfl ⟨rfl, rfl⟩) ?_
                            refine js_S rfl rfl (.inl rfl) (xv_move rfl ⟨rfl, rfl⟩) ?_
                            refine js_Ss rfl rfl ⟨_, _, _, rfl, rfl, rfl⟩ ?_
                            refine js_Ss rfl rfl ⟨_, _, _, rfl, rfl, rfl⟩ ?_
                            refine js_Ss rfl rfl ⟨_, _, _, rfl, rfl, rfl⟩ ?_
                            refine js_Rs rfl rfl ⟨_, _, _, rfl, rfl, rfl⟩ ?_
                            refine js_Ss rfl rfl ⟨_, _, _, rfl, rfl, rfl⟩ ?_
                            refine js_S rfl rfl (.inl rfl) (xv_pick rfl rfl ⟨rfl, rfl⟩) ?_
                            refine j_end0 ?_
                            refine th_n ?_
                            refine xc_false rfl ?_
                            refine xc_skip ?_
                            refine bk_n ?_
                            refine th_n ?_
                            refine xc_region ?_
                            refine xr_op rfl rfl (xv_move rfl ?_)
                            refine xr_op rfl rfl (xv_add rfl rfl (wrap_i64 (by (first | omega | (dsimp only at *; omega) | (simp at *; omega))) (by (first | omega | (dsimp only at *; omega) | (simp at *; omega)))) ?_)
                            refine xr_op rfl rfl (xv_assign rfl ?_)
                            refine xr_end rfl ?_
                            exact rnd (m + 1) (by (first | omega | (dsimp only at *; omega) | (simp at *; omega))) (by (first | omega | (dsimp only at *; omega) | (simp at *; omega))) (le_put (le_put (le_put (le_put (le_put (le_put (le_put (le_put (le_emp _) rfl) rfl) rfl) rfl) rfl) rfl) rfl) rfl) (by (first|((repeat first|exact s_0|exact s_1|exact s_3|refine s_4 ?_|refine s_5 ?_|refine s_6 ?_|refine s_7 ?_);done)|((repeat first|exact s_0|exact s_1|exact s_3|refine s_4 ?_|refine s_5 ?_|refine s_6 ?_|refine s_8 ?_);done)))
                        · refine js_S rfl rfl (.inl rfl) (xv_pick rfl rfl ⟨rfl, rfl⟩) ?_
                          refine js_S rfl rfl (.inl rfl) (xv_move rfl ⟨rfl, rfl⟩) ?_
                          refine js_Ss rfl rfl ⟨_, _, _, rfl, rfl, rfl⟩ ?_
                          refine js_Ss rfl rfl ⟨_, _, _, rfl, rfl, rfl⟩ ?_
                          refine js_Ss rfl rfl ⟨_, _, _, rfl, rfl, rfl⟩ ?_
                          refine js_Rs rfl rfl ⟨_, _, _, rfl, rfl, rfl⟩ ?_
                          refine js_Ss rfl rfl ⟨_, _, _, rfl, rfl, rfl⟩ ?_
                          refine js_Rs rfl rfl ⟨_, _, _, rfl, rfl, rfl⟩ ?_
                          refine js_Ss rfl rfl ⟨_, _, _, rfl, rfl, rfl⟩ ?_
                          refine js_Ss rfl rfl ⟨_, _, _, rfl, rfl, rfl⟩ ?_
                          refine js_Ss rfl rfl ⟨_, _, _, rfl, rfl, rfl⟩ ?_
                          refine js_Rs rfl rfl ⟨_, _, _, rfl, rfl, rfl⟩ ?_
                          refine js_Os rfl rfl ⟨_, _, _, rfl, rfl, rfl⟩ ?_
                          refine js_S rfl rfl (.inl rfl) (xv_pick rfl rfl ⟨rfl, rfl⟩) ?_
                          refine js_S rfl rfl (.inl rfl) (xv_move rfl ⟨rfl, rfl⟩) ?_
                          refine js_Ss rfl rfl ⟨_, _, _, rfl, rfl, rfl⟩ ?_
                          refine js_Ss rfl rfl ⟨_, _, _, rfl, rfl, rfl⟩ ?_
                          refine js_Ss rfl rfl ⟨_, _, _, rfl, rfl, rfl⟩ ?_
                          refine js_Rs rfl rfl ⟨_, _, _, rfl, rfl, rfl⟩ ?_
                          refine js_Ss rfl rfl ⟨_, _, _, rfl, rfl, rfl⟩ ?_
                          refine js_S rfl rfl (.inl rfl) (xv_pick rfl rfl ⟨rfl, rfl⟩) ?_
                          refine j_end0 ?_
                          refine th_n ?_
                          refine xc_false rfl ?_
                          refine xc_skip ?_
                          refine bk_n ?_
                          refine th_n ?_
                          refine xc_region ?_
                          refine xr_op rfl rfl (xv_move rfl ?_)
                          refine xr_op rfl rfl (xv_add rfl rfl (wrap_i64 (by (first | omega | (dsimp only at *; omega) | (simp at *; omega))) (by (first | omega | (dsimp only at *; omega) | (simp at *; omega)))) ?_)
                          refine xr_op rfl rfl (xv_assign rfl ?_)
                          refine xr_end rfl ?_
                          exact rnd (m + 1) (by (first | omega | (dsimp only at *; omega) | (simp at *; omega))) (by (first | omega | (dsimp only at *; omega) | (simp at *; omega))) (le_put (le_put (le_put (le_put (le_put (le_put (le_put (le_put (le_emp _) rfl) rfl) rfl) rfl) rfl) rfl) rfl) rfl) (by (first|((repeat first|exact s_0|exact s_1|exact s_3|refine s_4 ?_|refine s_5 ?_|refine s_6 ?_|refine s_7 ?_);done)|((repeat first|exact s_0|exact s_1|exact s_3|refine s_4 ?_|refine s_5 ?_|refine s_6 ?_|refine s_8 ?_);done)))
                      · refine js_S rfl rfl (.inl rfl) (xv_move rfl ⟨rfl, rfl⟩) ?_
                        refine js_Ss rfl rfl ⟨_, _, _, rfl, rfl, rfl⟩ ?_
                        refine js_Rs rfl rfl ⟨_, _, _, rfl, rfl, rfl⟩ ?_
                        refine js_Ss rfl rfl ⟨_, _, _, rfl, rfl, rfl⟩ ?_
                        refine js_Ss rfl rfl ⟨_, _, _, rfl, rfl, rfl⟩ ?_
                        refine js_Ss rfl rfl ⟨_, _, _, rfl, rfl, rfl⟩ ?_
                        refine js_Rs rfl rfl ⟨_, _, _, rfl, rfl, rfl⟩ ?_
                        refine js_Ss rfl rfl ⟨_, _, _, rfl, rfl, rfl⟩ ?_
                        refine js_Rs rfl rfl ⟨_, _, _, rfl, rfl, rfl⟩ ?_
                        refine js_Ss rfl rfl ⟨_, _, _, rfl, rfl, rfl⟩ ?_
                        refine js_Ss rfl rfl ⟨_, _, _, rfl, rfl, rfl⟩ ?_
                        refine js_Ss rfl rfl ⟨_, _, _, rfl, rfl, rfl⟩ ?_
                        refine js_Rs rfl rfl ⟨_, _, _, rfl, rfl, rfl⟩ ?_
                        refine js_Os rfl rfl ⟨_, _, _, rfl, rfl, rfl⟩ ?_
                        refine js_S rfl rfl (.inl rfl) (xv_pick rfl rfl ⟨rfl, rfl⟩) ?_
                        refine js_S rfl rfl (.inl rfl) (xv_move rfl ⟨rfl, rfl⟩) ?_
                        refine js_Ss rfl rfl ⟨_, _, _, rfl, rfl, rfl⟩ ?_
                        refine js_Ss rfl rfl ⟨_, _, _, rfl, rfl, rfl⟩ ?_
                        refine js_Ss rfl rfl ⟨_, _, _, rfl, rfl, rfl⟩ ?_
                        refine js_Rs rfl rfl ⟨_, _, _, rfl, rfl, rfl⟩ ?_
                        refine js_Ss rfl rfl ⟨_, _, _, rfl, rfl, rfl⟩ ?_
                        refine js_Rs rfl rfl ⟨_, _, _, rfl, rfl, rfl⟩ ?_
                        refine js_Ss rfl rfl ⟨_, _, _, rfl, rfl, rfl⟩ ?_
                        refine js_Ss rfl rfl ⟨_, _, _, rfl, rfl, rfl⟩ ?_
                        refine js_Ss rfl rfl ⟨_, _, _, rfl, rfl, rfl⟩ ?_
                        refine js_Rs rfl rfl ⟨_, _, _, rfl, rfl, rfl⟩ ?_
                        refine js_Os rfl rfl ⟨_, _, _, rfl, rfl, rfl⟩ ?_
                        refine js_S rfl rfl (.inl rfl) (xv_pick rfl rfl ⟨rfl, rfl⟩) ?_
                        refine js_S rfl rfl (.inl rfl) (xv_move rfl ⟨rfl, rfl⟩) ?_
                        refine js_Ss rfl rfl ⟨_, _, _, rfl, rfl, rfl⟩ ?_
                        refine js_Ss rfl rfl ⟨_, _, _, rfl, rfl, rfl⟩ ?_
                        refine js_Ss rfl rfl ⟨_, _, _, rfl, rfl, rfl⟩ ?_
                        refine js_Rs rfl rfl ⟨_, _, _, rfl, rfl, rfl⟩ ?_
                        refine js_Ss rfl rfl ⟨_, _, _, rfl, rfl, rfl⟩ ?_
                        refine js_S rfl rfl (.inl rfl) (xv_pick rfl rfl ⟨rfl, rfl⟩) ?_
                        refine j_end0 ?_
                        refine th_n ?_
                        refine xc_false rfl ?_
                        refine xc_skip ?_
                        refine bk_n ?_
                        refine th_n ?_
                        refine xc_region ?_
                        refine xr_op rfl rfl (xv_move rfl ?_)
                        refine xr_op rfl rfl (xv_add rfl rfl (wrap_i64 (by (first | omega | (dsimp only at *; omega) | (simp at *; omega))) (by (first | omega | (dsimp only at *; omega) | (simp at *; omega)))) ?_)
                        refine xr_op rfl rfl (xv_assign rfl ?_)
                        refine xr_end rfl ?_
                        exact rnd (m + 1) (by (first | omega | (dsimp only at *; omega) | (simp at *; omega))) (by (first | omega | (dsimp only at *; omega) | (simp at *; omega))) (le_put (le_put (le_put (le_put (le_put (le_put (le_put (le_put (le_emp _) rfl) rfl) rfl) rfl) rfl) rfl) rfl) rfl) (by (first|((repeat first|exact s_0|exact s_1|exact s_3|refine s_4 ?_|refine s_5 ?_|refine s_6 ?_|refine s_7 ?_);done)|((repeat first|exact s_0|exact s_1|exact s_3|refine s_4 ?_|refine s_5 ?_|refine s_6 ?_|refine s_8 ?_);done)))
                    · refine xr_end rfl ?_
                      refine th_n ?_
                      refine xc_false rfl ?_
                      refine xc_exit ?_
                      refine th_x ?_
                      refine th_x ?_
                      refine bk_same ?_
                      refine bk_n ?_
                      refine th_n ?_
                      refine xc_region ?_
                      refine xr_op rfl rfl (xv_move rfl ?_)
                      refine xr_op rfl rfl (xv_add rfl rfl (wrap_i64 (by (first | omega | (dsimp only at *; omega) | (simp at *; omega))) (by (first | omega | (dsimp only at *; omega) | (simp at *; omega)))) ?_)
                      refine xr_op rfl rfl (xv_assign rfl ?_)
                      refine xr_end rfl ?_
                      exact rnd (i + 1) (by (first | omega | (dsimp only at *; omega) | (simp at *; omega))) (by (first | omega | (dsimp only at *; omega) | (simp at *; omega))) (le_put (le_put (le_put (le_put (le_put (le_put (le_put (le_emp _) rfl) rfl) rfl) rfl) rfl) rfl) rfl) (by (first|((repeat first|exact s_0|exact s_1|exact s_3|refine s_4 ?_|refine s_5 ?_|refine s_6 ?_|refine s_7 ?_);done)|((repeat first|exact s_0|exact s_1|exact s_3|refine s_4 ?_|refine s_5 ?_|refine s_6 ?_|refine s_8 ?_);done)))
                  · refine js_S rfl rfl (.inl rfl) (xv_move rfl ⟨rfl, rfl⟩) ?_
                    refine js_Ss rfl rfl ⟨_, _, _, rfl, rfl, rfl⟩ ?_
                    refine js_Ss rfl rfl ⟨_, _, _, rfl, rfl, rfl⟩ ?_
                    refine js_Rs rfl rfl ⟨_, _, _, rfl, rfl, rfl⟩ ?_
                    refine js_Ss rfl rfl ⟨_, _, _, rfl, rfl, rfl⟩ ?_
                    refine js_Ss rfl rfl ⟨_, _, _, rfl, rfl, rfl⟩ ?_
                    refine js_Ss rfl rfl ⟨_, _, _, rfl, rfl, rfl⟩ ?_
                    refine js_Rs rfl rfl ⟨_, _, _, rfl, rfl, rfl⟩ ?_
                    refine js_Ss rfl rfl ⟨_, _, _, rfl, rfl, rfl⟩ ?_
                    refine js_Rs rfl rfl ⟨_, _, _, rfl, rfl, rfl⟩ ?_
                    refine js_Ss rfl rfl ⟨_, _, _, rfl, rfl, rfl⟩ ?_
                    refine js_S rfl rfl (.inl rfl) (xv_pick rfl rfl ⟨rfl, rfl⟩) ?_
                    refine j_end0 ?_
                    refine th_n ?_
                    refine xc_false rfl ?_
                    refine xc_skip ?_
                    refine th_n ?_
                    refine xc_seq (xc_region ?_)
                    refine xr_op rfl rfl (xv_assign rfl ?_)
                    refine xr_end rfl ?_
                    refine th_n ?_
                    refine xc_block ?_
                    refine xc_loop (σ := Nat) (fun m => m ≤ y.sales.length) (fun m => ((((((((emp.put (some 3) (.pointer (some ⟨b3, 0, none⟩))).put (some 9) (I (incomeY y plan G))).put (some 10) (.slice p2 (sellY y G).sold.length d2)).put (some 12) (.slice (some ⟨bT, 0, none⟩) y.stock.length cT)).put (some 13) (.slice (some ⟨bL, 0, none⟩) y.stock.length cL)).put (some 24) (I ((pays y.stills plan).sum + valF y.sales (sF (sellY y G).sold) (nums y.sales.length)))).put (some 28) (I i)).put (some 29) (I m))) (fun m => ((bL, .cells ⟨(ll (afterS y (sellY y G).sold (loOf G) y.sales.length) y.stock.length).flatMap eI ++ spL⟩ 3) :: (bT, .cells ⟨(ll (afterS y (sellY y G).sold T y.sales.length) y.stock.length).flatMap eI ++ spT⟩ 3) :: (q2 ++ (q1 ++ (b3, .cells ⟨eYard y⟩ 26) :: h)))) (fun m => y.sales.length - m) 0 (Nat.zero_le _) (le_put (le_put (le_put (le_put (le_put (le_put (le_put (le_put (le_emp _) rfl) rfl) rfl) rfl) rfl) rfl) rfl) rfl) (by (first|((repeat first|exact s_0|exact s_1|exact s_3|refine s_4 ?_|refine s_5 ?_|refine s_6 ?_|refine s_7 ?_);done)|((repeat first|exact s_0|exact s_1|exact s_3|refine s_4 ?_|refine s_5 ?_|refine s_6 ?_|refine s_8 ?_);done))) ?_
                    rintro m hm
                    refine xc_seq ?_
                    refine xc_seq (xc_region ?_)
                    refine xr_op rfl rfl (xv_move rfl ?_)
                    refine xr_op rfl rfl (xv_move rfl ?_)
                    refine xr_op rfl rfl (xv_len sl22 rfl ?_)
                    refine xr_op rfl rfl (xv_lss2 rfl rfl (fun q16 => ?_) (fun q16 => ?_))
                    · refine xr_end rfl ?_
                      refine th_n ?_
                      refine xc_true rfl ?_
                      refine xc_skip ?_
                      refine th_n ?_
                      refine xc_seq ?_
                      refine xc_block ?_
                      refine xc_seq ?_
                      refine xc_draw0 [(0, .S), (1, .R), (2, .S), (3, .S), (4, .S), (5, .R), (6, .S), (7, .R), (8, .S), (9, .S), (10, .S), (11, .R), (12, .O), (13, .S), (14, .S), (15, .R), (16, .S), (17, .S), (18, .S), (19, .R), (20, .S), (21, .R), (22, .S), (23, .S), (24, .S), (25, .R), (26, .O), (27, .S), (28, .S), (29, .S), (30, .S), (31, .S), (32, .R), (33, .S), (34, .R), (35, .S), (36, .S), (37, .S), (38, .R), (39, .O), (40, .S), (41, .S), (42, .S), (43, .S), (44, .S), (45, .R), (46, .S), (47, .S)] mixed (by kernel_rfl) ?_
                      have hltu : m < (sellY y G).sold.length := by rw [hSo.len]; (first | omega | (dsimp only at *; omega) | (simp at *; omega))
                      obtain ⟨bu, ou, lu, tu, fzu, hau, hmu, hxu⟩ := (s2).at hltu
                      obtain ⟨xu, hku⟩ : ∃ qq_, (sellY y G).sold[m]? = some qq_ := ⟨_, List.getElem?_eq_getElem hltu⟩
                      have hltv : m < y.sales.length := by (first | omega | (dsimp only at *; omega) | (simp at *; omega))
                      obtain ⟨bv, ov, lv, tv, fzv, hav, hmv, hxv⟩ := (hv.sales).at hltv
                      obtain ⟨xv, hkv⟩ : ∃ qq_, y.sales[m]? = some qq_ := ⟨_, List.getElem?_eq_getElem hltv⟩
                      have hpair := hSo.pair i m xs xv xt xu hks hkv hkt hku
                      refine js_S rfl rfl (.inl rfl) (xv_faddr fl26_2 rfl ⟨rfl, rfl⟩) ?_
                      refine js_R0 rfl rfl (.inl rfl) (xv_load1 ty24 rfl rfl (by (first|((repeat first|exact z_0|assumption|refine z_1 ?_|refine z_r ?_);done)|((repeat refine z_1 ?_);refine z_l ?_;(repeat first|exact z_0|assumption|refine z_1 ?_|refine z_r ?_);done)|((repeat refine z_1 ?_);refine z_r ?_;(repeat refine z_1 ?_);refine z_l ?_;(repeat first|exact z_0|assumption|refine z_1 ?_|refine z_r ?_);done)|((repeat first|exact z_0|assumption|refine z_1 ?_|refine z_l ?_);done))) (by rfl) ⟨rfl, rfl⟩) ?_
                      refine js_S rfl rfl (.inl rfl) (xv_move rfl ⟨rfl, rfl⟩) ?_
                      refine js_S rfl rfl (.inl rfl) (xv_ia (sz := 3) (j := i) sl24 ty51 rfl (by rw [has]; rfl) rfl (by (first | assumption | with_reducible exact Int.toNat_natCast _ | with_reducible rfl | rfl)) (by (first | omega | (dsimp only at *; omega) | (simp at *; omega))) (by (first | omega | (dsimp only at *; omega) | (simp at *; omega))) ⟨rfl, rfl⟩) ?_
                      refine js_S rfl rfl (.inl rfl) (xv_faddr fl51_0 rfl ⟨rfl, rfl⟩) ?_
                      refine js_R0 rfl rfl (.inl rfl) (xv_load1 ty3 rfl rfl (by (first|((repeat first|exact z_0|assumption|refine z_1 ?_|refine z_r ?_);done)|((repeat refine z_1 ?_);refine z_l ?_;(repeat first|exact z_0|assumption|refine z_1 ?_|refine z_r ?_);done)|((repeat refine z_1 ?_);refine z_r ?_;(repeat refine z_1 ?_);refine z_l ?_;(repeat first|exact z_0|assumption|refine z_1 ?_|refine z_r ?_);done)|((repeat first|exact z_0|assumption|refine z_1 ?_|refine z_l ?_);done))) (take_get (hxs (i) xs hks) (j := 0) rfl) ⟨rfl, rfl⟩) ?_
                      refine js_S rfl rfl (.inl rfl) (xv_faddr fl26_2 rfl ⟨rfl, rfl⟩) ?_
                      refine js_R0 rfl rfl (.inl rfl) (xv_load1 ty24 rfl rfl (by (first|((repeat first|exact z_0|assumption|refine z_1 ?_|refine z_r ?_);done)|((repeat refine z_1 ?_);refine z_l ?_;(repeat first|exact z_0|assumption|refine z_1 ?_|refine z_r ?_);done)|((repeat refine z_1 ?_);refine z_r ?_;(repeat refine z_1 ?_);refine z_l ?_;(repeat first|exact z_0|assumption|refine z_1 ?_|refine z_r ?_);done)|((repeat first|exact z_0|assumption|refine z_1 ?_|refine z_l ?_);done))) (by rfl) ⟨rfl, rfl⟩) ?_
                      refine js_S rfl rfl (.inl rfl) (xv_move rfl ⟨rfl, rfl⟩) ?_
                      refine js_S rfl rfl (.inl rfl) (xv_ia (sz := 3) (j := m) sl24 ty51 rfl (by rw [hav]; rfl) rfl (by (first | assumption | with_reducible exact Int.toNat_natCast _ | with_reducible rfl | rfl)) (by (first | omega | (dsimp only at *; omega) | (simp at *; omega))) (by (first | omega | (dsimp only at *; omega) | (simp at *; omega))) ⟨rfl, rfl⟩) ?_
                      refine js_S rfl rfl (.inl rfl) (xv_faddr fl51_0 rfl ⟨rfl, rfl⟩) ?_
                      refine js_R0 rfl rfl (.inl rfl) (xv_load1 ty3 rfl rfl (by (first|((repeat first|exact z_0|assumption|refine z_1 ?_|refine z_r ?_);done)|((repeat refine z_1 ?_);refine z_l ?_;(repeat first|exact z_0|assumption|refine z_1 ?_|refine z_r ?_);done)|((repeat refine z_1 ?_);refine z_r ?_;(repeat refine z_1 ?_);refine z_l ?_;(repeat first|exact z_0|assumption|refine z_1 ?_|refine z_r ?_);done)|((repeat first|exact z_0|assumption|refine z_1 ?_|refine z_l ?_);done))) (take_get (hxv (m) xv hkv) (j := 0) rfl) ⟨rfl, rfl⟩) ?_
                      refine js_O0 rfl rfl (.inl rfl) (xv_eql2 rfl rfl (fun hq => ?_) (fun hq => ?_))
                      · refine js_S rfl rfl (.inl rfl) (xv_move rfl ⟨rfl, rfl⟩) ?_
                        refine js_S rfl rfl (.inr ⟨_, _, rfl, rfl⟩) (xv_faddr fl26_2 rfl ⟨rfl, rfl⟩) ?_
                        refine js_R0 rfl rfl (.inr ⟨_, _, rfl, rfl⟩) (xv_load1 ty24 rfl rfl (by (first|((repeat first|exact z_0|assumption|refine z_1 ?_|refine z_r ?_);done)|((repeat refine z_1 ?_);refine z_l ?_;(repeat first|exact z_0|assumption|refine z_1 ?_|refine z_r ?_);done)|((repeat refine z_1 ?_);refine z_r ?_;(repeat refine z_1 ?_);refine z_l ?_;(repeat first|exact z_0|assumption|refine z_1 ?_|refine z_r ?_);done)|((repeat first|exact z_0|assumption|refine z_1 ?_|refine z_l ?_);done))) (by rfl) ⟨rfl, rfl⟩) ?_
                        refine js_S rfl rfl (.inr ⟨_, _, rfl, rfl⟩) (xv_move rfl ⟨rfl, rfl⟩) ?_
                        refine js_S rfl rfl (.inr ⟨_, _, rfl, rfl⟩) (xv_ia (sz := 3) (j := i) sl24 ty51 rfl (by rw [has]; rfl) rfl (by (first | assumption | with_reducible exact Int.toNat_natCast _ | with_reducible rfl | rfl)) (by (first | omega | (dsimp only at *; omega) | (simp at *; omega))) (by (first | omega | (dsimp only at *; omega) | (simp at *; omega))) ⟨rfl, rfl⟩) ?_
                        refine js_S rfl rfl (.inr ⟨_, _, rfl, rfl⟩) (xv_faddr fl51_2 rfl ⟨rfl, rfl⟩) ?_
                        refine js_R0 rfl rfl (.inr ⟨_, _, rfl, rfl⟩) (xv_load1 ty3 rfl rfl (by (first|((repeat first|exact z_0|assumption|refine z_1 ?_|refine z_r ?_);done)|((repeat refine z_1 ?_);refine z_l ?_;(repeat first|exact z_0|assumption|refine z_1 ?_|refine z_r ?_);done)|((repeat refine z_1 ?_);refine z_r ?_;(repeat refine z_1 ?_);refine z_l ?_;(repeat first|exact z_0|assumption|refine z_1 ?_|refine z_r ?_);done)|((repeat first|exact z_0|assumption|refine z_1 ?_|refine z_l ?_);done))) (take_get (hxs (i) xs hks) (j := 2) rfl) ⟨rfl, rfl⟩) ?_
                        refine js_S rfl rfl (.inr ⟨_, _, rfl, rfl⟩) (xv_faddr fl26_2 rfl ⟨rfl, rfl⟩) ?_
                        refine js_R0 rfl rfl (.inr ⟨_, _, rfl, rfl⟩) (xv_load1 ty24 rfl rfl (by (first|((repeat first|exact z_0|assumption|refine z_1 ?_|refine z_r ?_);done)|((repeat refine z_1 ?_);refine z_l ?_;(repeat first|exact z_0|assumption|refine z_1 ?_|refine z_r ?_);done)|((repeat refine z_1 ?_);refine z_r ?_;(repeat refine z_1 ?_);refine z_l ?_;(repeat first|exact z_0|assumption|refine z_1 ?_|refine z_r ?_);done)|((repeat first|exact z_0|assumption|refine z_1 ?_|refine z_l ?_);done))) (by rfl) ⟨rfl, rfl⟩) ?_
                        refine js_S rfl rfl (.inr ⟨_, _, rfl, rfl⟩) (xv_move rfl ⟨rfl, rfl⟩) ?_
                        refine js_S rfl rfl (.inr ⟨_, _, rfl, rfl⟩) (xv_ia (sz := 3) (j := m) sl24 ty51 rfl (by rw [hav]; rfl) rfl (by (first | assumption | with_reducible exact Int.toNat_natCast _ | with_reducible rfl | rfl)) (by (first | omega | (dsimp only at *; omega) | (simp at *; omega))) (by (first | omega | (dsimp only at *; omega) | (simp at *; omega))) ⟨rfl, rfl⟩) ?_
                        refine js_S rfl rfl (.inr ⟨_, _, rfl, rfl⟩) (xv_faddr fl51_2 rfl ⟨rfl, rfl⟩) ?_
                        refine js_R0 rfl rfl (.inr ⟨_, _, rfl, rfl⟩) (xv_load1 ty3 rfl rfl (by (first|((repeat first|exact z_0|assumption|refine z_1 ?_|refine z_r ?_);done)|((repeat refine z_1 ?_);refine z_l ?_;(repeat first|exact z_0|assumption|refine z_1 ?_|refine z_r ?_);done)|((repeat refine z_1 ?_);refine z_r ?_;(repeat refine z_1 ?_);refine z_l ?_;(repeat first|exact z_0|assumption|refine z_1 ?_|refine z_r ?_);done)|((repeat first|exact z_0|assumption|refine z_1 ?_|refine z_l ?_);done))) (take_get (hxv (m) xv hkv) (j := 2) rfl) ⟨rfl, rfl⟩) ?_
                        refine js_O0 rfl rfl (.inr ⟨_, _, rfl, rfl⟩) (xv_gtr2 rfl rfl (fun hq => ?_) (fun hq => ?_))
                        · refine js_S rfl rfl (.inl rfl) (xv_pick rfl rfl ⟨rfl, rfl⟩) ?_
                          refine js_S rfl rfl (.inl rfl) (xv_move rfl ⟨rfl, rfl⟩) ?_
                          refine js_S rfl rfl (.inr ⟨_, _, rfl, rfl⟩) (xv_move rfl ⟨rfl, rfl⟩) ?_
                          refine js_S rfl rfl (.inr ⟨_, _, rfl, rfl⟩) (xv_move rfl ⟨rfl, rfl⟩) ?_
                          refine js_S rfl rfl (.inr ⟨_, _, rfl, rfl⟩) (xv_ia (sz := 1) (j := i) sl22 ty3 rfl (by rw [hat]; rfl) rfl (by (first | assumption | with_reducible exact Int.toNat_natCast _ | with_reducible rfl | rfl)) (by (first | omega | (dsimp only at *; omega) | (simp at *; omega))) (by (first | omega | (dsimp only at *; omega) | (simp at *; omega))) ⟨rfl, rfl⟩) ?_
                          refine js_R0 rfl rfl (.inr ⟨_, _, rfl, rfl⟩) (xv_load1 ty3 rfl rfl (by (first|((repeat first|exact z_0|assumption|refine z_1 ?_|refine z_r ?_);done)|((repeat refine z_1 ?_);refine z_l ?_;(repeat first|exact z_0|assumption|refine z_1 ?_|refine z_r ?_);done)|((repeat refine z_1 ?_);refine z_r ?_;(repeat refine z_1 ?_);refine z_l ?_;(repeat first|exact z_0|assumption|refine z_1 ?_|refine z_r ?_);done)|((repeat first|exact z_0|assumption|refine z_1 ?_|refine z_l ?_);done))) (take_get (hxt (i) xt hkt) (j := 0) rfl) ⟨rfl, rfl⟩) ?_
                          refine js_S rfl rfl (.inr ⟨_, _, rfl, rfl⟩) (xv_faddr fl26_2 rfl ⟨rfl, rfl⟩) ?_
                          refine js_R0 rfl rfl (.inr ⟨_, _, rfl, rfl⟩) (xv_load1 ty24 rfl rfl (by (first|((repeat first|exact z_0|assumption|refine z_1 ?_|refine z_r ?_);done)|((repeat refine z_1 ?_);refine z_l ?_;(repeat first|exact z_0|assumption|refine z_1 ?_|refine z_r ?_);done)|((repeat refine z_1 ?_);refine z_r ?_;(repeat refine z_1 ?_);refine z_l ?_;(repeat first|exact z_0|assumption|refine z_1 ?_|refine z_r ?_);done)|((repeat first|exact z_0|assumption|refine z_1 ?_|refine z_l ?_);done))) (by rfl) ⟨rfl, rfl⟩) ?_
                          refine js_S rfl rfl (.inr ⟨_, _, rfl, rfl⟩) (xv_move rfl ⟨rfl, rfl⟩) ?_
                          refine js_S rfl rfl (.inr ⟨_, _, rfl, rfl⟩) (xv_ia (sz := 3) (j := i) sl24 ty51 rfl (by rw [has]; rfl) rfl (by (first | assumption | with_reducible exact Int.toNat_natCast _ | with_reducible rfl | rfl)) (by (first | omega | (dsimp only at *; omega) | (simp at *; omega))) (by (first | omega | (dsimp only at *; omega) | (simp at *; omega))) ⟨rfl, rfl⟩) ?_
                          refine js_S rfl rfl (.inr ⟨_, _, rfl, rfl⟩) (xv_faddr fl51_1 rfl ⟨rfl, rfl⟩) ?_
                          refine js_R0 rfl rfl (.inr ⟨_, _, rfl, rfl⟩) (xv_load1 ty3 rfl rfl (by (first|((repeat first|exact z_0|assumption|refine z_1 ?_|refine z_r ?_);done)|((repeat refine z_1 ?_);refine z_l ?_;(repeat first|exact z_0|assumption|refine z_1 ?_|refine z_r ?_);done)|((repeat refine z_1 ?_);refine z_r ?_;(repeat refine z_1 ?_);refine z_l ?_;(repeat first|exact z_0|assumption|refine z_1 ?_|refine z_r ?_);done)|((repeat first|exact z_0|assumption|refine z_1 ?_|refine z_l ?_);done))) (take_get (hxs (i) xs hks) (j := 1) rfl) ⟨rfl, rfl⟩) ?_
                          refine js_O0 rfl rfl (.inr ⟨_, _, rfl, rfl⟩) (xv_lss2 rfl rfl (fun hq => ?_) (fun hq => ?_))
                          · refine js_S rfl rfl (.inl rfl) (xv_pick rfl rfl ⟨rfl, rfl⟩) ?_
                            refine js_S rfl rfl (.inl rfl) (xv_move rfl ⟨rfl, rfl⟩) ?_
                            refine js_S rfl rfl (.inr ⟨_, _, rfl, rfl⟩) (xv_move rfl ⟨rfl, rfl⟩) ?_
                            refine js_S rfl rfl (.inr ⟨_, _, rfl, rfl⟩) (xv_move rfl ⟨rfl, rfl⟩) ?_
                            refine js_S rfl rfl (.inr ⟨_, _, rfl, rfl⟩) (xv_ia (sz := 1) (j := m) sl22 ty3 rfl (by rw [hau]; rfl) rfl (by (first | assumption | with_reducible exact Int.toNat_natCast _ | with_reducible rfl | rfl)) (by (first | omega | (dsimp only at *; omega) | (simp at *; omega))) (by (first | omega | (dsimp only at *; omega) | (simp at *; omega))) ⟨rfl, rfl⟩) ?_
                            refine js_R0 rfl rfl (.inr ⟨_, _, rfl, rfl⟩) (xv_load1 ty3 rfl rfl (by (first|((repeat first|exact z_0|assumption|refine z_1 ?_|refine z_r ?_);done)|((repeat refine z_1 ?_);refine z_l ?_;(repeat first|exact z_0|assumption|refine z_1 ?_|refine z_r ?_);done)|((repeat refine z_1 ?_);refine z_r ?_;(repeat refine z_1 ?_);refine z_l ?_;(repeat first|exact z_0|assumption|refine z_1 ?_|refine z_r ?_);done)|((repeat first|exact z_0|assumption|refine z_1 ?_|refine z_l ?_);done))) (take_get (hxu (m) xu hku) (j := 0) rfl) ⟨rfl, rfl⟩) ?_
                            refine js_S rfl rfl (.inr ⟨_, _, rfl, rfl⟩) (xv_cmpK rfl rfl (cmpF rfl (by simp only [cmpP]; have := hpair (by (first | omega | (dsimp only at *; omega) | (simp at *; omega))) (by (first | omega | (dsimp only at *; omega) | (simp at *; omega))) (by (first | omega | (dsimp only at *; omega) | (simp at *; omega))); (first | omega | (dsimp only at *; omega) | (simp at *; omega)))) ⟨rfl, rfl⟩) ?_
                            refine js_S rfl rfl (.inl rfl) (xv_pick rfl rfl ⟨rfl, rfl⟩) ?_
                            refine j_end0 ?_
                            refine th_n ?_
                            refine xc_false rfl ?_
                            refine xc_skip ?_
                            refine bk_n ?_
                            refine th_n ?_
                            refine xc_region ?_
                            refine xr_op rfl rfl (xv_move rfl ?_)
                            refine xr_op rfl rfl (xv_add rfl rfl (wrap_i64 (by (first | omega | (dsimp only at *; omega) | (simp at *; omega))) (by (first | omega | (dsimp only at *; omega) | (simp at *; omega)))) ?_)
                            refine xr_op rfl rfl (xv_assign rfl ?_)
                            refine xr_end rfl ?_
                            exact rnd (m + 1) (by (first | omega | (dsimp only at *; omega) | (simp at *; omega))) (by (first | omega | (dsimp only at *; omega) | (simp at *; omega))) (le_put (le_put (le_put (le_put (le_put (le_put (le_put (le_put (le_emp _) rfl) rfl) rfl) rfl) rfl) rfl) rfl) rfl) (by (first|((repeat first|exact s_0|exact s_1|exact s_3|refine s_4 ?_|refine s_5 ?_|refine s_6 ?_|refine s_7 ?_);done)|((repeat first|exact s_0|exact s_1|exact s_3|refine s_4 ?_|refine s_5 ?_|refine s_6 ?_|refine s_8 ?_);done)))
                          · refine js_S rfl rfl (.inl rfl) (xv_pick rfl rfl ⟨rfl, rfl⟩) ?_
                            refine js_S rfl rfl (.inl rfl) (xv_move rfl ⟨rfl, rfl⟩) ?_
                            refine js_Ss rfl rfl ⟨_, _, _, rfl, rfl, rfl⟩ ?_
                            refine js_Ss rfl rfl ⟨_, _, _, rfl, rfl, rfl⟩ ?_
                            refine js_Ss rfl rfl ⟨_, _, _, rfl, rfl, rfl⟩ ?_
                            refine js_Rs rfl rfl ⟨_, _, _, rfl, rfl, rfl⟩ ?_
                            refine js_Ss rfl rfl ⟨_, _, _, rfl, rfl, rfl⟩ ?_
                            refine js_S rfl rfl (.inl rfl) (xv_pick rfl rfl ⟨rfl, rfl⟩) ?_
                            refine j_end0 ?_
                            refine th_n ?_
                            refine xc_false rfl ?_
                            refine xc_skip ?_
                            refine bk_n ?_
                            refine th_n ?_
                            refine xc_region ?_
                            refine xr_op rfl rfl (xv_move rfl ?_)
                            refine xr_op rfl rfl (xv_add rfl rfl (wrap_i64 (by (first | omega | (dsimp only at *; omega) | (simp at *; omega))) (by (first | omega | (dsimp only at *; omega) | (simp at *; omega)))) ?_)
                            refine xr_op rfl rfl (xv_assign rfl ?_)
                            refine xr_end rfl ?_
                            exact rnd (m + 1) (by (first | omega | (dsimp only at *; omega) | (simp at *; omega))) (by (first | omega | (dsimp only at *; omega) | (simp at *; omega))) (le_put (le_put (le_put (le_put (le_put (le_put (le_put (le_put (le_emp _) rfl) rfl) rfl) rfl) rfl) rfl) rfl) rfl) (by (first|((repeat first|exact s_0|exact s_1|exact s_3|refine s_4 ?_|refine s_5 ?_|refine s_6 ?_|refine s_7 ?_);done)|((repeat first|exact s_0|exact s_1|exact s_3|refine s_4 ?_|refine s_5 ?_|refine s_6 ?_|refine s_8 ?_);done)))
                        · refine js_S rfl rfl (.inl rfl) (xv_pick rfl rfl ⟨rfl, rfl⟩) ?_
                          refine js_S rfl rfl (.inl rfl) (xv_move rfl ⟨rfl, rfl⟩) ?_
                          refine js_Ss rfl rfl ⟨_, _, _, rfl, rfl, rfl⟩ ?_
                          refine js_Ss rfl rfl ⟨_, _, _, rfl, rfl, rfl⟩ ?_
                          refine js_Ss rfl rfl ⟨_, _, _, rfl, rfl, rfl⟩ ?_
                          refine js_Rs rfl rfl ⟨_, _, _, rfl, rfl, rfl⟩ ?_
                          refine js_Ss rfl rfl ⟨_, _, _, rfl, rfl, rfl⟩ ?_
                          refine js_Rs rfl rfl ⟨_, _, _, rfl, rfl, rfl⟩ ?_
                          refine js_Ss rfl rfl ⟨_, _, _, rfl, rfl, rfl⟩ ?_
                          refine js_Ss rfl rfl ⟨_, _, _, rfl, rfl, rfl⟩ ?_
                          refine js_Ss rfl rfl ⟨_, _, _, rfl, rfl, rfl⟩ ?_
                          refine js_Rs rfl rfl ⟨_, _, _, rfl, rfl, rfl⟩ ?_
                          refine js_Os rfl rfl ⟨_, _, _, rfl, rfl, rfl⟩ ?_
                          refine js_S rfl rfl (.inl rfl) (xv_pick rfl rfl ⟨rfl, rfl⟩) ?_
                          refine js_S rfl rfl (.inl rfl) (xv_move rfl ⟨rfl, rfl⟩) ?_
                          refine js_Ss rfl rfl ⟨_, _, _, rfl, rfl, rfl⟩ ?_
                          refine js_Ss rfl rfl ⟨_, _, _, rfl, rfl, rfl⟩ ?_
                          refine js_Ss rfl rfl ⟨_, _, _, rfl, rfl, rfl⟩ ?_
                          refine js_Rs rfl rfl ⟨_, _, _, rfl, rfl, rfl⟩ ?_
                          refine js_Ss rfl rfl ⟨_, _, _, rfl, rfl, rfl⟩ ?_
                          refine js_S rfl rfl (.inl rfl) (xv_pick rfl rfl ⟨rfl, rfl⟩) ?_
                          refine j_end0 ?_
                          refine th_n ?_
                          refine xc_false rfl ?_
                          refine xc_skip ?_
                          refine bk_n ?_
                          refine th_n ?_
                          refine xc_region ?_
                          refine xr_op rfl rfl (xv_move rfl ?_)
                          refine xr_op rfl rfl (xv_add rfl rfl (wrap_i64 (by (first | omega | (dsimp only at *; omega) | (simp at *; omega))) (by (first | omega | (dsimp only at *; omega) | (simp at *; omega)))) ?_)
                          refine xr_op rfl rfl (xv_assign rfl ?_)
                          refine xr_end rfl ?_
                          exact rnd (m + 1) (by (first | omega | (dsimp only at *; omega) | (simp at *; omega))) (by (first | omega | (dsimp only at *; omega) | (simp at *; omega))) (le_put (le_put (le_put (le_put (le_put (le_put (le_put (le_put (le_emp _) rfl) rfl) rfl) rfl) rfl) rfl) rfl) rfl) (by (first|((repeat first|exact s_0|exact s_1|exact s_3|refine s_4 ?_|refine s_5 ?_|refine s_6 ?_|refine s_7 ?_);done)|((repeat first|exact s_0|exact s_1|exact s_3|refine s_4 ?_|refine s_5 ?_|refine s_6 ?_|refine s_8 ?_);done)))
                      · refine js_S rfl rfl (.inl rfl) (xv_move rfl ⟨rfl, rfl⟩) ?_
                        refine js_Ss rfl rfl ⟨_, _, _, rfl, rfl, rfl⟩ ?_
                        refine js_Rs rfl rfl ⟨_, _, _, rfl, rfl, rfl⟩ ?_
                        refine js_Ss rfl rfl ⟨_, _, _, rfl, rfl, rfl⟩ ?_
                        refine js_Ss rfl rfl ⟨_, _, _, rfl, rfl, rfl⟩ ?_
                        refine js_Ss rfl rfl ⟨_, _, _, rfl, rfl, rfl⟩ ?_
                        refine js_Rs rfl rfl ⟨_, _, _, rfl, rfl, rfl⟩ ?_
                        refine js_Ss rfl rfl ⟨_, _, _, rfl, rfl, rfl⟩ ?_
                        refine js_Rs rfl rfl ⟨_, _, _, rfl, rfl, rfl⟩ ?_
                        refine js_Ss rfl rfl ⟨_, _, _, rfl, rfl, rfl⟩ ?_
                        refine js_Ss rfl rfl ⟨_, _, _, rfl, rfl, rfl⟩ ?_
                        refine js_Ss rfl rfl ⟨_, _, _, rfl, rfl, rfl⟩ ?_
                        refine js_Rs rfl rfl ⟨_, _, _, rfl, rfl, rfl⟩ ?_
                        refine js_Os rfl rfl ⟨_, _, _, rfl, rfl, rfl⟩ ?_
                        refine js_S rfl rfl (.inl rfl) (xv_pick rfl rfl ⟨rfl, rfl⟩) ?_
                        refine js_S rfl rfl (.inl rfl) (xv_move rfl ⟨rfl, rfl⟩) ?_
                        refine js_Ss rfl rfl ⟨_, _, _, rfl, rfl, rfl⟩ ?_
                        refine js_Ss rfl rfl ⟨_, _, _, rfl, rfl, rfl⟩ ?_
                        refine js_Ss rfl rfl ⟨_, _, _, rfl, rfl, rfl⟩ ?_
                        refine js_Rs rfl rfl ⟨_, _, _, rfl, rfl, rfl⟩ ?_
                        refine js_Ss rfl rfl ⟨_, _, _, rfl, rfl, rfl⟩ ?_
                        refine js_Rs rfl rfl ⟨_, _, _, rfl, rfl, rfl⟩ ?_
                        refine js_Ss rfl rfl ⟨_, _, _, rfl, rfl, rfl⟩ ?_
                        refine js_Ss rfl rfl ⟨_, _, _, rfl, rfl, rfl⟩ ?_
                        refine js_Ss rfl rfl ⟨_, _, _, rfl, rfl, rfl⟩ ?_
                        refine js_Rs rfl rfl ⟨_, _, _, rfl, rfl, rfl⟩ ?_
                        refine js_Os rfl rfl ⟨_, _, _, rfl, rfl, rfl⟩ ?_
                        refine js_S rfl rfl (.inl rfl) (xv_pick rfl rfl ⟨rfl, rfl⟩) ?_
                        refine js_S rfl rfl (.inl rfl) (xv_move rfl ⟨rfl, rfl⟩) ?_
                        refine js_Ss rfl rfl ⟨_, _, _, rfl, rfl, rfl⟩ ?_
                        refine js_Ss rfl rfl ⟨_, _, _, rfl, rfl, rfl⟩ ?_
                        refine js_Ss rfl rfl ⟨_, _, _, rfl, rfl, rfl⟩ ?_
                        refine js_Rs rfl rfl ⟨_, _, _, rfl, rfl, rfl⟩ ?_
                        refine js_Ss rfl rfl ⟨_, _, _, rfl, rfl, rfl⟩ ?_
                        refine js_S rfl rfl (.inl rfl) (xv_pick rfl rfl ⟨rfl, rfl⟩) ?_
                        refine j_end0 ?_
                        refine th_n ?_
                        refine xc_false rfl ?_
                        refine xc_skip ?_
                        refine bk_n ?_
                        refine th_n ?_
                        refine xc_region ?_
                        refine xr_op rfl rfl (xv_move rfl ?_)
                        refine xr_op rfl rfl (xv_add rfl rfl (wrap_i64 (by (first | omega | (dsimp only at *; omega) | (simp at *; omega))) (by (first | omega | (dsimp only at *; omega) | (simp at *; omega)))) ?_)
                        refine xr_op rfl rfl (xv_assign rfl ?_)
                        refine xr_end rfl ?_
                        exact rnd (m + 1) (by (first | omega | (dsimp only at *; omega) | (simp at *; omega))) (by (first | omega | (dsimp only at *; omega) | (simp at *; omega))) (le_put (le_put (le_put (le_put (le_put (le_put (le_put (le_put (le_emp _) rfl) rfl) rfl) rfl) rfl) rfl) rfl) rfl) (by (first|((repeat first|exact s_0|exact s_1|exact s_3|refine s_4 ?_|refine s_5 ?_|refine s_6 ?_|refine s_7 ?_);done)|((repeat first|exact s_0|exact s_1|exact s_3|refine s_4 ?_|refine s_5 ?_|refine s_6 ?_|refine s_8 ?_);done)))
                    · refine xr_end rfl ?_
                      refine th_n ?_
                      refine xc_false rfl ?_
                      refine xc_exit ?_
                      refine th_x ?_
                      refine th_x ?_
                      refine bk_same ?_
                      refine bk_n ?_
                      refine th_n ?_
                      refine xc_region ?_
                      refine xr_op rfl rfl (xv_move rfl ?_)
                      refine xr_op rfl rfl (xv_add rfl rfl (wrap_i64 (by (first | omega | (dsimp only at *; omega) | (simp at *; omega))) (by (first | omega | (dsimp only at *; omega) | (simp at *; omega)))) ?_)
                      refine xr_op rfl rfl (xv_assign rfl ?_)
                      refine xr_end rfl ?_
                      exact rnd (i + 1) (by (first | omega | (dsimp only at *; omega) | (simp at *; omega))) (by (first | omega | (dsimp only at *; omega) | (simp at *; omega))) (le_put (le_put (le_put (le_put (le_put (le_put (le_put (le_emp _) rfl) rfl) rfl) rfl) rfl) rfl) rfl) (by (first|((repeat first|exact s_0|exact s_1|exact s_3|refine s_4 ?_|refine s_5 ?_|refine s_6 ?_|refine s_7 ?_);done)|((repeat first|exact s_0|exact s_1|exact s_3|refine s_4 ?_|refine s_5 ?_|refine s_6 ?_|refine s_8 ?_);done)))
                · refine xr_end rfl ?_
                  refine th_n ?_
                  refine xc_false rfl ?_
                  refine xc_exit ?_
                  refine th_x ?_
                  refine th_x ?_
                  refine bk_same ?_
                  refine th_n ?_
                  refine xc_seq (xc_region ?_)
                  have hfin : ((pays y.stills plan).sum + valF y.sales (sF (sellY y G).sold) (nums y.sales.length)) = incomeY y plan G := hinc.symm
                  refine xr_op rfl rfl (xv_move rfl ?_)
                  refine xr_op rfl rfl (xv_move rfl ?_)
                  refine xr_op rfl rfl (xv_eqlT rfl rfl hfin ?_)
                  refine xr_op rfl rfl (xv_move rfl ?_)
                  refine xr_gd rfl rfl rfl (xv_calls rfl hb10 (awake_c (up_ret ?_)))
                  refine xr_op rfl rfl (xv_pick rfl rfl ?_)
                  refine xr_op rfl rfl (xv_assign rfl ?_)
                  refine xr_end rfl ?_
                  refine th_n ?_
                  refine xc_ret ?_
                  refine body_ret (h' := h) rfl (ro_tmp rfl ro_nil) (by (first|((repeat first|exact s_0|exact s_1|exact s_3|refine s_4 ?_|refine s_5 ?_|refine s_6 ?_|refine s_7 ?_);done)|((repeat first|exact s_0|exact s_1|exact s_3|refine s_4 ?_|refine s_5 ?_|refine s_6 ?_|refine s_8 ?_);done))) ?_
                  exact H

end Go.Proofs.Ytlailecnbdlknaa
